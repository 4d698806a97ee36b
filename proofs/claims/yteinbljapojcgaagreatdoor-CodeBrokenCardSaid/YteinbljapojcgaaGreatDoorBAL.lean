/- A symbolic run of the program that Lean checks, and what the functions of the program come to by it: part 12 of 13. -/
import Derived.ProofKit
import Derived.ReadAgain
import Derived.Deep.Onto
import Derived.Test.YteinbljapojcgaaGreatDoorRows
import Derived.LaidMore
import Derived.Lay
import Derived.Lib.LaidTab
import Derived.Shelf.Vars
import Derived.MakeChecks
import Derived.Test.YteinbljapojcgaaGreatDoorBAK
set_option linter.unusedVariables false
section
namespace Go.Proofs
open Go Go.SX
set_option maxRecDepth 10000
theorem eqL_eq {α : Type} {f : α → α → Bool} (hf : ∀ a b, f a b = true → a = b) : ∀ {l m : List α}, eqL f l m = true → l = m
 | [], [], _ => rfl
 | x :: l, y :: m, h => by
  unfold eqL at h
  rw [Bool.and_eq_true] at h
  rw [hf x y h.1, eqL_eq hf h.2]
 | [], _ :: _, h => by cases h
 | _ :: _, [], h => by cases h
theorem eqI_eq (a b : Int) (h : eqI a b = true) : a = b := by simpa [eqI] using h
theorem eqT_eq (a b : Ty) (h : eqT a b = true) : a = b := by
 obtain ⟨a1, a2, a3, a4, a5⟩ := a
 obtain ⟨b1, b2, b3, b4, b5⟩ := b
 simp only [eqT, Bool.and_eq_true, beq_iff_eq] at h
 obtain ⟨h1, h2, h3, h4, h5⟩ := h
 subst h1 h2 h3 h4 h5
 rfl
theorem eqF_eq (a b : Fm) (h : eqF a b = true) : a = b := by
 obtain ⟨a1, a2, a3, a4⟩ := a
 obtain ⟨b1, b2, b3, b4⟩ := b
 simp only [eqF, Bool.and_eq_true, beq_iff_eq] at h
 obtain ⟨h1, h2, h3, h4⟩ := h
 subst h1 h2 h3 h4
 rfl
theorem eqIn_eq {x y : In} (h : eqIn x y = true) : x = y := by
 unfold eqIn eqIn1 at h
 simp only [Bool.and_eq_true, beq_iff_eq] at h
 obtain ⟨⟨⟨⟨⟨hh, hf⟩, hl⟩, hy⟩, hs⟩, hr⟩ := h
 obtain ⟨⟨⟨⟨⟨⟨⟨⟨⟨⟨h1, h2⟩, h3⟩, h4⟩, h5⟩, h6⟩, h7⟩, h8⟩, h9⟩, h10⟩, h11, h12⟩ := hh
 have e5 := eqT_eq _ _ h5
 have e6 := eqT_eq _ _ h6
 have e7 := eqT_eq _ _ h7
 have ef := eqL_eq eqF_eq hf
 have el := eqL_eq eqI_eq hl
 have ey := eqL_eq eqT_eq hy
 obtain ⟨a1, a2, a3, a4, a5, a6, a7, a8, a9, a10, a11, a12, a13, a14, a15, a16, a17⟩ := x
 obtain ⟨b1, b2, b3, b4, b5, b6, b7, b8, b9, b10, b11, b12, b13, b14, b15, b16, b17⟩ := y
 simp only at h1 h2 h3 h4 e5 e6 e7 h8 h9 h10 h11 h12 ef el ey hs hr
 subst h1 h2 h3 h4 e5 e6 e7 h8 h9 h10 h11 h12 ef el ey hs hr
 rfl
def inR (n lo hi : Int) : Bool := decide (n ≥ lo) && decide (n ≤ hi)
def numR (n : Int) : Bool := decide (n ≥ -2147483647) && decide (n ≤ 2147483647)
def tyR (t : Ty) : Bool := numR t.k && numR t.p && numR t.q && decide ((t.s.length : Int) ≤ 255)
def fmR (f : Fm) : Bool := numR f.k && numR f.w && numR f.d && decide ((f.s.length : Int) ≤ 255)
theorem numR_eq (n : Int) : numR n = isNum n := by unfold numR isNum; rw [Bool.eq_iff_iff]; simp; omega
theorem tyR_eq (t : Ty) : tyR t = isTy t := by unfold tyR isTy; rw [numR_eq, numR_eq, numR_eq]
theorem fmR_eq (f : Fm) : fmR f = isFm f := by unfold fmR isFm; rw [numR_eq, numR_eq, numR_eq]
theorem rgR_eq (n : Int) : inR n (-1) 3999 = isRg n := by unfold inR isRg; rw [Bool.eq_iff_iff]; simp; omega
theorem liR_eq (n : Int) : inR n 0 3999 = fineI n := by unfold inR fineI isRg; rw [Bool.eq_iff_iff]; simp; omega
theorem all_eq {α : Type} {f g : α → Bool} (h : ∀ x, f x = g x) (l : List α) : l.all f = l.all g := by rw [show f = g from funext h]
theorem and_l {a b : Bool} (h : (a && b) = true) : a = true := (Bool.and_eq_true .. ▸ h : a = true ∧ b = true).1
theorem and_r {a b : Bool} (h : (a && b) = true) : b = true := (Bool.and_eq_true .. ▸ h : a = true ∧ b = true).2
structure Good (x : In) : Prop where
 gd : inR x.d (-1) 3999 = true
 ga : inR x.a (-1) 3999 = true
 gb : inR x.b (-1) 3999 = true
 gn : numR x.n = true
 gm : numR x.m = true
 gp : numR x.p = true
 gt : tyR x.t = true
 gu : tyR x.u = true
 gw : tyR x.w = true
 gvn : numR x.vn = true
 gvs : decide ((x.vs.length : Int) ≤ 255) = true
 nf : decide ((x.f.length : Int) ≤ 16) = true
 nl : decide ((x.l.length : Int) ≤ 16) = true
 ny : decide ((x.y.length : Int) ≤ 16) = true
 gf : x.f.all fmR = true
 gl : (x.l.all fun n => inR n 0 3999) = true
 gy : x.y.all tyR = true
theorem Good.zero (op : Int) : Good (emptyI op) := ⟨rfl, rfl, rfl, rfl, rfl, rfl, rfl, rfl, rfl, rfl, rfl, rfl, rfl, rfl, rfl, rfl, rfl⟩
def letR (f : Fl) (x : In) : Bool := match f with
 | .aN => inR x.n 0 1048576
 | .aM => inR x.m 0 1048576
 | .pN => inR x.n 0 63
 | .pM => inR x.m (-1) 63
 | .far => inR x.n 0 1048576 && inR x.p 0 63
 | _ => true
theorem num_of {n lo hi : Int} (h : inR n lo hi = true) (h1 : -2147483647 ≤ lo := by decide) (h2 : hi ≤ 2147483647 := by decide) : numR n = true := by
 unfold inR at h
 unfold numR
 simp only [Bool.and_eq_true, decide_eq_true_eq] at h ⊢
 omega
theorem prR_eq (n : Int) : inR n 0 63 = isPr false n := by unfold inR isPr; simp
theorem pmR_eq (n : Int) : inR n (-1) 63 = isPr true n := by unfold inR isPr; rw [Bool.eq_iff_iff]; simp; omega
theorem farR_eq (x : In) : (inR x.n 0 1048576 && inR x.p 0 63) = isFar x := by unfold inR isFar; rw [Bool.eq_iff_iff]; simp; omega
theorem letR_of (f : Fl) (x : In) (h : f.fineB x = true) : letR f x = true := by
 cases f
 case aN => exact h
 case aM => exact h
 case pN => exact (prR_eq x.n).trans h
 case pM => exact (pmR_eq x.m).trans h
 case far => exact (farR_eq x).trans h
 all_goals rfl
theorem fine_of (f : Fl) (x : In) (g : Good x) (h : letR f x = true) : f.fineB x = true := by
 cases f
 case D => exact (rgR_eq x.d).symm.trans g.gd
 case A => exact (rgR_eq x.a).symm.trans g.ga
 case B => exact (rgR_eq x.b).symm.trans g.gb
 case N => exact (numR_eq x.n).symm.trans g.gn
 case M => exact (numR_eq x.m).symm.trans g.gm
 case P => exact (numR_eq x.p).symm.trans g.gp
 case T => exact (tyR_eq x.t).symm.trans g.gt
 case U => exact (tyR_eq x.u).symm.trans g.gu
 case W => exact (tyR_eq x.w).symm.trans g.gw
 case V =>
  show (isNum x.vn && decide ((x.vs.length : Int) ≤ 255)) = true
  rw [← numR_eq, g.gvn, g.gvs]
  rfl
 case L =>
  show (x.l.all fineI && decide ((x.l.length : Int) ≤ 16)) = true
  rw [← all_eq liR_eq, g.gl, g.nl]
  rfl
 case Y =>
  show (x.y.all isTy && decide ((x.y.length : Int) ≤ 16)) = true
  rw [← all_eq tyR_eq, g.gy, g.ny]
  rfl
 case F =>
  show (x.f.all isFm && decide ((x.f.length : Int) ≤ 16)) = true
  rw [← all_eq fmR_eq, g.gf, g.nf]
  rfl
 case Sz => rfl
 case Rg => rfl
 case aN => exact h
 case aM => exact h
 case pN => exact (prR_eq x.n).symm.trans h
 case pM => exact (pmR_eq x.m).symm.trans h
 case far => exact (farR_eq x).symm.trans h
theorem Good.mv {x y : In} (g : Good y) (f : Fl) (h : f.fineB x = true) : Good (f.mv x y) := by
 cases f
 case D => exact ⟨(rgR_eq x.d).trans h, g.ga, g.gb, g.gn, g.gm, g.gp, g.gt, g.gu, g.gw, g.gvn, g.gvs, g.nf, g.nl, g.ny, g.gf, g.gl, g.gy⟩
 case A => exact ⟨g.gd, (rgR_eq x.a).trans h, g.gb, g.gn, g.gm, g.gp, g.gt, g.gu, g.gw, g.gvn, g.gvs, g.nf, g.nl, g.ny, g.gf, g.gl, g.gy⟩
 case B => exact ⟨g.gd, g.ga, (rgR_eq x.b).trans h, g.gn, g.gm, g.gp, g.gt, g.gu, g.gw, g.gvn, g.gvs, g.nf, g.nl, g.ny, g.gf, g.gl, g.gy⟩
 case N => exact ⟨g.gd, g.ga, g.gb, (numR_eq x.n).trans h, g.gm, g.gp, g.gt, g.gu, g.gw, g.gvn, g.gvs, g.nf, g.nl, g.ny, g.gf, g.gl, g.gy⟩
 case M => exact ⟨g.gd, g.ga, g.gb, g.gn, (numR_eq x.m).trans h, g.gp, g.gt, g.gu, g.gw, g.gvn, g.gvs, g.nf, g.nl, g.ny, g.gf, g.gl, g.gy⟩
 case P => exact ⟨g.gd, g.ga, g.gb, g.gn, g.gm, (numR_eq x.p).trans h, g.gt, g.gu, g.gw, g.gvn, g.gvs, g.nf, g.nl, g.ny, g.gf, g.gl, g.gy⟩
 case T => exact ⟨g.gd, g.ga, g.gb, g.gn, g.gm, g.gp, (tyR_eq x.t).trans h, g.gu, g.gw, g.gvn, g.gvs, g.nf, g.nl, g.ny, g.gf, g.gl, g.gy⟩
 case U => exact ⟨g.gd, g.ga, g.gb, g.gn, g.gm, g.gp, g.gt, (tyR_eq x.u).trans h, g.gw, g.gvn, g.gvs, g.nf, g.nl, g.ny, g.gf, g.gl, g.gy⟩
 case W => exact ⟨g.gd, g.ga, g.gb, g.gn, g.gm, g.gp, g.gt, g.gu, (tyR_eq x.w).trans h, g.gvn, g.gvs, g.nf, g.nl, g.ny, g.gf, g.gl, g.gy⟩
 case V => exact ⟨g.gd, g.ga, g.gb, g.gn, g.gm, g.gp, g.gt, g.gu, g.gw, (numR_eq x.vn).trans (and_l h), and_r h, g.nf, g.nl, g.ny, g.gf, g.gl, g.gy⟩
 case L => exact ⟨g.gd, g.ga, g.gb, g.gn, g.gm, g.gp, g.gt, g.gu, g.gw, g.gvn, g.gvs, g.nf, and_r h, g.ny, g.gf, (all_eq liR_eq x.l).trans (and_l h), g.gy⟩
 case Y => exact ⟨g.gd, g.ga, g.gb, g.gn, g.gm, g.gp, g.gt, g.gu, g.gw, g.gvn, g.gvs, g.nf, g.nl, and_r h, g.gf, g.gl, (all_eq tyR_eq x.y).trans (and_l h)⟩
 case F => exact ⟨g.gd, g.ga, g.gb, g.gn, g.gm, g.gp, g.gt, g.gu, g.gw, g.gvn, g.gvs, and_r h, g.nl, g.ny, (all_eq fmR_eq x.f).trans (and_l h), g.gl, g.gy⟩
 case Sz => exact ⟨g.gd, g.ga, g.gb, g.gn, g.gm, g.gp, g.gt, g.gu, g.gw, g.gvn, g.gvs, g.nf, g.nl, g.ny, g.gf, g.gl, g.gy⟩
 case Rg => exact ⟨g.gd, g.ga, g.gb, g.gn, g.gm, g.gp, g.gt, g.gu, g.gw, g.gvn, g.gvs, g.nf, g.nl, g.ny, g.gf, g.gl, g.gy⟩
 case aN => exact ⟨g.gd, g.ga, g.gb, num_of (n := x.n) (lo := 0) (hi := 1048576) h, g.gm, g.gp, g.gt, g.gu, g.gw, g.gvn, g.gvs, g.nf, g.nl, g.ny, g.gf, g.gl, g.gy⟩
 case aM => exact ⟨g.gd, g.ga, g.gb, g.gn, num_of (n := x.m) (lo := 0) (hi := 1048576) h, g.gp, g.gt, g.gu, g.gw, g.gvn, g.gvs, g.nf, g.nl, g.ny, g.gf, g.gl, g.gy⟩
 case pN => exact ⟨g.gd, g.ga, g.gb, num_of (n := x.n) ((prR_eq x.n).trans h), g.gm, g.gp, g.gt, g.gu, g.gw, g.gvn, g.gvs, g.nf, g.nl, g.ny, g.gf, g.gl, g.gy⟩
 case pM => exact ⟨g.gd, g.ga, g.gb, g.gn, num_of (n := x.m) ((pmR_eq x.m).trans h), g.gp, g.gt, g.gu, g.gw, g.gvn, g.gvs, g.nf, g.nl, g.ny, g.gf, g.gl, g.gy⟩
 case far => exact ⟨g.gd, g.ga, g.gb, num_of (n := x.n) (and_l ((farR_eq x).trans h)), g.gm, num_of (n := x.p) (and_r ((farR_eq x).trans h)), g.gt, g.gu, g.gw, g.gvn, g.gvs, g.nf, g.nl, g.ny, g.gf, g.gl, g.gy⟩
theorem Good.mvL {x : In} : ∀ {l : List Fl} {y : In}, Good y → (∀ f ∈ l, f.fineB x = true) → Good (mvL x l y)
 | [], _, g, _ => g
 | f :: l, y, g, h => Good.mvL (l := l) (y := f.mv x y) (g.mv f (h f (List.mem_cons_self ..))) (fun f hf => h f (List.mem_cons_of_mem _ hf))
theorem cFine_iff (x : In) (o : Nat) (ho : isOp o = true) (hop : x.op = (o : Int)) : cFine x = true ↔ eqIn (mvL x (opFls o) (emptyI x.op)) x = true ∧ Good x ∧ ∀ f ∈ opFls o, letR f x = true := by
 have h1 := (isOp_iff o).1 ho
 have hfind : opFind x.op = some (opFls o) := by unfold opFind; rw [if_pos (by omega), hop]; rfl
 have hc : cFine x = ((opFls o).all (fun f => f.fineB x) && eqIn x (mvL x (opFls o) (emptyI x.op))) := by unfold cFine; rw [hfind]
 rw [hc, Bool.and_eq_true, List.all_eq_true]
 constructor
 ·rintro ⟨ha, he⟩
  have e := eqIn_eq he
  refine ⟨?_, ?_, fun f hf => letR_of f x (ha f hf)⟩
  ·rw [← e] at he ⊢
   exact he
  ·have g := Good.mvL (x := x) (Good.zero x.op) ha
   rw [← e] at g
   exact g
 ·rintro ⟨he, g, hl⟩
  have e := eqIn_eq he
  refine ⟨fun f hf => fine_of f x g (hl f hf), ?_⟩
  rw [e] at he ⊢
  exact he
end Go.Proofs
end
section
namespace Go.Proofs
open Go Go.SX Go.ChangeShapes Go.WideShapes Go.ChangeAt Go.RowKit
set_option maxRecDepth 10000
section
variable {H : Type} {enc : TypeId × Value → H} {w : World} {base : Nat} {sp : Nat → Bool} {held : Bool}
noncomputable def fsOf (t : TypeId) : Array Field := match Tryz.prog.underlying t with
 | some (.struct fs) => fs
 | _ => #[]
theorem fields {t : TypeId} {fuel : Nat} {cs : List Value} {x : DataW H × List MemPlace} (hu : Tryz.prog.underlying t = some (.struct (fsOf t))) (h : DataW.trod enc Tryz.prog w base sp held fuel t cs = some x) :
  cs.length = Tryz.prog.cellsOf t ∧ ∃ n, ∀ (i : Nat) (t' : TypeId) (o k : Nat), ((fsOf t)[i]?).map (fun f => (f.type, f.offset)) = some (t', o) → Tryz.prog.cellsOf t' = k → ∃ y, DataW.trod enc Tryz.prog w base sp held n t' ((cs.drop o).take k) = some y := by
 obtain ⟨xs, n, _, _, hl, hxl, hf⟩ := DataW.trod_struct hu h
 refine ⟨hl, n, fun i t' o k h1 h2 => ?_⟩
 cases e : (fsOf t)[i]? with
 | none => rw [e] at h1; cases h1
 | some f =>
  rw [e] at h1
  simp only [Option.map_some, Option.some.injEq, Prod.mk.injEq] at h1
  obtain ⟨h3, h4⟩ := h1
  subst h3 h4 h2
  have hi : i < xs.length := by rw [hxl]; exact (Array.getElem?_eq_some_iff.1 e).1
  exact ⟨xs[i], by rw [hf i f e, List.getElem?_eq_getElem hi]⟩
def segs (cs : List Value) : Nat → List Nat → List Value
 | o, [] => cs.drop o
 | o, k :: ks => (cs.drop o).take k ++ segs cs (o + k) ks
theorem segs_eq (cs : List Value) : ∀ (ks : List Nat) (o : Nat), segs cs o ks = cs.drop o
 | [], _ => rfl
 | k :: ks, o => by
  show (cs.drop o).take k ++ segs cs (o + k) ks = cs.drop o
  rw [segs_eq cs ks (o + k), ← List.drop_drop, List.take_append_drop]
theorem o_int {n : Nat} {cs : List Value} {x : DataW H × List MemPlace} (h : DataW.trod enc Tryz.prog w base sp held n 3 cs = some x) : ∃ k, cs = [Value.int .i64 k] ∧ (Lit.int .i64 k).wf = true := by
 obtain ⟨k, h1, _, h2⟩ := DataW.trod_int Tryz.underlying3 h
 exact ⟨k, h1, h2⟩
theorem o_bool {n : Nat} {cs : List Value} {x : DataW H × List MemPlace} (h : DataW.trod enc Tryz.prog w base sp held n 4 cs = some x) : ∃ b, cs = [Value.bool b] := by
 obtain ⟨b, h1, _⟩ := DataW.trod_bool Tryz.underlying4 h
 exact ⟨b, h1⟩
theorem o_str {n : Nat} {cs : List Value} {x : DataW H × List MemPlace} (h : DataW.trod enc Tryz.prog w base sp held n 9 cs = some x) : ∃ s : List UInt8, cs = [Value.string ⟨s.toArray⟩] ∧ s.length ≤ maxLen := by
 obtain ⟨s, h1, _, h2⟩ := DataW.trod_string Tryz.underlying9 h
 exact ⟨s.data.toList, h1, h2⟩
theorem o_ty {n : Nat} {cs : List Value} {x : DataW H × List MemPlace} (h : DataW.trod enc Tryz.prog w base sp held n 23 cs = some x) : ∃ t : Ty, cs = t.cells.map SV.den0 := by
 obtain ⟨hl, m, hf⟩ := fields (t := 23) kq h
 have hn : cs.length = 5 := hl.trans kq
 obtain ⟨y0, h0⟩ := hf 0 3 0 1 kq kq
 obtain ⟨k, e0, w0⟩ := o_int h0
 obtain ⟨y1, h1⟩ := hf 1 3 1 1 kq kq
 obtain ⟨p, e1, w1⟩ := o_int h1
 obtain ⟨y2, h2⟩ := hf 2 3 2 1 kq kq
 obtain ⟨q, e2, w2⟩ := o_int h2
 obtain ⟨y3, h3⟩ := hf 3 4 3 1 kq kq
 obtain ⟨v, e3⟩ := o_bool h3
 obtain ⟨y4, h4⟩ := hf 4 9 4 1 kq kq
 obtain ⟨s, e4, w4⟩ := o_str h4
 have e : cs = (cs.drop 0).take 1 ++ ((cs.drop 1).take 1 ++ ((cs.drop 2).take 1 ++ ((cs.drop 3).take 1 ++ ((cs.drop 4).take 1 ++ cs.drop 5)))) := (segs_eq cs [1, 1, 1, 1, 1] 0).symm
 rw [e0, e1, e2, e3, e4, List.drop_eq_nil_of_le (by omega)] at e
 exact ⟨⟨k, p, q, v, s⟩, e⟩
theorem o_fm {n : Nat} {cs : List Value} {x : DataW H × List MemPlace} (h : DataW.trod enc Tryz.prog w base sp held n 93 cs = some x) : ∃ f : Fm, cs = f.cells.map SV.den0 := by
 obtain ⟨hl, m, hf⟩ := fields (t := 93) kq h
 have hn : cs.length = 4 := hl.trans kq
 obtain ⟨y0, h0⟩ := hf 0 3 0 1 kq kq
 obtain ⟨k, e0, w0⟩ := o_int h0
 obtain ⟨y1, h1⟩ := hf 1 3 1 1 kq kq
 obtain ⟨p, e1, w1⟩ := o_int h1
 obtain ⟨y2, h2⟩ := hf 2 3 2 1 kq kq
 obtain ⟨q, e2, w2⟩ := o_int h2
 obtain ⟨y3, h3⟩ := hf 3 9 3 1 kq kq
 obtain ⟨s, e3, w3⟩ := o_str h3
 have e : cs = (cs.drop 0).take 1 ++ ((cs.drop 1).take 1 ++ ((cs.drop 2).take 1 ++ ((cs.drop 3).take 1 ++ cs.drop 4))) := (segs_eq cs [1, 1, 1, 1] 0).symm
 rw [e0, e1, e2, e3, List.drop_eq_nil_of_le (by omega)] at e
 exact ⟨⟨k, p, q, s⟩, e⟩
theorem o_val {n : Nat} {cs : List Value} {x : DataW H × List MemPlace} (h : DataW.trod enc Tryz.prog w base sp held n 25 cs = some x) : ∃ (n : Int) (s : List UInt8), cs = [Value.int .i64 n, Value.string ⟨s.toArray⟩] := by
 obtain ⟨hl, m, hf⟩ := fields (t := 25) kq h
 have hn : cs.length = 2 := hl.trans kq
 obtain ⟨y0, h0⟩ := hf 0 3 0 1 kq kq
 obtain ⟨k, e0, w0⟩ := o_int h0
 obtain ⟨y1, h1⟩ := hf 1 9 1 1 kq kq
 obtain ⟨s, e1, w1⟩ := o_str h1
 have e : cs = (cs.drop 0).take 1 ++ ((cs.drop 1).take 1 ++ cs.drop 2) := (segs_eq cs [1, 1] 0).symm
 rw [e0, e1, List.drop_eq_nil_of_le (by omega)] at e
 exact ⟨k, s, e⟩
def LastP (p : Pers) (w : World) : Prop := p.φ w ∧ ∀ k, p.D k → k < w.heap.size
theorem o_list {α : Type} (f : α → List SV) (d : α) (tS e k : Nat) (hu : Tryz.prog.underlying tS = some (.slice e)) (hk : Tryz.prog.cellsOf e = k) (hk0 : 0 < k) (hf : ∀ a, (f a).length = k ∧ ∀ x ∈ f a, x.plain)
  (elem : ∀ (n : Nat) (cs : List Value) (x : DataW H × List MemPlace), DataW.trod enc Tryz.prog w base sp held n e cs = some x → ∃ a, cs = (f a).map SV.den0)
  {n : Nat} {cs : List Value} {x : DataW H × List MemPlace} (h : DataW.trod enc Tryz.prog w base sp held n tS cs = some x) :
  ∃ (l : List α) (q : Option Addr) (c : Nat), cs = [.slice q l.length c] ∧ l.length ≤ maxLen ∧ LastP (rowP (rowL f d l q c e k false)) w := by
 rcases DataW.trod_slice hu h with ⟨rfl, _⟩ | ⟨a, len, cap, elems, rest, m, _, rfl, _, _, hlc, hcm, hlen, hel, _, _⟩
 ·refine ⟨[], none, 0, rfl, Nat.zero_le _, ?_, ?_⟩
  ·exact (row_none (R := rowL f d [] none 0 e k false) rfl rfl rfl).2 w
  ·exact fun j hj => absurd hj ((row_none (R := rowL f d [] none 0 e k false) rfl rfl rfl).1 j)
 ·have hex : ∀ i, i < len → ∃ b : α, w.cells? base (a.add (i * k)) k = some ((f b).map SV.den0) := fun i hi => by
   have h1 := hel i hi
   rw [hk] at h1
   have hi' : i < elems.length := by omega
   rw [List.getElem?_eq_getElem hi'] at h1
   rw [Option.bind_eq_some_iff] at h1
   obtain ⟨cs', h2, h3⟩ := h1
   obtain ⟨b, rfl⟩ := elem _ _ _ h3
   exact ⟨b, h2⟩
  let g : Nat → α := fun i => if hi : i < len then Classical.choose (hex i hi) else d
  have hg : ∀ i, i < len → w.cells? base (a.add (i * k)) k = some ((f (g i)).map SV.den0) := fun i hi => by
   have := Classical.choose_spec (hex i hi)
   simp only [g, dif_pos hi]
   exact this
  have hll : ((List.range len).map g).length = len := by simp
  have hget : ∀ i, i < len → ((List.range len).map g).getD i d = g i := fun i hi => by simp [List.getD, hi]
  have hcell : ∀ i, i < len → ∀ j x, (f (g i))[j]? = some x → w.cell? ((a.add (i * k)).add j) = some x.den0 := fun i hi j x hx => by
   obtain ⟨_, h2, h3⟩ := World.cells?_some (hg i hi)
   have hj : j < k := by
    rw [← (hf (g i)).1]
    exact (List.getElem?_eq_some_iff.1 hx).1
   rw [h3 j hj, List.getElem?_map, hx]
   rfl
  refine ⟨(List.range len).map g, some a, cap, by rw [hll], by rw [hll]; omega, ⟨?_, ?_, ?_, ?_⟩, ?_⟩
  ·intro i hi
   exact hf _
  ·intro hpos
   have hpos' : 0 < len := by
    have : 0 < ((List.range len).map g).length := hpos
    omega
   have h0 : ∃ x, (f (g 0))[0]? = some x := by
    have : 0 < (f (g 0)).length := by rw [(hf (g 0)).1]; exact hk0
    exact ⟨_, List.getElem?_eq_getElem this⟩
   obtain ⟨x0, hx0⟩ := h0
   have hs := World.cell?_spot (hcell 0 hpos' 0 x0 hx0)
   obtain ⟨b, off, spot⟩ := a
   have hspot : spot = none := by simpa [Addr.add] using hs
   subst hspot
   refine ⟨b, off, rfl, fun i j x hi hx => ?_⟩
   have hi' : i < len := by
    have : i < ((List.range len).map g).length := hi
    omega
   have hx' : (f (g i))[j]? = some x := by
    have hx2 : (f (((List.range len).map g).getD i d))[j]? = some x := hx
    rw [hget i hi'] at hx2
    exact hx2
   have := hcell i hi' j x hx'
   rw [add_plain, add_plain, Nat.add_assoc] at this
   exact this
  ·intro ho
   cases ho
  ·intro o ho
   cases ho
  ·rintro j ⟨a', ha', rfl, hd⟩
   have ea : a = a' := Option.some.inj ha'
   subst ea
   have hpos' : 0 < len := by
    rcases hd with hd | hd | hd
    ·cases hd
    ·have : 0 < ((List.range len).map g).length := hd
     omega
    ·cases hd
   have := World.cells?_block (hg 0 hpos') hk0
   simpa [Addr.add] using this
theorem plain_ty (t : Ty) : t.cells.length = 5 ∧ ∀ x ∈ t.cells, x.plain := ⟨rfl, fun x hx => by
 simp only [Ty.cells, List.mem_cons, List.not_mem_nil, or_false] at hx
 rcases hx with rfl | rfl | rfl | rfl | rfl <;> trivial⟩
theorem plain_fm (t : Fm) : t.cells.length = 4 ∧ ∀ x ∈ t.cells, x.plain := ⟨rfl, fun x hx => by
 simp only [Fm.cells, List.mem_cons, List.not_mem_nil, or_false] at hx
 rcases hx with rfl | rfl | rfl | rfl <;> trivial⟩
theorem plain_intv (n : Int) : (intv n).length = 1 ∧ ∀ x ∈ intv n, x.plain := ⟨rfl, fun x hx => by
 rw [List.mem_singleton.1 hx]; trivial⟩
theorem o_fs {n : Nat} {cs : List Value} {x : DataW H × List MemPlace} (h : DataW.trod enc Tryz.prog w base sp held n 26 cs = some x) : ∃ (l : List Fm) (q : Option Addr) (c : Nat), cs = [.slice q l.length c] ∧ l.length ≤ maxLen ∧ LastP (rowP (rowL Fm.cells fm0 l q c 93 4 false)) w :=
 o_list Fm.cells fm0 26 93 4 kq kq (by decide) plain_fm (fun n cs x h => o_fm h) h
theorem o_ls {n : Nat} {cs : List Value} {x : DataW H × List MemPlace} (h : DataW.trod enc Tryz.prog w base sp held n 27 cs = some x) : ∃ (l : List Int) (q : Option Addr) (c : Nat), cs = [.slice q l.length c] ∧ l.length ≤ maxLen ∧ LastP (rowP (rowL intv 0 l q c 3 1 false)) w :=
 o_list intv 0 27 3 1 kq kq (by decide) plain_intv (fun n cs x h => by obtain ⟨k, e, _⟩ := o_int h; exact ⟨k, e⟩) h
theorem o_ys {n : Nat} {cs : List Value} {x : DataW H × List MemPlace} (h : DataW.trod enc Tryz.prog w base sp held n 28 cs = some x) : ∃ (l : List Ty) (q : Option Addr) (c : Nat), cs = [.slice q l.length c] ∧ l.length ≤ maxLen ∧ LastP (rowP (rowL Ty.cells ty0 l q c 23 5 false)) w :=
 o_list Ty.cells ty0 28 23 5 kq kq (by decide) plain_ty (fun n cs x h => o_ty h) h
theorem o_in {n : Nat} {cs : List Value} {x : DataW H × List MemPlace} (h : DataW.trod enc Tryz.prog w base sp held n 30 cs = some x) : ∃ (x : In) (A : IA), cs = (inV x A).map SV.den0 ∧ x.f.length ≤ maxLen ∧ x.l.length ≤ maxLen ∧ x.y.length ≤ maxLen ∧ ∀ p ∈ lsP x A, LastP p w := by
 obtain ⟨hl, m, hf⟩ := fields (t := 30) kq h
 have hn : cs.length = 29 := hl.trans kq
 obtain ⟨y0, h0⟩ := hf 0 3 0 1 kq kq
 obtain ⟨op, e0, w0⟩ := o_int h0
 obtain ⟨y1, h1⟩ := hf 1 3 1 1 kq kq
 obtain ⟨vd, e1, w1⟩ := o_int h1
 obtain ⟨y2, h2⟩ := hf 2 3 2 1 kq kq
 obtain ⟨va, e2, w2⟩ := o_int h2
 obtain ⟨y3, h3⟩ := hf 3 3 3 1 kq kq
 obtain ⟨vb, e3, w3⟩ := o_int h3
 obtain ⟨y4, h4⟩ := hf 4 23 4 5 kq kq
 obtain ⟨vt, e4⟩ := o_ty h4
 obtain ⟨y5, h5⟩ := hf 5 23 9 5 kq kq
 obtain ⟨vu, e5⟩ := o_ty h5
 obtain ⟨y6, h6⟩ := hf 6 23 14 5 kq kq
 obtain ⟨vw, e6⟩ := o_ty h6
 obtain ⟨y7, h7⟩ := hf 7 3 19 1 kq kq
 obtain ⟨vn, e7, w7⟩ := o_int h7
 obtain ⟨y8, h8⟩ := hf 8 3 20 1 kq kq
 obtain ⟨vm, e8, w8⟩ := o_int h8
 obtain ⟨y9, h9⟩ := hf 9 3 21 1 kq kq
 obtain ⟨vp, e9, w9⟩ := o_int h9
 obtain ⟨y10, h10⟩ := hf 10 25 22 2 kq kq
 obtain ⟨vv, vvs, e10⟩ := o_val h10
 obtain ⟨y11, h11⟩ := hf 11 26 24 1 kq kq
 obtain ⟨lf, q11, c11, e11, w11, r11⟩ := o_fs h11
 obtain ⟨y12, h12⟩ := hf 12 27 25 1 kq kq
 obtain ⟨ll, q12, c12, e12, w12, r12⟩ := o_ls h12
 obtain ⟨y13, h13⟩ := hf 13 28 26 1 kq kq
 obtain ⟨ly, q13, c13, e13, w13, r13⟩ := o_ys h13
 obtain ⟨y14, h14⟩ := hf 14 4 27 1 kq kq
 obtain ⟨bs, e14⟩ := o_bool h14
 obtain ⟨y15, h15⟩ := hf 15 4 28 1 kq kq
 obtain ⟨br, e15⟩ := o_bool h15
 have e : cs = (cs.drop 0).take 1 ++ ((cs.drop 1).take 1 ++ ((cs.drop 2).take 1 ++ ((cs.drop 3).take 1 ++ ((cs.drop 4).take 5 ++ ((cs.drop 9).take 5 ++ ((cs.drop 14).take 5 ++ ((cs.drop 19).take 1 ++ ((cs.drop 20).take 1 ++ ((cs.drop 21).take 1 ++ ((cs.drop 22).take 2 ++ ((cs.drop 24).take 1 ++ ((cs.drop 25).take 1 ++ ((cs.drop 26).take 1 ++ ((cs.drop 27).take 1 ++ ((cs.drop 28).take 1 ++ cs.drop 29))))))))))))))) := (segs_eq cs [1, 1, 1, 1, 5, 5, 5, 1, 1, 1, 2, 1, 1, 1, 1, 1] 0).symm
 rw [e0, e1, e2, e3, e4, e5, e6, e7, e8, e9, e10, e11, e12, e13, e14, e15, List.drop_eq_nil_of_le (by omega)] at e
 exact ⟨⟨op, vd, va, vb, vt, vu, vw, vn, vm, vp, vv, vvs, lf, ll, ly, bs, br⟩, ⟨q11, c11, q12, c12, q13, c13⟩, e, w11, w12, w13, fun p hp => by
  simp only [lsP, List.mem_cons, List.not_mem_nil, or_false] at hp
  rcases hp with rfl | rfl | rfl
  ·exact r11
  ·exact r12
  ·exact r13⟩
theorem open_in {r : Reach} {b0 : Nat} {v : Value} {dd : DataW H} {ps : List MemPlace} (hval : Value.okWide Tryz.prog w r b0 30 v) (h : DataW.Trod enc Tryz.prog w base sp held 30 v dd ps) :
  ∃ (x : In) (A : IA), v = (CV.agg (inV x A)).den (fun _ => 0) ∧ x.f.length ≤ maxLen ∧ x.l.length ≤ maxLen ∧ x.y.length ≤ maxLen ∧ ∀ p ∈ lsP x A, LastP p w := by
 obtain ⟨cs, rfl, _⟩ := okWide_struct (P := Tryz.prog) (t := 30) (fs := fsOf 30) kq hval
 obtain ⟨fuel, hf⟩ := h
 obtain ⟨x, A, e, h1⟩ := o_in hf
 refine ⟨x, A, ?_, h1⟩
 have e' : cs = ((inV x A).map SV.den0).toArray := by
  rw [← e]
  rfl
 rw [e']
 rfl
end
end Go.Proofs
end
section
namespace Go.Proofs
open Go Go.SX Go.ChangeShapes Go.WideShapes Go.ChangeAt Go.RowKit
set_option maxRecDepth 10000
theorem allKids : Kids Tryz.prog (· < Tryz.prog.types.size) := kids_rows kq kq
theorem allFull : ∀ t e, t < Tryz.prog.types.size → Tryz.prog.underlying t = some (.slice e) → 0 < Tryz.prog.cellsOf e := slices_full_of Tryz.prog kq
section
variable {H : Type} {enc : TypeId × Value → H}
theorem trodAll_carry {w w' : World} {base : Nat} {sp : Nat → Bool} {held : Bool} : ∀ {ts : List TypeId} {vs : List Value} {ds : List (DataW H)} {ps : List MemPlace},
  DataW.TrodAll enc Tryz.prog w base sp held ts vs ds ps → (∀ p ∈ ps, w.sameAt w' p) → DataW.TrodAll enc Tryz.prog w' base sp held ts vs ds ps
 | [], [], [], _, h, _ => h
 | _ :: _, _ :: _, _ :: _, _, ⟨p, q, ⟨n, h1⟩, h2, e⟩, hs =>
  ⟨p, q, ⟨n, DataW.trod_carry n _ _ _ h1 (fun x hx => hs x (by rw [e]; exact List.mem_append_left _ hx))⟩, trodAll_carry h2 (fun x hx => hs x (by rw [e]; exact List.mem_append_right _ hx)), e⟩
theorem same_of_chg {W W' : World} (hc : Chg (fun _ => False) W W') (p : MemPlace) (hp : p.block < W.heap.size) : W.sameAt W' p := by
 cases p with
 | cell b off => exact World.cell?_of_block (w := W) (a := ⟨b, off, none⟩) (hc.block b hp id)
 | map b => exact hc.block b hp id
theorem post_true {f : Func} {s : ChangeSpec} {apart fresh handsOn : Bool} {W W' : World} {args : Array Value} {ds : List (DataW H)} {before : List MemPlace}
  (hv : s.vars = []) (hr : f.resultTypes = #[4]) (hp : ∀ t ∈ f.params.toList, t < Tryz.prog.types.size)
  (hW : DataW.Whole enc Tryz.prog f.params.toList s.vars apart W args.toList ds [] before)
  (hs : s.fn H (ds ++ []) = { results := [.lit (.bool true)], args := ds })
  (hc : Chg (fun _ => False) W W') : s.post enc Tryz.prog f apart fresh handsOn false W args (.bool true) W' := by
 have hlt := hW.lt
 have hW0 := hW
 obtain ⟨p, q, hA, hV, e, hz, hn⟩ := hW
 rw [hv] at hV
 obtain ⟨_, rfl⟩ := trodVars_none hV
 have hpl : ∀ x ∈ p, x.block < W.heap.size := fun x hx => hlt x (by rw [e]; exact List.mem_append_left _ hx)
 refine ⟨ds, [], before, [], p, [], hW0, ?_, ?_, ?_, ?_, fun h => by cases h⟩
 ·rw [hs, hr]
  exact trodAll_mk1 (shut_bool Tryz.underlying4 true)
 ·rw [hs]
  exact trodAll_carry (DataW.TrodAll.respare allKids allFull hp hA (fun x hx => decide_eq_true (hpl x hx))) (fun x hx => same_of_chg hc x (hpl x hx))
 ·rw [hs, hv]
  rfl
 ·exact (World.keptBut_refl W _).congr hc.os hc.output (fun i hi => hc.block i hi id)
end
end Go.Proofs
end
section
namespace Go.Proofs.YteinbljapojcgaaGreatDoor
open Go Go.SX Go.ChangeShapes Go.WideShapes Go.ChangeAt Go.RowKit
set_option maxRecDepth 100000
section
variable {H : Type} {enc : TypeId × Value → H}
theorem returns_wrap {a : Assume} {C : Checked} {os : Os} {f : FuncId} {fn : Func} {s : ChangeSpec} {conds : List PathCond} {apart fresh handsOn again : Bool} {X : World → Array Value → Prop}
  (hX : ∀ (w w' : World) (args : Array Value), w.heap = w'.heap → X w args → X w' args)
  (own : ownKnob C.prog.godebug = none) (started : os.Started) (noInit : C.prog.inits.idxOf? f = none) (hfn : C.prog.funcs[f]? = some fn)
  (witness : ∃ (w : World) (tape : Tape) (i : Input), w.os = os ∧ (w.forCall tape i).Shaped C.prog ∧ i.vars = [] ∧ Input.okWide C.prog (w.forCall tape i) .any w.heap.size f i ∧
   ((s.pre enc C.prog fn conds apart (w.forCall tape i).memory i.args ∧ X (w.forCall tape i).memory i.args) ∧ sizedMet enc C.prog fn (OpenSpec.ofChange s) apart (w.forCall tape i).memory i.args) ∧ a.holds C.prog (lone (Frame.enter C.prog f i.args .normal) [] (w.forCall tape i)))
  (contract : ∀ (W : World) (base : Nat) (args : Array Value) (ds gs : List (DataW H)) (before : List MemPlace),
   (∀ (j : Nat) t v, fn.params[j]? = some t → args[j]? = some v → Value.okWide C.prog W .any base t v) →
   DataW.Whole enc C.prog fn.params.toList s.vars apart W args.toList ds gs before →
   X W args → W.ShapedOpen C.prog →
   Calls C.prog f args W fun e W' => ∃ v, e = .returned v ∧ s.post enc C.prog fn apart fresh handsOn again W args v W') :
  ReturnsInHanded a C os f .any (fun w args => (s.pre enc C.prog fn conds apart w args ∧ X w args) ∧ sizedMet enc C.prog fn (OpenSpec.ofChange s) apart w args) (s.post enc C.prog fn apart fresh handsOn again) := by
 refine returnsInHanded_of_calls own started noInit witness ?_
 intro w tape i _ hsh _ hok hpre hholds
 obtain ⟨_, _, _, fn', hfn', _, _, _, _, hval⟩ := hok
 have e : fn' = fn := Option.some.inj (hfn'.symm.trans hfn)
 subst e
 obtain ⟨⟨⟨ds, gs, before, hw, hc⟩, hx⟩, hz⟩ := hpre
 have hw' := DataW.Whole.of_heap (w' := w.forCall tape i) (by rfl) hw
 refine (contract (w.forCall tape i) w.heap.size i.args ds gs before hval hw' (hX _ _ _ (by rfl) hx) hsh).mono fun e W' ⟨v, he, hp⟩ => ?_
 subst he
 exact ChangeSpec.post_blind hp
theorem iface_cell {P : Program} {w : World} {base : Nat} {sp : Nat → Bool} {held : Bool} {t : TypeId} {ms : Array (String × TypeId)} {n : Nat} {cs : List Value} {u : String} {d : DataW H} {ps : List MemPlace} (ht : P.underlying t = some (.interface ms))
  (h : DataW.trod enc P w base sp held n t cs = some (.iface u d, ps)) : ∃ tp p, cs = [.iface tp p] := by
 cases n with
 | zero => simp [DataW.trod] at h
 | succ n =>
  unfold DataW.trod at h
  rw [ht] at h
  split at h <;> first | exact ⟨_, _, rfl⟩ | simp_all
end
noncomputable def laidL : List (String × DataW Unit) := Rows.codeOrderRow.laid
theorem tab_e (nm : String) (g t e n : Nat) (k : IntKind) (zs : List Int) (W : World) (d : DataW Unit) (hd : d = Lib.tabData k zs) (hg : Tryz.prog.globalNamed nm = some g) (hty : (Tryz.prog.globals[g]?).map (·.type) = some t)
  (ht : Tryz.prog.underlying t = some (.array n e)) (he : Tryz.prog.underlying e = some (.int k)) (hce : Tryz.prog.cellsOf e = 1) (hct : Tryz.prog.cellsOf t = n)
  (h : ∃ g t cs fuel p, Tryz.prog.globalNamed nm = some g ∧ (Tryz.prog.globals[g]?).map (·.type) = some t ∧ W.var? Tryz.prog nm = some cs ∧ DataW.trod (fun _ => ()) Tryz.prog W 0 (fun _ => true) false fuel t cs.toList = some (d, p)) : Lib.TabIs Tryz.prog W nm k zs := by
 obtain ⟨g', t', cs, fuel, p, h1, h2, h3, h4⟩ := h
 obtain rfl := Option.some.inj (hg.symm.trans h1)
 obtain rfl := Option.some.inj (hty.symm.trans h2)
 subst hd
 unfold Lib.TabIs
 rw [h3, ← Lib.cells_of_tab ht he hce hct h4]
theorem iface_e (nm : String) (g t : Nat) (ms : Array (String × TypeId)) (W : World) (u : String) (d : DataW Unit) (hg : Tryz.prog.globalNamed nm = some g) (hty : (Tryz.prog.globals[g]?).map (·.type) = some t) (ht : Tryz.prog.underlying t = some (.interface ms))
  (h : ∃ g t cs fuel p, Tryz.prog.globalNamed nm = some g ∧ (Tryz.prog.globals[g]?).map (·.type) = some t ∧ W.var? Tryz.prog nm = some cs ∧ DataW.trod (fun _ => ()) Tryz.prog W 0 (fun _ => true) false fuel t cs.toList = some (.iface u d, p)) : ∃ tp p, W.var? Tryz.prog nm = some #[Value.iface tp p] := by
 obtain ⟨g', t', cs, fuel, p, h1, h2, h3, h4⟩ := h
 obtain rfl := Option.some.inj (hg.symm.trans h1)
 obtain rfl := Option.some.inj (hty.symm.trans h2)
 obtain ⟨tp, q, e⟩ := iface_cell ht h4
 exact ⟨tp, q, by rw [h3, Array.eq_one_of_toList e]⟩
theorem laid_at {P : Program} {w : World} : ∀ {l : List (String × DataW Unit)} {ps : List MemPlace}, DataW.LaidVars P w l ps → ∀ (n : String) (d : DataW Unit), (n, d) ∈ l →
  ∃ g t cs fuel p, P.globalNamed n = some g ∧ (P.globals[g]?).map (·.type) = some t ∧ w.var? P n = some cs ∧ DataW.trod (fun _ => ()) P w 0 (fun _ => true) false fuel t cs.toList = some (d, p)
 | [], _, _, n, d, h => by cases h
 | (m, e) :: l, _, ⟨g, t, cs, fuel, p, q, h1, h2, h3, h4, h5, _⟩, n, d, h => by
  rcases List.mem_cons.1 h with e1 | h
  ·obtain ⟨rfl, rfl⟩ := Prod.mk.inj e1
   exact ⟨g, t, cs, fuel, p, h1, h2, h3, h4⟩
  ·exact laid_at h5 n d h
theorem glb_of_laid {W : World} (h : laidMetH Tryz.prog laidL W) (hsh : W.ShapedOpen Tryz.prog) : LastP glbP W := by
 rw [MakeChecks.laidMetH_plain _ _ _ kq] at h
 obtain ⟨ps, hL, _, _⟩ := h
 have h11 : 11 < W.heap.size := by
  have h0 : ((begin Tryz.prog (fun _ _ => 0) default).world.heap[11]?).bind Obj.row? = some (#[.pointer none], 258) := kq
  obtain ⟨cs, hh, _⟩ := hsh.1 11 #[.pointer none] 258 (of_decide_eq_true kq) h0
  rcases Nat.lt_or_ge 11 W.heap.size with hlt | hge
  ·exact hlt
  ·rw [Array.getElem?_eq_none hge] at hh; cases hh
 refine ⟨⟨?_, ?_, ?_, ?_, ?_, ?_⟩, fun k hk => Nat.lt_of_lt_of_le hk h11⟩
 ·exact tab_e _ 3 296 106 20 .u64 Lib.pow10Tab W _ kq kq kq kq kq kq kq (laid_at hL _ Rows.laid_internal_strconv_uint64pow10 (List.mem_of_getElem? (i := 2) kq))
 ·exact iface_e _ 4 139 #[("Error", 142)] W _ _ kq kq kq (laid_at hL _ Rows.laid_strconv_ErrSyntax (List.mem_of_getElem? (i := 5) kq))
 ·exact iface_e _ 5 139 #[("Error", 142)] W _ _ kq kq kq (laid_at hL _ Rows.laid_strconv_ErrRange (List.mem_of_getElem? (i := 4) kq))
 ·exact cell_of_shapedOpen_int (P := Tryz.prog) (g := 1) (t := 3) (zero := #[.int .i64 0]) hsh (of_decide_eq_true kq) kq rfl kq kq Tryz.underlying3
 ·exact tab_e _ 0 229 5 256 .u8 Lib.asciiSpaceTab W _ kq kq kq kq kq kq kq (laid_at hL _ Rows.laid_strings_asciiSpace (List.mem_of_getElem? (i := 7) kq))
 ·exact tab_e _ 10 317 5 64 .u8 dbTab W _ kq kq kq kq kq kq kq (laid_at hL _ Rows.laid_math_bits_deBruijn64tab (List.mem_of_getElem? (i := 1) kq))
end Go.Proofs.YteinbljapojcgaaGreatDoor
end
section
namespace Go.Proofs
open Go Go.SX Go.ChangeShapes Go.WideShapes Go.ChangeAt Go.RowKit
set_option maxRecDepth 10000
section
variable {H : Type} {enc : TypeId × Value → H} {w : World} {base : Nat} {sp : Nat → Bool} {held : Bool}
theorem plain_rlv (n : Int × Int) : (rlv n).length = 2 ∧ ∀ x ∈ rlv n, x.plain := ⟨rfl, fun x hx => by
 simp only [rlv, List.mem_cons, List.not_mem_nil, or_false] at hx
 rcases hx with rfl | rfl <;> trivial⟩
theorem o_rel {n : Nat} {cs : List Value} {x : DataW H × List MemPlace} (h : DataW.trod enc Tryz.prog w base sp held n 62 cs = some x) : ∃ r : Int × Int, cs = (rlv r).map SV.den0 := by
 obtain ⟨hl, m, hf⟩ := fields (t := 62) kq h
 have hn : cs.length = 2 := hl.trans kq
 obtain ⟨y0, h0⟩ := hf 0 3 0 1 kq kq
 obtain ⟨k, e0, w0⟩ := o_int h0
 obtain ⟨y1, h1⟩ := hf 1 3 1 1 kq kq
 obtain ⟨p, e1, w1⟩ := o_int h1
 have e : cs = (cs.drop 0).take 1 ++ ((cs.drop 1).take 1 ++ cs.drop 2) := (segs_eq cs [1, 1] 0).symm
 rw [e0, e1, List.drop_eq_nil_of_le (by omega)] at e
 exact ⟨(k, p), e⟩
theorem o_rels {n : Nat} {cs : List Value} {x : DataW H × List MemPlace} (h : DataW.trod enc Tryz.prog w base sp held n 47 cs = some x) : ∃ (l : List (Int × Int)) (q : Option Addr) (c : Nat), cs = [.slice q l.length c] ∧ l.length ≤ maxLen ∧ LastP (rowP (rowL rlv (0, 0) l q c 62 2 false)) w :=
 o_list rlv (0, 0) 47 62 2 kq kq (by decide) plain_rlv (fun n cs x h => o_rel h) h
theorem o_mod {n : Nat} {cs : List Value} {x : DataW H × List MemPlace} (h : DataW.trod enc Tryz.prog w base sp held n 49 cs = some x) : ∃ (rl : List (Int × Int)) (X : RIn) (pr rg : Int), cs = [Value.int .i64 pr, Value.int .i64 rg, Value.string ⟨X.s.toArray⟩, Value.slice X.q X.n X.c] ∧ X.n = rl.length ∧ X.s.length ≤ maxLen ∧ rl.length ≤ maxLen ∧ LastP (rowP (relRow rl X.q X.c)) w := by
 obtain ⟨hl, m, hf⟩ := fields (t := 49) kq h
 have hn : cs.length = 4 := hl.trans kq
 obtain ⟨y0, h0⟩ := hf 0 3 0 1 kq kq
 obtain ⟨pr, e0, w0⟩ := o_int h0
 obtain ⟨y1, h1⟩ := hf 1 3 1 1 kq kq
 obtain ⟨rg, e1, w1⟩ := o_int h1
 obtain ⟨y2, h2⟩ := hf 2 9 2 1 kq kq
 obtain ⟨s, e2, w2⟩ := o_str h2
 obtain ⟨y3, h3⟩ := hf 3 47 3 1 kq kq
 obtain ⟨rl, q, c, e3, w3, r3⟩ := o_rels h3
 have e : cs = (cs.drop 0).take 1 ++ ((cs.drop 1).take 1 ++ ((cs.drop 2).take 1 ++ ((cs.drop 3).take 1 ++ cs.drop 4))) := (segs_eq cs [1, 1, 1, 1] 0).symm
 rw [e0, e1, e2, e3, List.drop_eq_nil_of_le (by omega)] at e
 exact ⟨rl, ⟨s, q, rl.length, c⟩, pr, rg, e, rfl, w2, w3, r3⟩
theorem open_mod {r : Reach} {b0 : Nat} {v : Value} {dd : DataW H} {ps : List MemPlace} (hval : Value.okWide Tryz.prog w r b0 49 v) (h : DataW.Trod enc Tryz.prog w base sp held 49 v dd ps) :
  ∃ (rl : List (Int × Int)) (X : RIn) (pr rg : Int), v = (CV.agg [.int .i64 pr, .int .i64 rg, .str X.s, .val (.slice X.q X.n X.c)]).den (fun _ => 0) ∧ X.n = rl.length ∧ X.s.length ≤ maxLen ∧ rl.length ≤ maxLen ∧ LastP (rowP (relRow rl X.q X.c)) w := by
 obtain ⟨cs, rfl, _⟩ := okWide_struct (P := Tryz.prog) (t := 49) (fs := fsOf 49) kq hval
 obtain ⟨fuel, hf⟩ := h
 obtain ⟨rl, X, pr, rg, e, h1⟩ := o_mod hf
 refine ⟨rl, X, pr, rg, ?_, h1⟩
 have e' : cs = ([Value.int .i64 pr, Value.int .i64 rg, Value.string ⟨X.s.toArray⟩, Value.slice X.q X.n X.c]).toArray := by
  rw [← e]
  exact (Array.toArray_toList).symm
 rw [e']
 rfl
end
end Go.Proofs
end
section
namespace Go.Proofs
open Go Go.SX
set_option maxRecDepth 10000
theorem groups_ne (k z : Nat) : groups k z ≠ [] := by
 cases k with
 | zero => simp [groups]
 | succ k =>
  by_cases h : z < 128
  ·simp [groups_last h]
  ·simp [groups_step h]
theorem takeB_in {b : List UInt8} {n : Nat} (h : n < b.length) : takeB (xIn b) ⟨n, false⟩ = (b.getD n 0, ⟨n + 1, false⟩) := by
 unfold takeB
 exact if_pos h
theorem takeB_out {b : List UInt8} {n : Nat} (h : ¬ n < b.length) : takeB (xIn b) ⟨n, false⟩ = (0, ⟨n, true⟩) := by
 unfold takeB
 exact if_neg h
theorem rd_in {b : List UInt8} {k n z m i : Nat} (h : n < b.length) : rdNumL (xIn b) (k + 1) ⟨n, false⟩ z m i =
  if 128 ≤ (b.getD n 0).toNat ∧ i + 1 < 6 then rdNumL (xIn b) k ⟨n + 1, false⟩ (z + (b.getD n 0).toNat % 128 * m) (m * 128) (i + 1)
  else if 128 ≤ (b.getD n 0).toNat ∨ (1 < i + 1 ∧ (b.getD n 0).toNat = 0) ∨ ¬ isNum (unzz (z + (b.getD n 0).toNat % 128 * m)) = true then (0, ⟨n + 1, true⟩) else (unzz (z + (b.getD n 0).toNat % 128 * m), ⟨n + 1, false⟩) := by
 rw [rdNumL]
 simp only [takeB_in h]
theorem unzz_zz (n : Int) : unzz (zz n) = n := by
 unfold zz unzz
 split <;> split <;> omega
theorem groups_fuel : ∀ (k k' z : Nat), k ≤ k' → z < 128 ^ (k + 1) → groups k' z = groups k z
 | k, k', z, hk, hz => by
  by_cases h : z < 128
  ·rw [groups_last h, groups_last h]
  ·match k, k', hk, hz with
   | 0, _, _, hz => simp at hz; omega
   | k + 1, 0, hk, _ => omega
   | k + 1, k' + 1, hk, hz =>
    rw [groups_step h, groups_step h, groups_fuel k k' (z / 128) (by omega) (by rw [Nat.div_lt_iff_lt_mul (by decide), ← Nat.pow_succ]; exact hz)]
theorem groups_pos (k z : Nat) : 0 < (groups k z).length := List.length_pos_iff.2 (groups_ne k z)
theorem drop_cons {b : List UInt8} {a : Nat} {c : UInt8} {l : List UInt8} (h : b.drop a = c :: l) : a < b.length ∧ b.getD a 0 = c ∧ b.drop (a + 1) = l := by
 have hlt : a < b.length := by
  rcases Nat.lt_or_ge a b.length with h1 | h1
  ·exact h1
  ·rw [List.drop_eq_nil_of_le h1] at h
   cases h
 rw [List.drop_eq_getElem_cons hlt] at h
 injection h with h1 h2
 exact ⟨hlt, by rw [List.getD, List.getElem?_eq_getElem hlt, ← h1]; rfl, h2⟩
theorem rd_groups (b : List UInt8) : ∀ (k z n f acc a : Nat) (rest : List UInt8), n + k ≤ 4 → n + f = 5 → z < 128 ^ (k + 1) → (n = 0 ∨ z ≠ 0) → b.drop a = groups k z ++ rest → isNum (unzz (acc + z * 128 ^ n)) = true →
  rdNumL (xIn b) (f + 1) ⟨a, false⟩ acc (128 ^ n) n = (unzz (acc + z * 128 ^ n), ⟨a + (groups k z).length, false⟩)
 | k, z, n, f, acc, a, rest, hnk, hnf, hz, h0, hd, hnum => by
  by_cases h : z < 128
  ·rw [groups_last h] at hd ⊢
   obtain ⟨h1, h2, _⟩ := drop_cons hd
   have hc : (UInt8.ofNat z).toNat = z := by simp; omega
   rw [rd_in h1, h2, hc, Nat.mod_eq_of_lt h, if_neg (by omega), if_neg]
   ·rfl
   ·rintro (h3 | h3 | h3)
    ·omega
    ·rcases h0 with h0 | h0
     ·omega
     ·exact h0 h3.2
    ·exact h3 hnum
  ·match k, f, hnk, hnf, hz with
   | 0, _, _, _, hz => simp at hz; omega
   | k + 1, 0, hnk, hnf, _ => omega
   | k + 1, f + 1, hnk, hnf, hz =>
    rw [groups_step h] at hd ⊢
    obtain ⟨h1, h2, h3⟩ := drop_cons hd
    have hc : (UInt8.ofNat (z % 128 + 128)).toNat = z % 128 + 128 := by simp; omega
    have hm : (z % 128 + 128) % 128 = z % 128 := by omega
    have hs : acc + z % 128 * 128 ^ n + z / 128 * 128 ^ (n + 1) = acc + z * 128 ^ n := by
     have e1 : z / 128 * 128 ^ (n + 1) = (128 * (z / 128)) * 128 ^ n := by rw [Nat.pow_succ, Nat.mul_comm (128 ^ n) 128, ← Nat.mul_assoc, Nat.mul_comm (z / 128) 128]
     rw [e1, Nat.add_assoc, ← Nat.add_mul, Nat.mod_add_div]
    have ih := rd_groups b k (z / 128) (n + 1) f (acc + z % 128 * 128 ^ n) (a + 1) rest (by omega) (by omega) (by rw [Nat.div_lt_iff_lt_mul (by decide), ← Nat.pow_succ]; exact hz) (.inr (by omega)) h3 (by rw [hs]; exact hnum)
    rw [hs] at ih
    rw [show rdNumL (xIn b) (f + 1 + 1) ⟨a, false⟩ acc (128 ^ n) n = rdNumL (xIn b) (f + 1) ⟨a + 1, false⟩ (acc + z % 128 * 128 ^ n) (128 ^ (n + 1)) (n + 1) by
     rw [rd_in h1, h2, hc, hm, if_pos (by omega), Nat.pow_succ]]
    rw [ih, List.length_cons, Nat.add_assoc, Nat.add_comm 1]
theorem zz_num {m : Int} (h : isNum m = true) : zz m < 4294967296 := by
 unfold isNum at h
 simp only [Bool.and_eq_true, decide_eq_true_eq] at h
 exact zz_lt (by omega) (by omega)
theorem encN_4 {m : Int} (h : isNum m = true) : encN m = groups 4 (zz m) := groups_fuel 4 9 (zz m) (by decide) (Nat.lt_trans (zz_num h) (by decide))
theorem read_enc {b : List UInt8} {a : Nat} {m : Int} {rest : List UInt8} (h : isNum m = true) (hd : b.drop a = encN m ++ rest) : rdNum (xIn b) ⟨a, false⟩ = (m, ⟨a + (encN m).length, false⟩) := by
 rw [encN_4 h] at hd ⊢
 have := rd_groups b 4 (zz m) 0 5 0 a rest (by omega) (by omega) (Nat.lt_trans (zz_num h) (by decide)) (.inl rfl) hd (by rw [Nat.pow_zero, Nat.mul_one, Nat.zero_add, unzz_zz]; exact h)
 rw [Nat.pow_zero, Nat.mul_one, Nat.zero_add, unzz_zz] at this
 exact this
theorem encN_len5 {m : Int} (h : isNum m = true) : 1 ≤ (encN m).length ∧ (encN m).length ≤ 5 := by
 rw [encN_4 h]
 exact ⟨groups_pos _ _, groups_len 4 _⟩
theorem takeB_s (X : RIn) (r : RSt) : takeB X r = takeB (xIn X.s) r := rfl
theorem rdNumL_s (X : RIn) : ∀ (k : Nat) (r : RSt) (z m n : Nat), rdNumL X k r z m n = rdNumL (xIn X.s) k r z m n
 | 0, _, _, _, _ => rfl
 | k + 1, r, z, m, n => by
  rw [rdNumL, rdNumL]
  simp only [takeB_s X, rdNumL_s X k]
  rfl
theorem drop_next {s : List UInt8} {a : Nat} {l t : List UInt8} (h : s.drop a = l ++ t) : s.drop (a + l.length) = t := by rw [← List.drop_drop, h, List.drop_left]
theorem drop_len {s : List UInt8} {a : Nat} {l t : List UInt8} (h : s.drop a = l ++ t) (hl : l ≠ []) : a + l.length + t.length = s.length := by
 have h1 := congrArg List.length h
 rw [List.length_drop, List.length_append] at h1
 have : 0 < l.length := List.length_pos_iff.2 hl
 omega
theorem rt_num {X : RIn} {a : Nat} {m : Int} {t : List UInt8} (h : isNum m = true) (hd : X.s.drop a = encN m ++ t) : rdNum X ⟨a, false⟩ = (m, ⟨a + (encN m).length, false⟩) := by
 have := read_enc (b := X.s) (a := a) h hd
 unfold rdNum at this ⊢
 rw [rdNumL_s]
 exact this
theorem rt_take {X : RIn} {a : Nat} {c : UInt8} {t : List UInt8} (hd : X.s.drop a = c :: t) : takeB X ⟨a, false⟩ = (c, ⟨a + 1, false⟩) := by
 obtain ⟨h1, h2, _⟩ := drop_cons hd
 rw [takeB_s, takeB_in h1, h2]
theorem rt_flag {X : RIn} {a : Nat} {v : Bool} {t : List UInt8} (hd : X.s.drop a = bitB v :: t) : rdFlag X ⟨a, false⟩ = (v, ⟨a + 1, false⟩) := by
 unfold rdFlag
 rw [rt_take hd]
 cases v <;> rfl
theorem isNum_len {n : Nat} (h : n ≤ 255) : isNum (n : Int) = true := by
 unfold isNum
 simp
 omega
theorem rt_str {X : RIn} {a : Nat} {l t : List UInt8} (h : l.length ≤ 255) (hd : X.s.drop a = encS l ++ t) : rdStr X ⟨a, false⟩ = (l, ⟨a + (encS l).length, false⟩) := by
 have hd' : X.s.drop a = encN (l.length : Int) ++ (l ++ t) := by rw [hd]; simp [encS]
 have h1 := rt_num (isNum_len h) hd'
 have h2 := drop_next hd'
 have hlen : a + (encN (l.length : Int)).length + (l ++ t).length = X.s.length := drop_len hd' (by
  intro e
  have := (encN_len5 (isNum_len h)).1
  rw [e] at this
  simp at this)
 rw [List.length_append] at hlen
 unfold rdStr
 simp only [h1]
 rw [if_neg (by omega)]
 have e : (X.s.take (a + (encN (l.length : Int)).length + ((l.length : Int)).toNat)).drop (a + (encN (l.length : Int)).length) = l := by
  rw [List.drop_take, h2, Int.toNat_natCast, show a + (encN (l.length : Int)).length + l.length - (a + (encN (l.length : Int)).length) = l.length by omega, List.take_left]
 rw [e]
 simp [encS, Int.toNat_natCast, Nat.add_assoc]
theorem rt_ty {X : RIn} {a : Nat} {y : Ty} {t : List UInt8} (h : isTy y = true) (hd : X.s.drop a = encTy y ++ t) : rdTy X ⟨a, false⟩ = (y, ⟨a + (encTy y).length, false⟩) := by
 unfold isTy at h
 simp only [Bool.and_eq_true, decide_eq_true_eq] at h
 obtain ⟨⟨⟨k1, k2⟩, k3⟩, k4⟩ := h
 have d0 : X.s.drop a = encN y.k ++ (encN y.p ++ (encN y.q ++ (bitB y.v :: (encS y.s ++ t)))) := by rw [hd]; simp [encTy]
 have d1 := drop_next d0
 have d2 := drop_next d1
 have d3 := drop_next d2
 have d4 := (drop_cons d3).2.2
 unfold rdTy
 simp only [rt_num k1 d0, rt_num k2 d1, rt_num k3 d2, rt_flag d3, rt_str (by omega) d4]
 simp only [encTy, List.length_append, List.length_cons, List.length_nil, Prod.mk.injEq, RSt.mk.injEq, and_true, true_and]
 omega
theorem rt_fm {X : RIn} {a : Nat} {y : Fm} {t : List UInt8} (h : isFm y = true) (hd : X.s.drop a = encFm y ++ t) : rdFm X ⟨a, false⟩ = (y, ⟨a + (encFm y).length, false⟩) := by
 unfold isFm at h
 simp only [Bool.and_eq_true, decide_eq_true_eq] at h
 obtain ⟨⟨⟨k1, k2⟩, k3⟩, k4⟩ := h
 have d0 : X.s.drop a = encN y.k ++ (encN y.w ++ (encN y.d ++ (encS y.s ++ t))) := by rw [hd]; simp [encFm]
 have d1 := drop_next d0
 have d2 := drop_next d1
 have d3 := drop_next d2
 unfold rdFm
 simp only [rt_num k1 d0, rt_num k2 d1, rt_num k3 d2, rt_str (by omega) d3]
 simp only [encFm, List.length_append, Prod.mk.injEq, RSt.mk.injEq, and_true, true_and]
 omega
theorem rt_int {X : RIn} {a : Nat} {n : Int} {t : List UInt8} (h : fineI n = true) (hd : X.s.drop a = eI n ++ t) : gI X ⟨a, false⟩ = (n, ⟨a + (eI n).length, false⟩) := by
 have hn : isNum (n + 1) = true := by
  unfold fineI isRg at h
  unfold isNum
  simp at h ⊢
  omega
 unfold gI
 rw [rt_num hn hd, Int.add_sub_cancel]
 rfl
theorem rt_many {α : Type} {X : RIn} (g : RSt → α × RSt) (e : α → List UInt8) : ∀ (l : List α) (a : Nat) (t : List UInt8), (∀ x ∈ l, ∀ (a : Nat) (t : List UInt8), X.s.drop a = e x ++ t → g ⟨a, false⟩ = (x, ⟨a + (e x).length, false⟩)) →
  X.s.drop a = l.flatMap e ++ t → rdList g l.length ⟨a, false⟩ = (l, ⟨a + (l.flatMap e).length, false⟩)
 | [], a, t, _, _ => rfl
 | x :: l, a, t, h, hd => by
  have hd' : X.s.drop a = e x ++ (l.flatMap e ++ t) := by rw [hd]; simp
  have h1 := h x (List.mem_cons_self ..) a _ hd'
  have h2 := rt_many g e l (a + (e x).length) t (fun y hy => h y (List.mem_cons_of_mem _ hy)) (drop_next hd')
  show ((g ⟨a, false⟩).1 :: (rdList g l.length (g ⟨a, false⟩).2).1, (rdList g l.length (g ⟨a, false⟩).2).2) = _
  rw [h1]
  simp only [h2]
  simp [Nat.add_assoc]
theorem rt_lst {α : Type} {X : RIn} (g : RSt → α × RSt) (e : α → List UInt8) (l : List α) (a : Nat) (t : List UInt8) (hl : (l.length : Int) ≤ 16) (h : ∀ x ∈ l, ∀ (a : Nat) (t : List UInt8), X.s.drop a = e x ++ t → g ⟨a, false⟩ = (x, ⟨a + (e x).length, false⟩))
  (hd : X.s.drop a = encLst e l ++ t) : rdLst X g [] ⟨a, false⟩ = (l, ⟨a + (encLst e l).length, false⟩) := by
 have hd' : X.s.drop a = encN (l.length : Int) ++ (l.flatMap e ++ t) := by rw [hd]; simp [encLst]
 have h1 := rt_num (isNum_len (by omega)) hd'
 have h2 := rt_many g e l _ t h (drop_next hd')
 unfold rdLst
 rw [h1]
 simp only
 rw [if_neg (by simp; omega), Int.toNat_natCast, h2]
 simp [encLst, Nat.add_assoc]
theorem orB_eq {n b : Nat} (hn : n < 8388608) (hb : b < 256) : orB (n : Int) (b : Int) = ((n * 256 + b : Nat) : Int) := by
 unfold orB
 have e1 : IntKind.i32.wrap ((n : Int) * 2 ^ 8) = ((n * 256 : Nat) : Int) := by simp [IntKind.wrap, IntKind.bits, IntKind.signed]; omega
 have e2 : IntKind.i32.wrap (b : Int) = (b : Int) := by simp [IntKind.wrap, IntKind.bits, IntKind.signed]; omega
 rw [e1, e2]
 have e3 : (BitVec.ofInt 32 ((n * 256 : Nat) : Int) ||| BitVec.ofInt 32 (b : Int)).toNat = n * 256 + b := by
  rw [BitVec.toNat_or, BitVec.ofInt_natCast, BitVec.ofInt_natCast, BitVec.toNat_ofNat, BitVec.toNat_ofNat, Nat.mod_eq_of_lt (by omega), Nat.mod_eq_of_lt (by omega)]
  have := Nat.two_pow_add_eq_or_of_lt (i := 8) (b := b) (by omega) n
  rw [Nat.mul_comm n 256]
  exact this.symm
 rw [e3]
 simp [IntKind.wrap, IntKind.bits, IntKind.signed]
 omega
theorem byteAt_nat (n : Nat) (s : Nat) : (byteAt (n : Int) s).toNat = n / 2 ^ s % 256 := by
 unfold byteAt
 have : ((n : Int) / (2 ^ s)) % 256 = ((n / 2 ^ s % 256 : Nat) : Int) := by push_cast; rfl
 rw [this, Int.toNat_natCast]
 simp
theorem rt_four {X : RIn} {a n : Nat} {t : List UInt8} (h : n ≤ 1048576) (hd : X.s.drop a = fourB (n : Int) ++ t) : rdFour X ⟨a, false⟩ = ((n : Int), ⟨a + 4, false⟩) := by
 have d0 : X.s.drop a = byteAt n 24 :: byteAt n 16 :: byteAt n 8 :: byteAt n 0 :: t := by rw [hd]; rfl
 have d1 := (drop_cons d0).2.2
 have d2 := (drop_cons d1).2.2
 have d3 := (drop_cons d2).2.2
 unfold rdFour
 simp only [rt_take d0, rt_take d1, rt_take d2, rt_take d3, byteAt_nat]
 have b0 : n / 2 ^ 24 % 256 = 0 := by omega
 have e1 : orB 0 ((n / 2 ^ 24 % 256 : Nat) : Int) = ((n / 2 ^ 24 % 256 : Nat) : Int) := by
  have := orB_eq (n := 0) (b := n / 2 ^ 24 % 256) (by decide) (by omega)
  simpa using this
 rw [e1, orB_eq (by omega) (by omega), orB_eq (by omega) (by omega), orB_eq (by omega) (by omega)]
 have : (n / 2 ^ 24 % 256 * 256 + n / 2 ^ 16 % 256) * 256 + n / 2 ^ 8 % 256 = n / 256 := by omega
 rw [show ((n / 2 ^ 24 % 256 * 256 + n / 2 ^ 16 % 256) * 256 + n / 2 ^ 8 % 256) * 256 + n / 2 ^ 0 % 256 = n by omega]
 simp [IntKind.wrap, IntKind.bits, IntKind.signed]
 omega
theorem rt_neg {X : RIn} {a : Nat} {t : List UInt8} (hd : X.s.drop a = fourB (-1) ++ t) : rdFour X ⟨a, false⟩ = (-1, ⟨a + 4, false⟩) := by
 have d0 : X.s.drop a = 255 :: 255 :: 255 :: 255 :: t := by rw [hd]; rfl
 have d1 := (drop_cons d0).2.2
 have d2 := (drop_cons d1).2.2
 have d3 := (drop_cons d2).2.2
 unfold rdFour
 simp only [rt_take d0, rt_take d1, rt_take d2, rt_take d3]
 rfl
theorem rt_rel {rl : List (Int × Int)} {k p : Int} {r : RSt} (h : relAt k rl = some p) : rdRel rl k r = (p, r) := by
 unfold rdRel
 rw [h]
def Fl.fr (f : Fl) (y : In) : Prop := match f with
 | .L => y.l = []
 | .Y => y.y = []
 | .F => y.f = []
 | _ => True
theorem isPl_nat {n : Int} (h : isPl n = true) : ∃ k : Nat, n = (k : Int) ∧ k ≤ 1048576 := by
 unfold isPl at h
 simp only [Bool.and_eq_true, decide_eq_true_eq] at h
 exact ⟨n.toNat, by omega, by omega⟩
theorem encP_len (n : Int) : (encP n).length = 4 := by unfold encP; split <;> rfl
theorem num_rg {n : Int} (h : isRg n = true) : isNum (n + 1) = true := by
 unfold isRg at h
 unfold isNum
 simp at h ⊢
 omega
theorem rt_fl (f : Fl) (rl : List (Int × Int)) (X : RIn) (a : Nat) (x y : In) (t : List UInt8) (h : f.fineB x = true) (hd : X.s.drop a = f.enc x ++ t) (hr : ∀ q ∈ f.rel x a, relAt q.1 rl = some q.2) (hy : f.fr y) :
  f.rd rl X ⟨a, false⟩ y = (⟨a + (f.enc x).length, false⟩, f.mv x y) := by
 cases f
 case D =>
  show ((rdNum X ⟨a, false⟩).2, Sel.set .D y ((rdNum X ⟨a, false⟩).1 - 1)) = _
  rw [rt_num (num_rg h) hd, Int.add_sub_cancel]; rfl
 case A =>
  show ((rdNum X ⟨a, false⟩).2, Sel.set .A y ((rdNum X ⟨a, false⟩).1 - 1)) = _
  rw [rt_num (num_rg h) hd, Int.add_sub_cancel]; rfl
 case B =>
  show ((rdNum X ⟨a, false⟩).2, Sel.set .B y ((rdNum X ⟨a, false⟩).1 - 1)) = _
  rw [rt_num (num_rg h) hd, Int.add_sub_cancel]; rfl
 case N =>
  show ((rdNum X ⟨a, false⟩).2, Sel.set .N y (rdNum X ⟨a, false⟩).1) = _
  rw [rt_num h hd]; rfl
 case M =>
  show ((rdNum X ⟨a, false⟩).2, Sel.set .M y (rdNum X ⟨a, false⟩).1) = _
  rw [rt_num h hd]; rfl
 case P =>
  show ((rdNum X ⟨a, false⟩).2, Sel.set .P y (rdNum X ⟨a, false⟩).1) = _
  rw [rt_num h hd]; rfl
 case T =>
  show ((rdTy X ⟨a, false⟩).2, TSel.set .T y (rdTy X ⟨a, false⟩).1) = _
  rw [rt_ty h hd]; rfl
 case U =>
  show ((rdTy X ⟨a, false⟩).2, TSel.set .U y (rdTy X ⟨a, false⟩).1) = _
  rw [rt_ty h hd]; rfl
 case W =>
  show ((rdTy X ⟨a, false⟩).2, TSel.set .W y (rdTy X ⟨a, false⟩).1) = _
  rw [rt_ty h hd]; rfl
 case V =>
  have h1 : isNum x.vn = true := and_l h
  have h2 : (x.vs.length : Int) ≤ 255 := of_decide_eq_true (and_r h)
  have d0 : X.s.drop a = encN x.vn ++ (encS x.vs ++ t) := by rw [hd]; simp [Fl.enc]
  show ((rdStr X (rdNum X ⟨a, false⟩).2).2, ({ y with vn := (rdNum X ⟨a, false⟩).1, vs := (rdStr X (rdNum X ⟨a, false⟩).2).1 } : In)) = _
  simp only [rt_num h1 d0, rt_str (by omega) (drop_next d0)]
  simp [Fl.enc, Fl.mv, Nat.add_assoc]
 case L =>
  have h1 : ∀ n ∈ x.l, fineI n = true := List.all_eq_true.1 (and_l h)
  have h2 : (x.l.length : Int) ≤ 16 := of_decide_eq_true (and_r h)
  have hy' : y.l = [] := hy
  show ((rdLst X (gI X) y.l ⟨a, false⟩).2, ({ y with l := (rdLst X (gI X) y.l ⟨a, false⟩).1 } : In)) = _
  rw [hy', rt_lst (gI X) eI x.l a t h2 (fun n hn a t hd => rt_int (h1 n hn) hd) hd]
  rfl
 case Y =>
  have h1 : ∀ n ∈ x.y, isTy n = true := List.all_eq_true.1 (and_l h)
  have h2 : (x.y.length : Int) ≤ 16 := of_decide_eq_true (and_r h)
  have hy' : y.y = [] := hy
  show ((rdLst X (rdTy X) y.y ⟨a, false⟩).2, ({ y with y := (rdLst X (rdTy X) y.y ⟨a, false⟩).1 } : In)) = _
  rw [hy', rt_lst (rdTy X) encTy x.y a t h2 (fun n hn a t hd => rt_ty (h1 n hn) hd) hd]
  rfl
 case F =>
  have h1 : ∀ n ∈ x.f, isFm n = true := List.all_eq_true.1 (and_l h)
  have h2 : (x.f.length : Int) ≤ 16 := of_decide_eq_true (and_r h)
  have hy' : y.f = [] := hy
  show ((rdLst X (rdFm X) y.f ⟨a, false⟩).2, ({ y with f := (rdLst X (rdFm X) y.f ⟨a, false⟩).1 } : In)) = _
  rw [hy', rt_lst (rdFm X) encFm x.f a t h2 (fun n hn a t hd => rt_fm (h1 n hn) hd) hd]
  rfl
 case Sz =>
  show ((rdFlag X ⟨a, false⟩).2, FSel.set .S y (rdFlag X ⟨a, false⟩).1) = _
  rw [rt_flag hd]; rfl
 case Rg =>
  show ((rdFlag X ⟨a, false⟩).2, FSel.set .R y (rdFlag X ⟨a, false⟩).1) = _
  rw [rt_flag hd]; rfl
 case aN =>
  obtain ⟨k, e, hk⟩ := isPl_nat (n := x.n) h
  have hd' : X.s.drop a = fourB (k : Int) ++ t := by rw [← e]; exact hd
  show ((rdFour X ⟨a, false⟩).2, Sel.set .N y (rdFour X ⟨a, false⟩).1) = _
  rw [rt_four hk hd', ← e]; rfl
 case aM =>
  obtain ⟨k, e, hk⟩ := isPl_nat (n := x.m) h
  have hd' : X.s.drop a = fourB (k : Int) ++ t := by rw [← e]; exact hd
  show ((rdFour X ⟨a, false⟩).2, Sel.set .M y (rdFour X ⟨a, false⟩).1) = _
  rw [rt_four hk hd', ← e]; rfl
 case pN =>
  have hn : 0 ≤ x.n := by
   have h' : isPr false x.n = true := h
   unfold isPr at h'
   simp at h'
   omega
  have e : encP x.n = fourB 0 := by unfold encP; rw [if_neg (by omega)]
  have hd' : X.s.drop a = fourB ((0 : Nat) : Int) ++ t := by rw [hd]; show encP x.n ++ t = _; rw [e]; rfl
  have hq := hr ((a : Int), x.n) (by show _ ∈ relP x.n a; unfold relP; rw [if_neg (by omega)]; exact List.mem_singleton.2 rfl)
  show ((rdPr false rl X ⟨a, false⟩ y.n).2, Sel.set .N y (rdPr false rl X ⟨a, false⟩ y.n).1) = (⟨a + (encP x.n).length, false⟩, _)
  unfold rdPr
  rw [rt_four (by decide) hd', encP_len]
  simp only [Bool.false_and, Bool.false_eq_true, if_false]
  rw [if_pos (show ((((0 : Nat) : Int)) == 0) = true from rfl), rt_rel hq]
  rfl
 case pM =>
  have h' : isPr true x.m = true := h
  unfold isPr at h'
  simp at h'
  show ((rdPr true rl X ⟨a, false⟩ y.m).2, Sel.set .M y (rdPr true rl X ⟨a, false⟩ y.m).1) = (⟨a + (encP x.m).length, false⟩, _)
  rw [encP_len]
  by_cases hn : 0 ≤ x.m
  ·have e : encP x.m = fourB 0 := by unfold encP; rw [if_neg (by omega)]
   have hd' : X.s.drop a = fourB ((0 : Nat) : Int) ++ t := by rw [hd]; show encP x.m ++ t = _; rw [e]; rfl
   have hq := hr ((a : Int), x.m) (by show _ ∈ relP x.m a; unfold relP; rw [if_neg (by omega)]; exact List.mem_singleton.2 rfl)
   unfold rdPr
   rw [rt_four (by decide) hd']
   rw [if_neg (show ¬ ((true && (((0 : Nat) : Int) == -1)) = true) from by decide), if_pos (show ((((0 : Nat) : Int)) == 0) = true from rfl), rt_rel hq]
   rfl
  ·have em : x.m = -1 := by omega
   have e : encP x.m = fourB (-1) := by unfold encP; rw [if_pos (by omega)]
   have hd' : X.s.drop a = fourB (-1) ++ t := by rw [hd]; show encP x.m ++ t = _; rw [e]
   unfold rdPr
   rw [rt_neg hd', if_pos (show (true && ((-1 : Int) == -1)) = true from rfl)]
   show (_, Sel.set .M y (-1)) = (_, Sel.set .M y x.m)
   rw [em]
 case far =>
  have h' : isFar x = true := h
  unfold isFar at h'
  simp only [Bool.and_eq_true, decide_eq_true_eq] at h'
  obtain ⟨k, e, hk⟩ : ∃ k : Nat, x.n = (k : Int) ∧ k ≤ 1048576 := ⟨x.n.toNat, by omega, by omega⟩
  have hd' : X.s.drop a = fourB (k : Int) ++ t := by rw [← e]; exact hd
  have hq := hr ((a : Int), x.p) (List.mem_singleton.2 rfl)
  show ((rdFour X (rdRel rl (a : Int) ⟨a, false⟩).2).2, ({ y with p := (rdRel rl (a : Int) ⟨a, false⟩).1, n := (rdFour X (rdRel rl (a : Int) ⟨a, false⟩).2).1 } : In)) = _
  rw [rt_rel hq]
  simp only [rt_four hk hd', ← e]
  rfl
def relL (x : In) : List Fl → Nat → List (Int × Int)
 | [], _ => []
 | f :: l, a => f.rel x a ++ relL x l (a + (f.enc x).length)
theorem putL_eq (x : In) : ∀ (l : List Fl) (s : List UInt8 × List (Int × Int)), putL x l s = (s.1 ++ l.flatMap (fun f => f.enc x), s.2 ++ relL x l s.1.length)
 | [], s => by simp [putL, relL]
 | f :: l, s => by
  show putL x l (s.1 ++ f.enc x, s.2 ++ f.rel x s.1.length) = _
  rw [putL_eq x l]
  simp [relL, List.length_append]
theorem Fl.fr_mv (f g : Fl) (x y : In) (hne : f ≠ g) (h : f.fr y) : f.fr (g.mv x y) := by
 cases f <;> cases g <;> first | exact h | exact absurd rfl hne
theorem rt_list (rl : List (Int × Int)) (X : RIn) (x : In) : ∀ (l : List Fl) (a : Nat) (y : In) (t : List UInt8), l.Nodup → (∀ f ∈ l, f.fineB x = true) → (∀ f ∈ l, f.fr y) → X.s.drop a = l.flatMap (fun f => f.enc x) ++ t → (∀ q ∈ relL x l a, relAt q.1 rl = some q.2) →
  rdL rl X l (⟨a, false⟩, y) = (⟨a + (l.flatMap fun f => f.enc x).length, false⟩, mvL x l y)
 | [], a, y, t, _, _, _, _, _ => rfl
 | f :: l, a, y, t, hn, hf, hy, hd, hr => by
  have hd' : X.s.drop a = f.enc x ++ (l.flatMap (fun f => f.enc x) ++ t) := by rw [hd]; simp
  have hn' := List.nodup_cons.1 hn
  have h1 := rt_fl f rl X a x y _ (hf f (List.mem_cons_self ..)) hd' (fun q hq => hr q (List.mem_append_left _ hq)) (hy f (List.mem_cons_self ..))
  have h2 := rt_list rl X x l (a + (f.enc x).length) (f.mv x y) t hn'.2 (fun g hg => hf g (List.mem_cons_of_mem _ hg))
   (fun g hg => Fl.fr_mv g f x y (fun e => hn'.1 (e ▸ hg)) (hy g (List.mem_cons_of_mem _ hg))) (drop_next hd') (fun q hq => hr q (List.mem_append_right _ hq))
  show rdL rl X l (if (false : Bool) = true then _ else f.rd rl X ⟨a, false⟩ y) = _
  rw [if_neg (by decide), h1, h2]
  simp only [List.flatMap_cons, List.length_append, Nat.add_assoc]
  rfl
theorem rt_ins (rl : List (Int × Int)) (X : RIn) (x : In) (a : Nat) (t : List UInt8) (h : cFine x = true) (hd : X.s.drop a = (cEnc x).1 ++ t) (hr : ∀ q ∈ (cEnc x).2, relAt (q.1 + a) rl = some q.2) :
  cDecR rl X a = (⟨a + (cEnc x).1.length, false⟩, x) ∧ cDecOk rl X a = true := by
 obtain ⟨o, ho, e⟩ : ∃ o, isOp o = true ∧ x.op = (o : Int) := by
  by_cases hop : 1 ≤ x.op ∧ x.op ≤ 38
  ·exact ⟨x.op.toNat, (isOp_iff _).2 (by omega), by omega⟩
  ·have : cFine x = false := by unfold cFine opFind; rw [if_neg hop]
   rw [this] at h; cases h
 have ho' := (isOp_iff o).1 ho
 obtain ⟨q1, q2, q3⟩ := (cFine_iff x o ho e).1 h
 have hfind : opFind x.op = some (opFls o) := by unfold opFind; rw [if_pos (by omega), e]; rfl
 have hnd : (opFls o).Nodup := by
  have := all_ops (p := fun o => decide ((opFls o).Nodup)) kq ho
  simpa using this
 have hE : cEnc x = (UInt8.ofNat o :: (opFls o).flatMap (fun f => f.enc x), relL x (opFls o) 1) := by
  unfold cEnc
  rw [hfind, putL_eq, e]
  simp
 have hx := eqIn_eq q1
 rw [hE] at hd hr
 have hd0 : X.s.drop a = UInt8.ofNat o :: ((opFls o).flatMap (fun f => f.enc x) ++ t) := hd
 have ht := rt_take hd0
 have hb : ((UInt8.ofNat o).toNat : Int) = (o : Int) := by simp; omega
 have hrel : ∀ (l : List Fl) (n : Nat), (∀ q ∈ relL x l n, relAt (q.1 + a) rl = some q.2) → ∀ q ∈ relL x l (a + n), relAt q.1 rl = some q.2 := by
  intro l
  induction l with
  | nil => intro n _ q hq; cases hq
  | cons f l ih =>
   intro n h1 q hq
   rcases List.mem_append.1 hq with hq | hq
   ·have hs : ∃ q' ∈ f.rel x n, q.1 = q'.1 + a ∧ q.2 = q'.2 := by
     cases f <;> simp only [Fl.rel, List.not_mem_nil] at hq
     case pN =>
      unfold relP at hq
      split at hq
      ·cases hq
      ·rename_i hh
       rw [List.mem_singleton.1 hq]
       exact ⟨((n : Int), Sel.get .N x), by show _ ∈ relP _ _; unfold relP; rw [if_neg hh]; exact List.mem_singleton.2 rfl, by simp only; omega, rfl⟩
     case pM =>
      unfold relP at hq
      split at hq
      ·cases hq
      ·rename_i hh
       rw [List.mem_singleton.1 hq]
       exact ⟨((n : Int), Sel.get .M x), by show _ ∈ relP _ _; unfold relP; rw [if_neg hh]; exact List.mem_singleton.2 rfl, by simp only; omega, rfl⟩
     case far =>
      rw [List.mem_singleton.1 hq]
      exact ⟨((n : Int), x.p), List.mem_singleton.2 rfl, by simp only; omega, rfl⟩
    obtain ⟨q', hq', e1, e2⟩ := hs
    rw [e1, e2]
    exact h1 q' (List.mem_append_left _ hq')
   ·rw [Nat.add_assoc] at hq
    exact ih (n + (f.enc x).length) (fun q hq => h1 q (List.mem_append_right _ hq)) q hq
 have hall := List.all_eq_true.1 (by
  have : cFine x = ((opFls o).all (fun f => f.fineB x) && eqIn x (mvL x (opFls o) (emptyI x.op))) := by unfold cFine; rw [hfind]
  rw [this] at h
  exact and_l h)
 have hR : cDecR rl X a = (⟨a + (cEnc x).1.length, false⟩, x) := by
  unfold cDecR
  rw [ht]
  simp only
  rw [hb, ← e, hfind]
  have := rt_list rl X x (opFls o) (a + 1) (emptyI x.op) t hnd hall (fun f _ => by cases f <;> first | rfl | trivial) (drop_cons hd0).2.2 (hrel (opFls o) 1 hr)
  show rdL rl X (opFls o) (⟨a + 1, false⟩, emptyI x.op) = _
  rw [this, hx, hE]
  simp only [List.length_cons, Nat.add_assoc, Nat.add_comm 1]
 refine ⟨hR, ?_⟩
 unfold cDecOk
 rw [hR, ht, hb, ← e, hfind, h]
 rfl
def Ext (X Y : RIn) : Prop := ∃ t, Y.s = X.s ++ t
def Keeps {α : Type} (g h : RSt → α × RSt) : Prop := ∀ r, (g r).2.bad = false → r.bad = false ∧ h r = g r
section
variable {X Y : RIn} (hE : Ext X Y)
include hE
theorem ext_take : Keeps (takeB X) (takeB Y) := by
 intro r h
 obtain ⟨t, e⟩ := hE
 unfold takeB at h ⊢
 by_cases hl : r.at_ < X.s.length
 ·rw [if_pos hl] at h ⊢
  have hl2 : r.at_ < Y.s.length := by rw [e, List.length_append]; omega
  rw [if_pos hl2]
  refine ⟨h, ?_⟩
  rw [e, List.getD, List.getElem?_append_left hl]
  rfl
 ·rw [if_neg hl] at h
  cases h
theorem ext_numL : ∀ (k z m n : Nat), Keeps (fun r => rdNumL X k r z m n) (fun r => rdNumL Y k r z m n)
 | 0, _, _, _ => fun r h => ⟨h, rfl⟩
 | k + 1, z, m, n => fun r h => by
  have h : (rdNumL X (k + 1) r z m n).2.bad = false := h
  show r.bad = false ∧ rdNumL Y (k + 1) r z m n = rdNumL X (k + 1) r z m n
  rw [rdNumL] at h
  rw [rdNumL, rdNumL]
  by_cases c1 : 128 ≤ (takeB X r).1.toNat ∧ n + 1 < 6
  ·rw [if_pos c1] at h ⊢
   obtain ⟨h1, h2⟩ := ext_numL k _ _ _ _ h
   obtain ⟨h3, h4⟩ := ext_take hE r h1
   rw [h4, if_pos c1]
   exact ⟨h3, h2⟩
  ·rw [if_neg c1] at h ⊢
   by_cases c2 : 128 ≤ (takeB X r).1.toNat ∨ (1 < n + 1 ∧ (takeB X r).1.toNat = 0) ∨ ¬ isNum (unzz (z + (takeB X r).1.toNat % 128 * m)) = true
   ·rw [if_pos c2] at h
    cases h
   ·rw [if_neg c2] at h ⊢
    obtain ⟨h3, h4⟩ := ext_take hE r h
    rw [h4, if_neg c1, if_neg c2]
    exact ⟨h3, rfl⟩
theorem ext_num : Keeps (rdNum X) (rdNum Y) := ext_numL hE 6 0 1 0
theorem ext_flag : Keeps (rdFlag X) (rdFlag Y) := by
 intro r h
 unfold rdFlag at h ⊢
 simp only [Bool.or_eq_false_iff] at h
 obtain ⟨h3, h4⟩ := ext_take hE r h.1
 rw [h4]
 exact ⟨h3, rfl⟩
theorem ext_str : Keeps (rdStr X) (rdStr Y) := by
 intro r h
 obtain ⟨t, e⟩ := hE
 unfold rdStr at h ⊢
 simp only at h ⊢
 by_cases c : (rdNum X r).1 < 0 ∨ 255 < (rdNum X r).1 ∨ (X.s.length : Int) - (rdNum X r).2.at_ < (rdNum X r).1
 ·rw [if_pos c] at h
  cases h
 ·rw [if_neg c] at h ⊢
  obtain ⟨h3, h4⟩ := ext_num ⟨t, e⟩ r h
  have hlen : Y.s.length = X.s.length + t.length := by rw [e, List.length_append]
  rw [h4, if_neg (by omega)]
  refine ⟨h3, ?_⟩
  rw [e, List.take_append_of_le_length (by omega)]
theorem ext_ty : Keeps (rdTy X) (rdTy Y) := by
 intro r h
 unfold rdTy at h ⊢
 simp only at h ⊢
 obtain ⟨h5, e5⟩ := ext_str hE _ h
 obtain ⟨h4, e4⟩ := ext_flag hE _ h5
 obtain ⟨h3, e3⟩ := ext_num hE _ h4
 obtain ⟨h2, e2⟩ := ext_num hE _ h3
 obtain ⟨h1, e1⟩ := ext_num hE _ h2
 rw [e1, e2, e3, e4, e5]
 exact ⟨h1, rfl⟩
theorem ext_fm : Keeps (rdFm X) (rdFm Y) := by
 intro r h
 unfold rdFm at h ⊢
 simp only at h ⊢
 obtain ⟨h4, e4⟩ := ext_str hE _ h
 obtain ⟨h3, e3⟩ := ext_num hE _ h4
 obtain ⟨h2, e2⟩ := ext_num hE _ h3
 obtain ⟨h1, e1⟩ := ext_num hE _ h2
 rw [e1, e2, e3, e4]
 exact ⟨h1, rfl⟩
theorem ext_int : Keeps (gI X) (gI Y) := by
 intro r h
 unfold gI at h ⊢
 obtain ⟨h1, e1⟩ := ext_num hE r h
 rw [e1]
 exact ⟨h1, rfl⟩
omit hE in
theorem ext_list {α : Type} {g h : RSt → α × RSt} (hk : Keeps g h) : ∀ k, Keeps (rdList g k) (rdList h k)
 | 0 => fun r hr => ⟨hr, rfl⟩
 | k + 1 => fun r hr => by
  have hr' : (rdList g k (g r).2).2.bad = false := hr
  obtain ⟨h2, e2⟩ := ext_list hk k _ hr'
  obtain ⟨h1, e1⟩ := hk r h2
  refine ⟨h1, ?_⟩
  show ((h r).1 :: (rdList h k (h r).2).1, (rdList h k (h r).2).2) = ((g r).1 :: (rdList g k (g r).2).1, (rdList g k (g r).2).2)
  rw [e1, e2]
theorem ext_lst {α : Type} {g h : RSt → α × RSt} (hk : Keeps g h) (l : List α) : Keeps (rdLst X g l) (rdLst Y h l) := by
 intro r hr
 unfold rdLst at hr ⊢
 by_cases c : (decide ((rdNum X r).1 < 0) || decide ((rdNum X r).1 > 16)) = true
 ·rw [if_pos c] at hr
  cases hr
 ·rw [if_neg c] at hr ⊢
  obtain ⟨h2, e2⟩ := ext_list hk _ _ hr
  obtain ⟨h1, e1⟩ := ext_num hE r h2
  rw [e1, if_neg c, e2]
  exact ⟨h1, rfl⟩
theorem ext_four : Keeps (rdFour X) (rdFour Y) := by
 intro r h
 unfold rdFour at h ⊢
 simp only at h ⊢
 obtain ⟨h4, e4⟩ := ext_take hE _ h
 obtain ⟨h3, e3⟩ := ext_take hE _ h4
 obtain ⟨h2, e2⟩ := ext_take hE _ h3
 obtain ⟨h1, e1⟩ := ext_take hE _ h2
 rw [e1, e2, e3, e4]
 exact ⟨h1, rfl⟩
omit hE in
theorem rel_bad {rl : List (Int × Int)} {v : Int} {r : RSt} (h : (rdRel rl v r).2.bad = false) : r.bad = false := by
 unfold rdRel at h
 split at h
 ·exact h
 ·cases h
theorem ext_pr (no : Bool) (rl : List (Int × Int)) (old : Int) : Keeps (fun r => rdPr no rl X r old) (fun r => rdPr no rl Y r old) := by
 intro r h
 simp only at h ⊢
 have hb : (rdFour X r).2.bad = false := by
  unfold rdPr at h
  split at h
  ·exact h
  ·split at h
   ·exact rel_bad h
   ·cases h
 obtain ⟨h1, e1⟩ := ext_four hE r hb
 refine ⟨h1, ?_⟩
 unfold rdPr
 rw [e1]
theorem ext_fl (f : Fl) (rl : List (Int × Int)) (r : RSt) (x : In) (h : (f.rd rl X r x).1.bad = false) : r.bad = false ∧ f.rd rl Y r x = f.rd rl X r x := by
 cases f
 case D => obtain ⟨h1, e⟩ := ext_num hE r h; refine ⟨h1, ?_⟩; simp only [Fl.rd]; rw [e]
 case A => obtain ⟨h1, e⟩ := ext_num hE r h; refine ⟨h1, ?_⟩; simp only [Fl.rd]; rw [e]
 case B => obtain ⟨h1, e⟩ := ext_num hE r h; refine ⟨h1, ?_⟩; simp only [Fl.rd]; rw [e]
 case N => obtain ⟨h1, e⟩ := ext_num hE r h; refine ⟨h1, ?_⟩; simp only [Fl.rd]; rw [e]
 case M => obtain ⟨h1, e⟩ := ext_num hE r h; refine ⟨h1, ?_⟩; simp only [Fl.rd]; rw [e]
 case P => obtain ⟨h1, e⟩ := ext_num hE r h; refine ⟨h1, ?_⟩; simp only [Fl.rd]; rw [e]
 case T => obtain ⟨h1, e⟩ := ext_ty hE r h; refine ⟨h1, ?_⟩; simp only [Fl.rd]; rw [e]
 case U => obtain ⟨h1, e⟩ := ext_ty hE r h; refine ⟨h1, ?_⟩; simp only [Fl.rd]; rw [e]
 case W => obtain ⟨h1, e⟩ := ext_ty hE r h; refine ⟨h1, ?_⟩; simp only [Fl.rd]; rw [e]
 case V =>
  obtain ⟨h2, e2⟩ := ext_str hE _ h
  obtain ⟨h1, e1⟩ := ext_num hE r h2
  refine ⟨h1, ?_⟩
  simp only [Fl.rd]
  rw [e1, e2]
 case L => obtain ⟨h1, e⟩ := ext_lst hE (ext_int hE) x.l r h; refine ⟨h1, ?_⟩; simp only [Fl.rd]; rw [e]
 case Y => obtain ⟨h1, e⟩ := ext_lst hE (ext_ty hE) x.y r h; refine ⟨h1, ?_⟩; simp only [Fl.rd]; rw [e]
 case F => obtain ⟨h1, e⟩ := ext_lst hE (ext_fm hE) x.f r h; refine ⟨h1, ?_⟩; simp only [Fl.rd]; rw [e]
 case Sz => obtain ⟨h1, e⟩ := ext_flag hE r h; refine ⟨h1, ?_⟩; simp only [Fl.rd]; rw [e]
 case Rg => obtain ⟨h1, e⟩ := ext_flag hE r h; refine ⟨h1, ?_⟩; simp only [Fl.rd]; rw [e]
 case aN => obtain ⟨h1, e⟩ := ext_four hE r h; refine ⟨h1, ?_⟩; simp only [Fl.rd]; rw [e]
 case aM => obtain ⟨h1, e⟩ := ext_four hE r h; refine ⟨h1, ?_⟩; simp only [Fl.rd]; rw [e]
 case pN => obtain ⟨h1, e⟩ := ext_pr hE false rl (Sel.get .N x) r h; refine ⟨h1, ?_⟩; simp only [Fl.rd]; simp only at e; rw [e]
 case pM => obtain ⟨h1, e⟩ := ext_pr hE true rl (Sel.get .M x) r h; refine ⟨h1, ?_⟩; simp only [Fl.rd]; simp only at e; rw [e]
 case far =>
  obtain ⟨h2, e2⟩ := ext_four hE _ h
  refine ⟨rel_bad h2, ?_⟩
  simp only [Fl.rd]
  rw [e2]
omit hE in
theorem rdL_bad {rl : List (Int × Int)} {X : RIn} : ∀ (l : List Fl) (s : RSt × In), s.1.bad = true → rdL rl X l s = s
 | [], s, _ => rfl
 | f :: l, s, h => by
  show rdL rl X l (if s.1.bad = true then s else f.rd rl X s.1 s.2) = s
  rw [if_pos h]
  exact rdL_bad l s h
theorem ext_rdL (rl : List (Int × Int)) : ∀ (l : List Fl) (s : RSt × In), (rdL rl X l s).1.bad = false → s.1.bad = false ∧ rdL rl Y l s = rdL rl X l s
 | [], s, h => ⟨h, rfl⟩
 | f :: l, s, h => by
  have hu : rdL rl X (f :: l) s = rdL rl X l (if s.1.bad = true then s else f.rd rl X s.1 s.2) := rfl
  have hv : rdL rl Y (f :: l) s = rdL rl Y l (if s.1.bad = true then s else f.rd rl Y s.1 s.2) := rfl
  by_cases hb : s.1.bad = true
  ·rw [rdL_bad (f :: l) s hb, hb] at h
   cases h
  ·rw [hu, if_neg hb] at h
   obtain ⟨h1, e1⟩ := ext_rdL rl l _ h
   obtain ⟨h2, e2⟩ := ext_fl hE f rl s.1 s.2 h1
   rw [hu, hv, if_neg hb, if_neg hb, e2, e1]
   exact ⟨h2, rfl⟩
theorem ext_dec (rl : List (Int × Int)) (a : Nat) (h : (cDecR rl X a).1.bad = false) : cDecR rl Y a = cDecR rl X a := by
 unfold cDecR at h ⊢
 obtain ⟨h1, e1⟩ := ext_rdL hE rl _ _ h
 obtain ⟨h2, e2⟩ := ext_take hE _ h1
 rw [e2, e1]
end
def Fl.pr (f : Fl) : Bool := match f with
 | .pN | .pM | .far => true
 | _ => false
theorem relp_len (f : Fl) (x : In) (n : Nat) : (f.rel x n).length ≤ if f.pr = true then 1 else 0 := by
 cases f <;> simp [Fl.rel, Fl.pr, relP]
 all_goals split <;> simp
theorem relL_len (x : In) : ∀ (l : List Fl) (n : Nat), (relL x l n).length ≤ (l.filter Fl.pr).length
 | [], _ => Nat.le_refl _
 | f :: l, n => by
  have h1 := relp_len f x n
  have h2 := relL_len x l (n + (f.enc x).length)
  show (f.rel x n ++ relL x l (n + (f.enc x).length)).length ≤ _
  rw [List.length_append]
  by_cases hp : f.pr = true
  ·rw [if_pos hp] at h1
   rw [List.filter_cons_of_pos hp, List.length_cons]
   omega
  ·rw [if_neg hp] at h1
   rw [List.filter_cons_of_neg (by simpa using hp)]
   omega
theorem cEnc_rel1 {x : In} (h : cFine x = true) : (cEnc x).2.length ≤ 1 := by
 have hop : 1 ≤ x.op ∧ x.op ≤ 38 := by
  by_cases hop : 1 ≤ x.op ∧ x.op ≤ 38
  ·exact hop
  ·have : cFine x = false := by unfold cFine opFind; rw [if_neg hop]
   rw [this] at h; cases h
 have ho : isOp x.op.toNat = true := (isOp_iff _).2 (by omega)
 have hfind : opFind x.op = some (opFls x.op.toNat) := by unfold opFind; rw [if_pos hop]
 unfold cEnc
 rw [hfind, putL_eq]
 have h1 := relL_len x (opFls x.op.toNat) 1
 have h2 := all_ops (p := fun o => decide (((opFls o).filter Fl.pr).length ≤ 1)) kq ho
 simp only [decide_eq_true_eq] at h2
 simp only [List.nil_append, Option.getD_some]
 exact Nat.le_trans h1 h2
theorem cEnc_rel {x : In} (h : cFine x = true) : ∀ q ∈ (cEnc x).2, relAt q.1 (cEnc x).2 = some q.2 := by
 intro q hq
 have h1 := cEnc_rel1 h
 match e : (cEnc x).2, h1 with
 | [], _ => rw [e] at hq; cases hq
 | [r], _ =>
  rw [e] at hq
  rw [List.mem_singleton.1 hq]
  simp [relAt]
theorem cut_no {x : In} (h : cFine x = true) (X : RIn) (n : Nat) (hL : (cEnc x).1.length ≤ 1000000000) (hn : n < (cEnc x).1.length) (hX : X.s = (cEnc x).1.take n) : cDecOk (cEnc x).2 X 0 = false := by
 cases hd : cDecOk (cEnc x).2 X 0 with
 | false => rfl
 | true =>
  exfalso
  have hb : (cDecR (cEnc x).2 X 0).1.bad = false := by
   unfold cDecOk at hd
   simp only [Bool.and_eq_true, Bool.not_eq_true'] at hd
   exact hd.1.2
  have hE : Ext X (xIn (cEnc x).1) := ⟨(cEnc x).1.drop n, by rw [hX]; exact (List.take_append_drop n _).symm⟩
  have h1 := ext_dec hE (cEnc x).2 0 hb
  have h2 := (rt_ins (cEnc x).2 (xIn (cEnc x).1) x 0 [] h (by simp [xIn]) (fun q hq => by rw [Int.natCast_zero, Int.add_zero]; exact cEnc_rel h q hq)).1
  rw [h1] at h2
  have h3 : (cDecR (cEnc x).2 X 0).1.at_ = 0 + (cEnc x).1.length := by rw [h2]
  have hlen : X.s.length ≤ n := by rw [hX]; exact List.length_take_le _ _
  have hn0 : 0 < X.s.length ∨ X.s.length = 0 := by omega
  rcases hn0 with h0 | h0
  ·have := (cDecR_next (cEnc x).2 X 0 ⟨by omega, Nat.zero_le _⟩ h0).2.2
   omega
  ·have ht : takeB X ⟨0, false⟩ = (0, ⟨0, true⟩) := by rw [takeB_s]; exact takeB_out (by omega)
   unfold cDecR at hb
   rw [ht, rdL_bad _ _ rfl] at hb
   cases hb
structure PlOk (rl : List (Int × Int)) (X : RIn) (n : Nat) (l : List In) (p : List Int) : Prop where
 len : p.length = l.length
 le : l.length + n ≤ X.s.length
 step : ∀ i, i < l.length → ∃ a : Nat, (((n : Int) :: p).getD i 0) = (a : Int) ∧ a < X.s.length ∧ cDecOk rl X a = true ∧ (((n : Int) :: p).getD (i + 1) 0) = ((cDecR rl X a).1.at_ : Int)
 last : (((n : Int) :: p).getD l.length 0) = (X.s.length : Int)
theorem tk_places (rl : List (Int × Int)) (X : RIn) (hs : X.s.length ≤ 1000000000) : ∀ (k n : Nat) (l : List In) (p : List Int), n ≤ X.s.length → tkS rl X k n = some (l, p) → PlOk rl X n l p
 | 0, n, l, p, _, h => by cases h
 | k + 1, n, l, p, hn, h => by
  rw [tkS_succ] at h
  by_cases hlt : n < X.s.length
  ·rw [if_pos hlt] at h
   by_cases hd : cDecOk rl X n = true
   ·rw [if_pos hd] at h
    have hnx := cDecR_next rl X n ⟨hs, hn⟩ hlt
    cases e : tkS rl X k (cDecR rl X n).1.at_ with
    | none => rw [e] at h; cases h
    | some s =>
     rw [e] at h
     obtain ⟨l1, p1⟩ := s
     simp only [Option.map_some, Option.some.injEq, Prod.mk.injEq] at h
     obtain ⟨rfl, rfl⟩ := h
     have ih := tk_places rl X hs k _ l1 p1 hnx.2.2 e
     refine ⟨by simp [ih.len], ?_, ?_, ?_⟩
     ·have := ih.le
      simp only [List.length_cons]
      omega
     ·intro i hi
      cases i with
      | zero => exact ⟨n, rfl, hlt, hd, rfl⟩
      | succ i =>
       simp only [List.length_cons] at hi
       obtain ⟨a, h1, h2, h3, h4⟩ := ih.step i (by omega)
       exact ⟨a, by simpa using h1, h2, h3, by simpa using h4⟩
     ·simpa using ih.last
   ·rw [if_neg hd] at h
    cases h
  ·rw [if_neg hlt] at h
   simp only [Option.some.injEq, Prod.mk.injEq] at h
   obtain ⟨rfl, rfl⟩ := h
   refine ⟨rfl, by simp; omega, fun i hi => absurd hi (Nat.not_lt_zero i), ?_⟩
   simp
   omega
theorem vd_places {rl : List (Int × Int)} {X : RIn} {pr rg : Int} {s : List In × List Int} (hs : X.s.length ≤ 1000000000) (h : vdS rl X pr rg = some s) : ∃ p, s.2 = (0 : Int) :: p ∧ PlOk rl X 0 s.1 p := by
 unfold vdS at h
 split at h
 ·cases h
 ·split at h
  ·cases h
  ·rename_i s' ht
   split at h
   ·cases h
    unfold takenS at ht
    cases e : tkS rl X (X.s.length + 1) 0 with
    | none => rw [e] at ht; cases ht
    | some t =>
     rw [e] at ht
     cases ht
     exact ⟨t.2, rfl, tk_places rl X hs _ _ _ _ (Nat.zero_le _) e⟩
   ·cases h
theorem xPlacesNo (rl : List (Int × Int)) (X : RIn) (hX : X.n = rl.length) (hl : rl.length ≤ 1000000000) (hs : X.s.length ≤ 100000000) (pr rg : Int) (h : vdS rl X pr rg = none) :
  CallsK Tryz.prog 31 [modC pr rg X] (psOf [glbP, rowP (relRow rl X.q X.c)]) (fun _ : Unit => True) (fun _ => .tup [.one (.val (.slice none 0 0)), .one (.int .i64 221)]) (fun _ => noF) := by
 refine CallsK.mk true Tryz.func31 kq kq (fun ρ w => ?_)
 refine V.q ?_
 refine V.drawX [] [] 10 kq ?_
 refine @VX.run _ [] [] 10 _ _ ([] : List (Ent Tryz.prog)) [] kq kq trivial ?_
 refine @VX.callK _ [] [] 10 _ _ Kc 58 [] glbF _ _ _ [(0, false)] cNew0 kq kq kq (fun _ => kq) (fun K hK => ?_)
 refine @VX.run _ [] [] 10 _ _ ([] : List (Ent Tryz.prog)) [] kq kq trivial ?_
 refine @VX.callK _ [] [] 10 _ _ (Option TK) 71 [.agg [.val (.map (some K.gF)), .val (.map (some K.gO))], modC pr rg X] (psOf [cdP K, rowP (relRow rl X.q X.c)]) _ _ _ [(0, true), (2, false)] (cValid K hK rl X hX hl hs pr rg) kq kq kq (fun t => by cases t <;> kernel_rfl) (fun t ht => ?_)
 unfold tkPc at ht
 rw [h] at ht
 have ht' : t = none := ht.1
 subst ht'
 refine @VX.run _ [] [] 10 _ _ ([] : List (Ent Tryz.prog)) [] kq kq trivial ?_
 refine @VX.stop _ [] [] 10 _ _ kq ?_
 refine V.q ?_
 refine V.known 15 (!false) true kq rfl ?_
 refine V.q ?_
 exact V.z
noncomputable def aShort : Con Tryz.prog := Con.auto Tryz.func28 true [] [] kq kq
theorem row_take {α : Type} (f : α → List SV) (d : α) (l : List α) (q : Option Addr) (c : Nat) (e : TypeId) (sz k : Nat) :
  (∀ j, (rowP (rowL f d (l.take k) q c e sz false)).D j → ∃ p ∈ [rowP (rowL f d l q c e sz false)], p.D j) ∧ (∀ w, (∀ p ∈ [rowP (rowL f d l q c e sz false)], p.φ w) → (rowP (rowL f d (l.take k) q c e sz false)).φ w) := by
 have hlen : (l.take k).length ≤ l.length := List.length_take_le' k l
 have hget : ∀ i, i < (l.take k).length → (l.take k).getD i d = l.getD i d := fun i hi => by
  have hi' : i < k := by have := List.length_take_le k l; omega
  rw [List.getD, List.getD, List.getElem?_take_of_lt hi']
 constructor
 ·rintro j ⟨a, h1, h2, h3⟩
  refine ⟨_, List.mem_singleton.2 rfl, a, h1, h2, ?_⟩
  rcases h3 with h3 | h3 | h3
  ·cases h3
  ·refine .inr (.inl ?_)
   have h3' : 0 < (l.take k).length := h3
   show 0 < l.length
   omega
  ·cases h3
 ·intro w hw
  have h := hw _ (List.mem_singleton.2 rfl)
  have h : (rowL f d l q c e sz false).ok w := h
  refine ⟨fun i hi => ?_, fun hpos => ?_, fun h1 => (by cases h1), fun o h1 => (by cases h1)⟩
  ·have hi' : i < (l.take k).length := hi
   have := h.len i (by show i < l.length; omega)
   show (f ((l.take k).getD i d)).length = sz ∧ ∀ x ∈ f ((l.take k).getD i d), x.plain
   rw [hget i hi']
   exact this
  ·have hpos' : 0 < (l.take k).length := hpos
   obtain ⟨b, off, h1, h2⟩ := h.addr (by show 0 < l.length; omega)
   refine ⟨b, off, h1, fun i j x hi hx => ?_⟩
   have hi' : i < (l.take k).length := hi
   refine h2 i j x (by show i < l.length; omega) ?_
   have hx' : (f ((l.take k).getD i d))[j]? = some x := hx
   rw [hget i hi'] at hx'
   exact hx'
end Go.Proofs
end
section
namespace Go.SX
def setl (g : Nat) (b : Bool) : RV → RV
 | .grd g' pol c x => match Nat.beq g' g with
  | true => match pol, b with
   | true, true | false, false => .v x
   | _, _ => .v (.one (.val undef))
  | false => .grd g' pol c x
 | v => v
def settleS (g : Nat) (b : Bool) : List (Nat × RV) → List (Nat × RV)
 | [] => []
 | (k, v) :: l => (k, setl g b v) :: settleS g b l
theorem look_settleS {g : Nat} {b : Bool} : ∀ {l : List (Nat × RV)} {i : Nat}, look (settleS g b l) i = (look l i).map (setl g b)
 | [], i => rfl
 | (k, v) :: l, i => by
  simp only [settleS, look]
  cases Nat.beq k i with
  | true => rfl
  | false => exact look_settleS
def lessNat (g : Nat) : List Nat → List Nat
 | [] => []
 | k :: l => match Nat.beq k g with
  | true => lessNat g l
  | false => k :: lessNat g l
theorem hasNat_less {g i : Nat} : ∀ {l : List Nat}, hasNat l i = true → g ≠ i → hasNat (lessNat g l) i = true
 | [], h, _ => h
 | k :: l, h, hn => by
  simp only [lessNat]
  simp only [hasNat] at h
  cases e : Nat.beq k g with
  | true =>
   have := Nat.eq_of_beq_eq_true e
   subst this
   cases e2 : Nat.beq k i with
   | true => exact absurd (Nat.eq_of_beq_eq_true e2) hn
   | false => rw [e2] at h; exact hasNat_less h hn
  | false =>
   simp only [hasNat]
   cases e2 : Nat.beq k i with
   | true => rfl
   | false => rw [e2] at h; exact hasNat_less h hn
variable {C : Ctx}
theorem V.settle (g : Nat) (b e : Bool) {c : Cfg} (hl : look c.st.slots g = some (.v (.one (.sb e)))) (he : e = b)
  (h : V C ⟨c.todo, { c.st with slots := upd (settleS g b c.st.slots) g (.v (.one (.bool b))), gs := lessNat g c.st.gs }⟩) : V C c := by
 subst he
 intro ρ a w hS
 refine h ρ a w ⟨hS.n, fun i v hv => ?_, fun i g' pol c' x hv => ?_, hS.heap, hS.inj, hS.lt, hS.defers, hS.chg, hS.rows, hS.rowsD, hS.pers, hS.fix⟩
 ·simp only [look_upd] at hv
  by_cases ei : g = i
  ·rw [if_pos ei] at hv
   cases hv
   subst ei
   exact ⟨(hS.slots g _ hl).1, trivial⟩
  ·rw [if_neg ei, look_settleS] at hv
   cases h0 : look c.st.slots i with
   | none => rw [h0] at hv; cases hv
   | some v0 =>
    rw [h0] at hv
    cases hv
    obtain ⟨k1, k2⟩ := hS.slots i v0 h0
    cases v0 with
    | grd g' pol c' x =>
     simp only [setl]
     cases eg : Nat.beq g' g with
     | false => exact ⟨k1, k2⟩
     | true =>
      have := Nat.eq_of_beq_eq_true eg
      subst this
      have k3 := (hS.grds i g' pol c' x h0).2
      rw [hl] at k3
      cases k3
      cases pol <;> cases e
      ·exact ⟨k1, k2 rfl⟩
      ·exact ⟨k1, trivial⟩
      ·exact ⟨k1, trivial⟩
      ·exact ⟨k1, k2 rfl⟩
    | v x => exact ⟨k1, k2⟩
    | _ => exact ⟨k1, k2⟩
 ·simp only [look_upd] at hv ⊢
  by_cases ei : g = i
  ·rw [if_pos ei] at hv; cases hv
  ·rw [if_neg ei, look_settleS] at hv
   cases h0 : look c.st.slots i with
   | none => rw [h0] at hv; cases hv
   | some v0 =>
    rw [h0] at hv
    cases v0 with
    | grd g2 pol2 c2 x2 =>
     simp only [Option.map_some, setl] at hv
     cases eg : Nat.beq g2 g with
     | true => rw [eg] at hv; cases pol2 <;> cases e <;> cases hv
     | false =>
      rw [eg] at hv
      cases hv
      obtain ⟨k1, k2⟩ := hS.grds i g' pol c' x h0
      have hne : g ≠ g' := fun e' => by subst e'; rw [Nat.beq_refl] at eg; cases eg
      refine ⟨hasNat_less k1 hne, ?_⟩
      rw [if_neg hne, look_settleS, k2]
      rfl
    | v x => cases hv
    | _ => cases hv
end Go.SX
end
section
namespace Go.Proofs
open Go Go.SX
set_option maxRecDepth 10000
noncomputable def slSt (x : In) (A : IA) (n : Int) (i : Nat) : St :=
 { n := 73, slots := [(1, .v (.one (.ptr 0 0))), (3, .v (.one (.int .i64 n))), (28, .v (.one (.row 2 A.qy x.y.length A.cy))), (29, .v (.one (.int .i64 (x.y.length : Int)))), (30, .v (.one (.int .i64 (i : Int))))], gs := [],
    heap := [(0, seB x A 0)], next := 1, rows := [(0, rowF x A), (1, rowI x A), (2, rowT x A)], nr := 3, pers := [], wr := true, fx := 0 }
noncomputable def slSt2 (x : In) (A : IA) (n : Int) (i : Nat) : St :=
 { n := 73, slots := [(1, .v (.one (.ptr 0 0))), (3, .v (.one (.int .i64 n))), (41, .v (.one (.row 0 A.qf x.f.length A.cf))), (42, .v (.one (.int .i64 (x.f.length : Int)))), (43, .v (.one (.int .i64 (i : Int))))], gs := [],
    heap := [(0, seB x A 0)], next := 1, rows := [(0, rowF x A), (1, rowI x A), (2, rowT x A)], nr := 3, pers := [], wr := true, fx := 0 }
structure SlI where
 n : Int
 i : Nat
theorem wrapL {i n : Nat} (h : i < n) (hn : n ≤ maxLen) : IntKind.i64.wrap ((i : Int) + 1) = ((i + 1 : Nat) : Int) := by
 unfold maxLen at hn
 simp [IntKind.wrap, IntKind.bits, IntKind.signed]
 omega
set_option maxHeartbeats 2000000 in
theorem cSlimF (x : In) (A : IA) (hf : x.f.length ≤ maxLen) (hy : x.y.length ≤ maxLen) : CallsK Tryz.prog 52 [.agg (inV x A)] (stP (lsP x A)) (fun b : Bool => b = false → x.okL) (fun b => .v (.one (.sb b))) (fun _ => noF) := by
 refine CallsK.mk true Tryz.func52 kq kq (fun ρ0 w0 => ?_)
 refine V.q ?_
 refine V.factRow 0 (rowF x A) kq rfl ?_
 refine V.factRow 1 (rowI x A) kq rfl ?_
 refine V.factRow 2 (rowT x A) kq rfl ?_
 refine V.cellRow 0 24 0 ⟨inV x A, 30, true⟩ (rowF x A) kq kq kq ?_
 refine V.cellRow 0 25 1 ⟨inC x (.row 0 A.qf x.f.length A.cf) (.val (.slice A.ql x.l.length A.cl)) (.val (.slice A.qy x.y.length A.cy)), 30, true⟩ (rowI x A) kq kq kq ?_
 refine V.cellRow 0 26 2 ⟨inC x (.row 0 A.qf x.f.length A.cf) (.row 1 A.ql x.l.length A.cl) (.val (.slice A.qy x.y.length A.cy)), 30, true⟩ (rowT x A) kq kq kq ?_
 refine V.slotRow 28 2 (rowT x A) kq kq kq ?_
 refine V.iter ?_
 refine V.loopTo [1, 3, 28, 29, 30] [0] [0, 1, 2] [] (fun j : SlI => x.y.length - j.i) (fun j => slSt x A j.n j.i) (fun j => j.i ≤ x.y.length) ⟨IntKind.i64.wrap (IntKind.i64.wrap (IntKind.i64.wrap ((x.vs.length : Int) + x.t.s.length) + x.u.s.length) + x.w.s.length), 0⟩ kq (Nat.zero_le _) (fun j hj ih => ?_)
 obtain ⟨n, i⟩ := j
 simp only at hj
 refine V.q ?_
 refine V.branch 31 (decide ((i : Int) < (x.y.length : Int))) kq (fun hc => ?_) (fun hc => ?_)
 ·have hlt : i < x.y.length := by simpa using hc
  have key := ih ⟨IntKind.i64.wrap (n + ((x.y.getD i ty0).s.length : Int)), i + 1⟩ hlt (by simp only; omega)
  refine V.runT [] [(0 : Int) ≤ i ∧ (i : Int) < x.y.length] kq kq ⟨by omega, by omega⟩ ?_
  refine V.slotAs 30 (.one (.int .i64 (IntKind.i64.wrap ((i : Int) + 1)))) (.one (.int .i64 ((i + 1 : Nat) : Int))) kq kq (fun _ => by rw [wrapL hlt hy]) ?_
  refine V.iter ?_
  exact V.back [1, 3, 28, 29, 30] [0] [0, 1, 2] [] key kq kq
 ·refine V.q ?_
  refine V.iter ?_
  refine V.loopTo [1, 3, 41, 42, 43] [0] [0, 1, 2] [] (fun j : SlI => x.f.length - j.i) (fun j => slSt2 x A j.n j.i) (fun j => j.i ≤ x.f.length) ⟨n, 0⟩ kq (Nat.zero_le _) (fun j hj ih => ?_)
  obtain ⟨n, i⟩ := j
  simp only at hj
  refine V.q ?_
  refine V.branch 44 (decide ((i : Int) < (x.f.length : Int))) kq (fun hc => ?_) (fun hc => ?_)
  ·have hlt : i < x.f.length := by simpa using hc
   have key := ih ⟨IntKind.i64.wrap (n + ((x.f.getD i fm0).s.length : Int)), i + 1⟩ hlt (by simp only; omega)
   refine V.runT [] [(0 : Int) ≤ i ∧ (i : Int) < x.f.length] kq kq ⟨by omega, by omega⟩ ?_
   refine V.slotAs 43 (.one (.int .i64 (IntKind.i64.wrap ((i : Int) + 1)))) (.one (.int .i64 ((i + 1 : Nat) : Int))) kq kq (fun _ => by rw [wrapL hlt hf]) ?_
   refine V.iter ?_
   exact V.back [1, 3, 41, 42, 43] [0] [0, 1, 2] [] key kq kq
  ·refine V.q ?_
   exact V.retK (decide ((x.f.length : Int) > 20) || decide ((x.l.length : Int) > 20) || decide ((x.y.length : Int) > 20) || decide (n > 20000) : Bool) [] kq kq kq (fun h => by
    simp only [Bool.or_eq_false_iff, decide_eq_false_iff_not] at h
    exact ⟨by omega, by omega, by omega⟩)
def slF (x : In) (A : IA) (ps : List Pers) : St := { n := 0, slots := [], gs := [], heap := [(0, ⟨inV x A, 30, true⟩)], next := 1, rows := [], nr := 0, pers := ps, wr := false }
theorem cSlim88 (x : In) (A : IA) (hf : x.f.length ≤ maxLen) (hy : x.y.length ≤ maxLen) : CallsK Tryz.prog 88 [.one (.sli 0 1 1), .one (.fn 52 [])] (slF x A (lsP x A)) (fun b : Bool => b = false → x.okL) (fun b => .v (.one (.int .i64 (bif b then 0 else -1)))) (fun _ => slF x A []) := by
 refine CallsK.mk true Tryz.func88 kq kq (fun ρ0 w0 => ?_)
 refine V.runC [] 2 [] kq kq trivial ?_
 refine V.runT [] [(0 : Int) ≤ 0 ∧ (0 : Int) < ((1 : Nat) : Int)] kq kq ⟨by decide, by decide⟩ ?_
 refine V.callK [(0, false), (1, false), (2, false)] (cSlimF x A hf hy) kq kq kq (fun _ => kq) (fun b hb => ?_)
 refine V.q ?_
 refine V.branch 16 b kq (fun hh => ?_) (fun hh => ?_)
 ·subst hh
  refine V.q ?_
  exact V.retK (true : Bool) [] kq kq kq hb
 ·subst hh
  refine V.runC [] 5 [] kq kq trivial ?_
  exact V.retK (false : Bool) [] kq kq kq hb
theorem cSlim51 (x : In) (A : IA) (hf : x.f.length ≤ maxLen) (hy : x.y.length ≤ maxLen) : CallsK Tryz.prog 51 [.one (.sli 0 1 1), .one (.fn 52 [])] (slF x A (lsP x A)) (fun b : Bool => b = false → x.okL) (fun b => .v (.one (.sb (decide ((bif b then (0 : Int) else -1) ≥ 0))))) (fun _ => slF x A []) := by
 refine CallsK.mk true Tryz.func51 kq kq (fun ρ0 w0 => ?_)
 refine V.q ?_
 refine V.callK [(0, false), (1, false), (2, false)] (cSlim88 x A hf hy) kq kq kq (fun _ => kq) (fun b hb => ?_)
 refine V.q ?_
 exact V.retK (b : Bool) [] kq kq kq hb
theorem cSlim (x : In) (A : IA) (hf : x.f.length ≤ maxLen) (hy : x.y.length ≤ maxLen) : CallsK Tryz.prog 15 [.one (.sli 0 1 1)] (slF x A (lsP x A)) (fun b : Bool => b = true → x.okL) (fun b => .v (.one (.sb b))) (fun _ => slF x A []) := by
 refine CallsK.mk true Tryz.func15 kq kq (fun ρ0 w0 => ?_)
 refine V.q ?_
 refine V.callK [(0, false), (1, false), (2, false)] (cSlim51 x A hf hy) kq kq kq (fun _ => kq) (fun b hb => ?_)
 refine V.q ?_
 cases b
 ·refine V.slotAs 2 (.one (.sb (!(decide ((bif false then (0 : Int) else -1) ≥ 0))))) (.one (.sb true)) kq kq (fun _ => rfl) ?_
  exact V.retK (true : Bool) [] kq kq kq (fun _ => hb rfl)
 ·refine V.slotAs 2 (.one (.sb (!(decide ((bif true then (0 : Int) else -1) ≥ 0))))) (.one (.sb false)) kq kq (fun _ => rfl) ?_
  exact V.retK (false : Bool) [] kq kq kq (fun h => by cases h)
theorem blk_row {α : Type} (f : α → List SV) (d : α) (l : List α) (g : Nat) (e : TypeId) (sz : Nat) (hf : ∀ x, (f x).length = sz) (hpl : ∀ x, ∀ y ∈ f x, y.plain) (hm : l.length ≤ maxLen) :
  (∀ k, (rowP (rowL f d l (some ⟨g, 0, none⟩) l.length e sz false)).D k → ∃ q ∈ [blkP g (l.flatMap f) e], q.D k) ∧ (∀ w, (∀ q ∈ [blkP g (l.flatMap f) e], q.φ w) → (rowP (rowL f d l (some ⟨g, 0, none⟩) l.length e sz false)).φ w) :=
 ⟨fun k hk => ⟨_, List.mem_singleton.2 rfl, by
  obtain ⟨a, h1, h2, _⟩ := hk
  have h1' : (some ⟨g, 0, none⟩ : Option Addr) = some a := h1
  cases h1'
  exact h2.symm⟩, fun w hw => rowP_of_blk hf hpl hm w (hw _ (List.mem_singleton.2 rfl))⟩
def pastL : List Item → List Item
 | .inLoop _ :: k => k
 | _ :: k => pastL k
 | [] => []
noncomputable def snT2 : List Item := skipU 100 (pastL (skipU 100 [.code (bodyOf Tryz.f14)]))
noncomputable def snSt2 (n0 : Nat) (S : Nat → Prop) (g : Nat) : St :=
 { n := 242, slots := [(11, .v (.one (.ptr 0 0))), (101, .v (.one (.int .i64 4))), (102, .v (.one (.int .i64 4)))], gs := [], heap := [(0, ⟨inV sx4 (sA4 g), 30, true⟩)], next := 1, rows := [], nr := 0,
    pers := [newP n0 S (rowP (rowI sx4 (sA4 g))), newP n0 S (rowP (rowT zeroI IA0)), newP n0 S (rowP (rowI zeroI IA0)), newP n0 S (rowP (rowF zeroI IA0)), glbP], wr := true, fx := 0 }
theorem rlv_plain (x : Int × Int) : ∀ y ∈ rlv x, y.plain := fun y hy => by
 simp only [rlv, List.mem_cons, List.not_mem_nil, or_false] at hy
 rcases hy with rfl | rfl <;> trivial
theorem e3_okL : (emptyI 3).okL := ⟨by decide, by decide, by decide⟩
theorem e0_okL : (emptyI 0).okL := ⟨by decide, by decide, by decide⟩
noncomputable def aBlank5 : Con Tryz.prog := Con.auto Tryz.func49 true [] [] kq kq
def blankC (op : Int) : List SV := (inV (emptyI op) IA0).map fun y => match y with
 | .sb b => .bool b
 | y => y
set_option maxHeartbeats 4000000 in
theorem sane_rest (ρ0 : Nat → Nat) (w0 : World) (g : Nat) : V ⟨Tryz.prog, 14, GivesK ρ0 glbF (fun _ : Unit => True) (fun _ => .v (.one (.sb true))) (fun _ => noF) w0, touch ρ0 glbF, w0, ρ0, none⟩ ⟨snT2, snSt2 w0.heap.size (touch ρ0 glbF) g⟩ := by
 refine V.q ?_
 refine V.known 103 (decide ((4 : Int) < 4)) false kq (by decide) ?_
 refine V.q ?_
 refine V.callK [(4, false), (3, true), (0, true), (1, true)] (xEncode sx4 (sA4 g) sx4_okL sx4_fine) kq kq kq (fun _ => kq) (fun qc4 _ => ?_)
 refine V.q ?_
 refine V.freeze 0 (rowL rlv (0, 0) [(2, 5)] qc4.1 qc4.2 62 2 true) kq kq ?_
 refine V.callK [] (xReadNumber [128, 0] 0 (by decide)) kq kq kq (fun _ => kq) (fun _ _ => ?_)
 refine V.q ?_
 refine V.callK [(5, false)] (xParseNo [83, 84, 69, 80, 32, 48, 49, 48] [[83, 84, 69, 80], [48, 49, 48]] kq (by decide) kq (by decide) (pok_of (o0 := 1) kq kq) kq) kq kq kq (fun _ => kq) (fun _ _ => ?_)
 refine V.q ?_
 refine V.callK [(5, false)] xAsm kq kq kq (fun _ => kq) (fun qc5 _ => ?_)
 refine V.q ?_
 refine V.callK [(6, false), (0, true)] (xPlaces [] ⟨asB, qc5.1, 0, qc5.2⟩ rfl (by decide) (by show 7 ≤ 100000000; decide) 0 4 ([asX1, asX2], [0, 2, 7]) (asV _ _)) kq kq kq (fun _ => kq) (fun qc6 _ => ?_)
 refine V.q ?_
 refine V.settle 205 true ((0 : Int) == 0) kq (by decide) ?_
 refine V.q ?_
 refine V.absB 3 ⟨[.int .i64 2, .int .i64 5], 62, true⟩ kq kq (fun _ => kq) (fun g1 => ?_)
 refine V.persNew [(0, true)] [blkP g1 [.int .i64 2, .int .i64 5] 62] (rowP (rowL rlv (0, 0) [(2, 5)] (some ⟨g1, 0, none⟩) 1 62 2 false)) kq kq (blk_row rlv (0, 0) [(2, 5)] g1 62 2 (fun _ => rfl) rlv_plain (by decide)).1 (blk_row rlv (0, 0) [(2, 5)] g1 62 2 (fun _ => rfl) rlv_plain (by decide)).2 (rowP_stab _) ?_
 refine V.callK [(4, true), (0, true)] (cEqR [(2, 5)] [(2, 5)] qc4.1 (some ⟨g1, 0, none⟩) qc4.2 1 (by decide)) kq kq kq (fun _ => kq) (fun _ _ => ?_)
 refine V.q ?_
 refine V.settle 227 true true kq rfl ?_
 refine V.q ?_
 refine V.absB 3 ⟨[.int .i64 0, .int .i64 2, .int .i64 7], 3, true⟩ kq kq (fun _ => kq) (fun g2 => ?_)
 refine V.persNew [(0, true)] [blkP g2 [.int .i64 0, .int .i64 2, .int .i64 7] 3] (rowP (rowL intv 0 [0, 2, 7] (some ⟨g2, 0, none⟩) 3 3 1 false)) kq kq (blk_row intv 0 [0, 2, 7] g2 3 1 (fun _ => rfl) intv_plain (by decide)).1 (blk_row intv 0 [0, 2, 7] g2 3 1 (fun _ => rfl) intv_plain (by decide)).2 (rowP_stab _) ?_
 refine V.callK [(4, true), (0, true)] (cEqI [0, 2, 7] [0, 2, 7] qc6.1 (some ⟨g2, 0, none⟩) qc6.2 3 (by decide)) kq kq kq (fun _ => kq) (fun _ _ => ?_)
 refine V.q ?_
 refine V.settle 232 true true kq rfl ?_
 refine V.runT [⟨aBlank5, []⟩] [] kq kq trivial ?_
 refine V.slotAs 233 (.agg (blankC 3)) (.agg (inV (emptyI 3) IA0)) kq kq (fun _ => rfl) ?_
 refine V.callK [(11, false), (10, true), (9, true), (8, true)] (xCheck (emptyI 3) IA0 e3_okL) kq kq kq (fun _ => kq) (fun _ _ => ?_)
 refine V.q ?_
 refine V.settle 237 true true kq rfl ?_
 refine V.runT [⟨aBlank5, []⟩] [] kq kq trivial ?_
 refine V.slotAs 238 (.agg (blankC 0)) (.agg (inV (emptyI 0) IA0)) kq kq (fun _ => rfl) ?_
 refine V.callK [(11, false), (10, true), (9, true), (8, true)] (xCheck (emptyI 0) IA0 e0_okL) kq kq kq (fun _ => kq) (fun _ _ => ?_)
 refine V.q ?_
 exact V.z
def snT : List (Int × List UInt8) := [(0, [0]), (-1, [1]), (1, [2]), (63, [126]), (64, [128, 1]), (-64, [127]), (-65, [129, 1])]
def snL : Nat → List (Int × List UInt8) → List MapEntry
 | _, [] => []
 | i, p :: l => { key := .int .i64 p.1, val := .string ⟨p.2.toArray⟩, born := i } :: snL (i + 1) l
def snEs : Array MapEntry := (snL 0 snT).toArray
theorem snL_mem : ∀ {l : List (Int × List UInt8)} {i : Nat} {e : MapEntry}, e ∈ snL i l → ∃ p ∈ l, e.key = .int .i64 p.1 ∧ e.val = .string ⟨p.2.toArray⟩ ∧ e.born < i + l.length
 | [], i, e, h => by simp [snL] at h
 | p :: l, i, e, h => by
  simp only [snL, List.mem_cons] at h
  rcases h with rfl | h
  ·exact ⟨p, List.mem_cons_self .., rfl, rfl, by simp⟩
  ·obtain ⟨p', h1, h2, h3, h4⟩ := snL_mem h
   exact ⟨p', List.mem_cons_of_mem _ h1, h2, h3, by simp only [List.length_cons]; omega⟩
theorem snT_num (p : Int × List UInt8) (h : p ∈ snT) : isNum p.1 = true ∧ encN p.1 = p.2 ∧ rnV p.2 0 = .tup [.one (.int .i64 p.1), .one (.int .i64 (p.2.length : Int)), .one (.int .i64 0)] ∧ p.2.length ≤ 1000000000 := by
 unfold snT at h
 simp only [List.mem_cons, List.not_mem_nil, or_false] at h
 rcases h with rfl | rfl | rfl | rfl | rfl | rfl | rfl <;> exact ⟨by decide, by decide, kq, by decide⟩
theorem snN (p : Int × List UInt8) (h : p ∈ snT) : CallsK Tryz.prog 16 [.one (.int .i64 p.1)] noF (fun _ : Unit => True) (fun _ => .tup [.one (.str p.2), .one (.int .i64 0)]) (fun _ => noF) := by
 have h1 := xNumber p.1
 rw [(snT_num p h).1, (snT_num p h).2.1] at h1
 exact h1
theorem snR (p : Int × List UInt8) (h : p ∈ snT) : CallsK Tryz.prog 18 [.one (.str p.2), .one (.int .i64 0)] noF (fun _ : Unit => True) (fun _ => .tup [.one (.int .i64 p.1), .one (.int .i64 (p.2.length : Int)), .one (.int .i64 0)]) (fun _ => noF) := by
 have h1 := xReadNumber p.2 0 (snT_num p h).2.2.2
 rw [(snT_num p h).2.2.1] at h1
 exact h1
def snSt (n0 : Nat) (S : Nat → Prop) (gL it : Nat) (seen : Array Nat) : St :=
 { n := 242, slots := [(39, .v (.one (.val (.pointer (some ⟨it, 0, none⟩)))))], gs := [], heap := [], next := 0,
    rows := [(0, objRow it (.mapIter (some gL) 7 seen 7))], nr := 1, pers := [newP n0 S (objP gL (.map snEs 7)), glbP], wr := true, fx := 0 }
theorem sn_born : ∀ x ∈ snEs.toList, x.born < 7 := fun e he => by
 obtain ⟨p, _, _, _, h⟩ := snL_mem (l := snT) (i := 0) he
 simpa [snT] using h
theorem sn_nodup : (snEs.toList.map (·.born)).Nodup := by
 show [0, 1, 2, 3, 4, 5, 6].Nodup
 decide
noncomputable def aBlank : Con Tryz.prog := Con.auto Tryz.func49 true [] [] kq kq
theorem sx4_l (g : Nat) : (∀ k, (rowP (rowI sx4 (sA4 g))).D k → ∃ q ∈ [blkP g [.int .i64 2] 3], q.D k) ∧ (∀ w, (∀ q ∈ [blkP g [.int .i64 2] 3], q.φ w) → (rowP (rowI sx4 (sA4 g))).φ w) :=
 ⟨fun k hk => ⟨_, List.mem_singleton.2 rfl, by
  obtain ⟨a, h1, h2, _⟩ := hk
  have h1' : (some ⟨g, 0, none⟩ : Option Addr) = some a := h1
  cases h1'
  exact h2.symm⟩, fun w hw => rowP_of_blk (f := intv) (d := 0) (l := [2]) (e := 3) (sz := 1) (fun _ => rfl) (fun x y hy => by rw [List.mem_singleton.1 hy]; trivial) (by decide) w (hw _ (List.mem_singleton.2 rfl))⟩
set_option maxHeartbeats 4000000 in
theorem sane_ : CallsK Tryz.prog 14 [] glbF (fun _ : Unit => True) (fun _ => .v (.one (.sb true))) (fun _ => noF) := by
 refine CallsK.mk true Tryz.func14 kq kq (fun ρ0 w0 => ?_)
 refine V.q ?_
 refine V.mkMap 86 kq (fun _ => kq) (fun gL => ?_)
 refine V.runM [] 0 7 [] (List.replicate 7 (gL, gL)) kq kq trivial (fun p hp => by rw [List.eq_of_mem_replicate hp]) ?_
 refine V.q ?_
 refine V.freezeObj 0 gL (.map snEs 7) kq ?_
 refine V.range 86 3 9 gL snEs 7 kq kq (fun ρ a w hS => hS.objN (n0 := w0.heap.size) (S := touch ρ0 glbF) 0 kq) (fun _ => kq) (fun it => ?_)
 refine V.q ?_
 refine V.iter ?_
 refine V.loopTo [39] [] [1] [true, true] (fun seen : Array Nat => (leftOf snEs seen).size) (snSt w0.heap.size (touch ρ0 glbF) gL it) (fun _ => True) #[] kq trivial (fun seen _ ih => ?_)
 refine V.q ?_
 refine V.next it 0 gL 7 7 7 seen snEs kq kq (fun ρ a w hS => hS.objN (n0 := w0.heap.size) (S := touch ρ0 glbF) 0 kq) sn_born (Nat.le_refl _) kq (fun e he => kq) (fun hsz => ?_) (fun e he => ?_)
 ·refine V.runT [⟨aBlank, []⟩] [] kq kq trivial ?_
  refine V.soft 5 ?_
  refine V.soft 3 ?_
  refine V.absB 4 ⟨[.int .i64 2], 3, true⟩ kq kq (fun _ => kq) (fun g => ?_)
  refine V.persNew [] [] (rowP (rowF zeroI IA0)) kq kq (fun k hk => absurd hk ((row_none (R := rowF zeroI IA0) rfl rfl rfl).1 k)) (fun w _ => (row_none (R := rowF zeroI IA0) rfl rfl rfl).2 w) (rowP_stab _) ?_
  refine V.persNew [] [] (rowP (rowI zeroI IA0)) kq kq (fun k hk => absurd hk ((row_none (R := rowI zeroI IA0) rfl rfl rfl).1 k)) (fun w _ => (row_none (R := rowI zeroI IA0) rfl rfl rfl).2 w) (rowP_stab _) ?_
  refine V.persNew [] [] (rowP (rowT zeroI IA0)) kq kq (fun k hk => absurd hk ((row_none (R := rowT zeroI IA0) rfl rfl rfl).1 k)) (fun w _ => (row_none (R := rowT zeroI IA0) rfl rfl rfl).2 w) (rowP_stab _) ?_
  refine V.persNew [(3, true)] [blkP g [.int .i64 2] 3] (rowP (rowI sx4 (sA4 g))) kq kq (sx4_l g).1 (sx4_l g).2 (rowP_stab _) ?_
  refine V.iter ?_
  refine V.q ?_
  refine V.known 103 (decide ((0 : Int) < 4)) true kq (by decide) ?_
  refine V.runT [] [(0 : Int) ≤ 0 ∧ (0 : Int) < 4] kq kq ⟨by decide, by decide⟩ ?_
  refine V.callK [(6, false), (3, true), (2, true), (1, true)] (xEncode sx1 IA0 sx1_okL sx1_fine) kq kq kq (fun _ => kq) (fun qc0 _ => ?_)
  refine V.q ?_
  refine V.freeze 1 (rowL rlv (0, 0) [] qc0.1 qc0.2 62 2 true) kq kq ?_
  refine V.callK [(7, false), (0, true)] (xDecode [] ⟨[3, 8, 2], qc0.1, 0, qc0.2⟩ rfl (by decide) 0 ⟨by show 3 ≤ 1000000000; decide, Nat.zero_le _⟩ kq) kq kq kq (fun _ => kq) (fun yd0 hd0 => ?_)
  obtain ⟨d0, D0⟩ := yd0
  have ed0 : d0 = sx1 := hd0.trans (sx1_dec qc0.1 qc0.2)
  subst ed0
  refine V.q ?_
  refine V.callK [(10, false), (7, true), (6, true), (5, true)] (xText sx1 IA0 sx1_okL 3 kq kq kq sx1_fine) kq kq kq (fun _ => kq) (fun _ _ => ?_)
  refine V.q ?_
  refine V.callK [(10, false)] (xParse [77, 79, 86, 69, 32, 114, 51, 32, 114, 48] [[77, 79, 86, 69], [114, 51], [114, 48]] sx1 kq (by decide) kq (by decide) (pok_of sx1_find sx1_pok) sx1_read) kq kq kq (fun _ => kq) (fun yp0 hp0 => ?_)
  obtain ⟨p0, P0⟩ := yp0
  have ep0 : p0 = sx1 := hp0
  subst ep0
  refine V.persAs [(10, true)] [rowP (rowF sx1 IA0)] (rowP (rowF sx1 IA0)) kq (fun k hk => ⟨_, List.mem_singleton.2 rfl, hk⟩) (fun w hw => hw _ (List.mem_singleton.2 rfl)) (rowP_stab _) ?_
  refine V.persAs [(10, true)] [rowP (rowI sx1 IA0)] (rowP (rowI sx1 IA0)) kq (fun k hk => ⟨_, List.mem_singleton.2 rfl, hk⟩) (fun w hw => hw _ (List.mem_singleton.2 rfl)) (rowP_stab _) ?_
  refine V.persAs [(10, true)] [rowP (rowT sx1 IA0)] (rowP (rowT sx1 IA0)) kq (fun k hk => ⟨_, List.mem_singleton.2 rfl, hk⟩) (fun w hw => hw _ (List.mem_singleton.2 rfl)) (rowP_stab _) ?_
  refine V.persAs [(6, true)] [rowP (rowF sx1 D0)] (rowP (rowF sx1 D0)) kq (fun k hk => ⟨_, List.mem_singleton.2 rfl, hk⟩) (fun w hw => hw _ (List.mem_singleton.2 rfl)) (rowP_stab _) ?_
  refine V.persAs [(8, true)] [rowP (rowI sx1 D0)] (rowP (rowI sx1 D0)) kq (fun k hk => ⟨_, List.mem_singleton.2 rfl, hk⟩) (fun w hw => hw _ (List.mem_singleton.2 rfl)) (rowP_stab _) ?_
  refine V.persAs [(10, true)] [rowP (rowT sx1 D0)] (rowP (rowT sx1 D0)) kq (fun k hk => ⟨_, List.mem_singleton.2 rfl, hk⟩) (fun w hw => hw _ (List.mem_singleton.2 rfl)) (rowP_stab _) ?_
  refine V.persAs [(6, true)] [rowP (rowF sx1 P0)] (rowP (rowF sx1 P0)) kq (fun k hk => ⟨_, List.mem_singleton.2 rfl, hk⟩) (fun w hw => hw _ (List.mem_singleton.2 rfl)) (rowP_stab _) ?_
  refine V.persAs [(8, true)] [rowP (rowI sx1 P0)] (rowP (rowI sx1 P0)) kq (fun k hk => ⟨_, List.mem_singleton.2 rfl, hk⟩) (fun w hw => hw _ (List.mem_singleton.2 rfl)) (rowP_stab _) ?_
  refine V.persAs [(10, true)] [rowP (rowT sx1 P0)] (rowP (rowT sx1 P0)) kq (fun k hk => ⟨_, List.mem_singleton.2 rfl, hk⟩) (fun w hw => hw _ (List.mem_singleton.2 rfl)) (rowP_stab _) ?_
  refine V.runT [⟨sSame2 sx1 IA0 P0 D0 sx1_okL, [17, 18, 19, 20, 21, 22, 14, 15, 16]⟩] [((false = false) → (([.agg (inV sx1 D0), .agg (inV sx1 IA0)] : List CV) = [.agg (inV sx1 D0), .agg (inV sx1 IA0)] ∨ ([.agg (inV sx1 D0), .agg (inV sx1 IA0)] : List CV) = [.agg (inV sx1 P0), .agg (inV sx1 IA0)])), ((false = false) → (([.agg (inV sx1 P0), .agg (inV sx1 IA0)] : List CV) = [.agg (inV sx1 D0), .agg (inV sx1 IA0)] ∨ ([.agg (inV sx1 P0), .agg (inV sx1 IA0)] : List CV) = [.agg (inV sx1 P0), .agg (inV sx1 IA0)]))] kq kq ⟨fun _ => .inl rfl, fun _ => .inr rfl⟩ ?_
  refine V.known 176 false false kq rfl ?_
  refine V.q ?_
  refine V.iter ?_
  refine V.ungrd ?_
  refine V.q ?_
  refine V.known 103 (decide ((1 : Int) < 4)) true kq (by decide) ?_
  refine V.runT [] [(0 : Int) ≤ 1 ∧ (1 : Int) < 4] kq kq ⟨by decide, by decide⟩ ?_
  refine V.callK [(22, false), (19, true), (18, true), (17, true)] (xEncode sx2 IA0 sx2_okL sx2_fine) kq kq kq (fun _ => kq) (fun qc1 _ => ?_)
  refine V.q ?_
  refine V.freeze 2 (rowL rlv (0, 0) [] qc1.1 qc1.2 62 2 true) kq kq ?_
  refine V.callK [(23, false), (0, true)] (xDecode [] ⟨[14, 0, 0, 1, 2], qc1.1, 0, qc1.2⟩ rfl (by decide) 0 ⟨by show 5 ≤ 1000000000; decide, Nat.zero_le _⟩ kq) kq kq kq (fun _ => kq) (fun yd1 hd1 => ?_)
  obtain ⟨d1, D1⟩ := yd1
  have ed1 : d1 = sx2 := hd1.trans (sx2_dec qc1.1 qc1.2)
  subst ed1
  refine V.q ?_
  refine V.callK [(26, false), (23, true), (22, true), (21, true)] (xText sx2 IA0 sx2_okL 14 kq kq kq sx2_fine) kq kq kq (fun _ => kq) (fun _ _ => ?_)
  refine V.q ?_
  refine V.callK [(26, false)] (xParse [74, 85, 77, 80, 32, 64, 50, 53, 56] [[74, 85, 77, 80], [64, 50, 53, 56]] sx2 kq (by decide) kq (by decide) (pok_of sx2_find sx2_pok) sx2_read) kq kq kq (fun _ => kq) (fun yp1 hp1 => ?_)
  obtain ⟨p1, P1⟩ := yp1
  have ep1 : p1 = sx2 := hp1
  subst ep1
  refine V.persAs [(26, true)] [rowP (rowF sx2 IA0)] (rowP (rowF sx2 IA0)) kq (fun k hk => ⟨_, List.mem_singleton.2 rfl, hk⟩) (fun w hw => hw _ (List.mem_singleton.2 rfl)) (rowP_stab _) ?_
  refine V.persAs [(26, true)] [rowP (rowI sx2 IA0)] (rowP (rowI sx2 IA0)) kq (fun k hk => ⟨_, List.mem_singleton.2 rfl, hk⟩) (fun w hw => hw _ (List.mem_singleton.2 rfl)) (rowP_stab _) ?_
  refine V.persAs [(26, true)] [rowP (rowT sx2 IA0)] (rowP (rowT sx2 IA0)) kq (fun k hk => ⟨_, List.mem_singleton.2 rfl, hk⟩) (fun w hw => hw _ (List.mem_singleton.2 rfl)) (rowP_stab _) ?_
  refine V.persAs [(6, true)] [rowP (rowF sx2 D1)] (rowP (rowF sx2 D1)) kq (fun k hk => ⟨_, List.mem_singleton.2 rfl, hk⟩) (fun w hw => hw _ (List.mem_singleton.2 rfl)) (rowP_stab _) ?_
  refine V.persAs [(8, true)] [rowP (rowI sx2 D1)] (rowP (rowI sx2 D1)) kq (fun k hk => ⟨_, List.mem_singleton.2 rfl, hk⟩) (fun w hw => hw _ (List.mem_singleton.2 rfl)) (rowP_stab _) ?_
  refine V.persAs [(10, true)] [rowP (rowT sx2 D1)] (rowP (rowT sx2 D1)) kq (fun k hk => ⟨_, List.mem_singleton.2 rfl, hk⟩) (fun w hw => hw _ (List.mem_singleton.2 rfl)) (rowP_stab _) ?_
  refine V.persAs [(6, true)] [rowP (rowF sx2 P1)] (rowP (rowF sx2 P1)) kq (fun k hk => ⟨_, List.mem_singleton.2 rfl, hk⟩) (fun w hw => hw _ (List.mem_singleton.2 rfl)) (rowP_stab _) ?_
  refine V.persAs [(8, true)] [rowP (rowI sx2 P1)] (rowP (rowI sx2 P1)) kq (fun k hk => ⟨_, List.mem_singleton.2 rfl, hk⟩) (fun w hw => hw _ (List.mem_singleton.2 rfl)) (rowP_stab _) ?_
  refine V.persAs [(10, true)] [rowP (rowT sx2 P1)] (rowP (rowT sx2 P1)) kq (fun k hk => ⟨_, List.mem_singleton.2 rfl, hk⟩) (fun w hw => hw _ (List.mem_singleton.2 rfl)) (rowP_stab _) ?_
  refine V.runT [⟨sSame2 sx2 IA0 P1 D1 sx2_okL, [33, 34, 35, 36, 37, 38, 30, 31, 32]⟩] [((false = false) → (([.agg (inV sx2 D1), .agg (inV sx2 IA0)] : List CV) = [.agg (inV sx2 D1), .agg (inV sx2 IA0)] ∨ ([.agg (inV sx2 D1), .agg (inV sx2 IA0)] : List CV) = [.agg (inV sx2 P1), .agg (inV sx2 IA0)])), ((false = false) → (([.agg (inV sx2 P1), .agg (inV sx2 IA0)] : List CV) = [.agg (inV sx2 D1), .agg (inV sx2 IA0)] ∨ ([.agg (inV sx2 P1), .agg (inV sx2 IA0)] : List CV) = [.agg (inV sx2 P1), .agg (inV sx2 IA0)]))] kq kq ⟨fun _ => .inl rfl, fun _ => .inr rfl⟩ ?_
  refine V.known 176 false false kq rfl ?_
  refine V.q ?_
  refine V.iter ?_
  refine V.ungrd ?_
  refine V.q ?_
  refine V.known 103 (decide ((2 : Int) < 4)) true kq (by decide) ?_
  refine V.runT [] [(0 : Int) ≤ 2 ∧ (2 : Int) < 4] kq kq ⟨by decide, by decide⟩ ?_
  refine V.callK [(38, false), (35, true), (34, true), (33, true)] (xEncode sx3 IA0 sx3_okL sx3_fine) kq kq kq (fun _ => kq) (fun qc2 _ => ?_)
  refine V.q ?_
  refine V.freeze 3 (rowL rlv (0, 0) [] qc2.1 qc2.2 62 2 true) kq kq ?_
  refine V.callK [(39, false), (0, true)] (xDecode [] ⟨[8, 2, 4, 4, 30, 0, 0, 0], qc2.1, 0, qc2.2⟩ rfl (by decide) 0 ⟨by show 8 ≤ 1000000000; decide, Nat.zero_le _⟩ kq) kq kq kq (fun _ => kq) (fun yd2 hd2 => ?_)
  obtain ⟨d2, D2⟩ := yd2
  have ed2 : d2 = sx3 := hd2.trans (sx3_dec qc2.1 qc2.2)
  subst ed2
  refine V.q ?_
  refine V.callK [(42, false), (39, true), (38, true), (37, true)] (xText sx3 IA0 sx3_okL 8 kq kq kq sx3_fine) kq kq kq (fun _ => kq) (fun _ _ => ?_)
  refine V.q ?_
  refine V.callK [(42, false)] (xParse [76, 79, 65, 68, 32, 114, 48, 32, 114, 49, 32, 50, 44, 49, 53, 44, 48, 44, 48, 44, 61] [[76, 79, 65, 68], [114, 48], [114, 49], [50, 44, 49, 53, 44, 48, 44, 48, 44, 61]] sx3 kq (by decide) kq (by decide) (pok_of sx3_find sx3_pok) sx3_read) kq kq kq (fun _ => kq) (fun yp2 hp2 => ?_)
  obtain ⟨p2, P2⟩ := yp2
  have ep2 : p2 = sx3 := hp2
  subst ep2
  refine V.persAs [(42, true)] [rowP (rowF sx3 IA0)] (rowP (rowF sx3 IA0)) kq (fun k hk => ⟨_, List.mem_singleton.2 rfl, hk⟩) (fun w hw => hw _ (List.mem_singleton.2 rfl)) (rowP_stab _) ?_
  refine V.persAs [(42, true)] [rowP (rowI sx3 IA0)] (rowP (rowI sx3 IA0)) kq (fun k hk => ⟨_, List.mem_singleton.2 rfl, hk⟩) (fun w hw => hw _ (List.mem_singleton.2 rfl)) (rowP_stab _) ?_
  refine V.persAs [(42, true)] [rowP (rowT sx3 IA0)] (rowP (rowT sx3 IA0)) kq (fun k hk => ⟨_, List.mem_singleton.2 rfl, hk⟩) (fun w hw => hw _ (List.mem_singleton.2 rfl)) (rowP_stab _) ?_
  refine V.persAs [(6, true)] [rowP (rowF sx3 D2)] (rowP (rowF sx3 D2)) kq (fun k hk => ⟨_, List.mem_singleton.2 rfl, hk⟩) (fun w hw => hw _ (List.mem_singleton.2 rfl)) (rowP_stab _) ?_
  refine V.persAs [(8, true)] [rowP (rowI sx3 D2)] (rowP (rowI sx3 D2)) kq (fun k hk => ⟨_, List.mem_singleton.2 rfl, hk⟩) (fun w hw => hw _ (List.mem_singleton.2 rfl)) (rowP_stab _) ?_
  refine V.persAs [(10, true)] [rowP (rowT sx3 D2)] (rowP (rowT sx3 D2)) kq (fun k hk => ⟨_, List.mem_singleton.2 rfl, hk⟩) (fun w hw => hw _ (List.mem_singleton.2 rfl)) (rowP_stab _) ?_
  refine V.persAs [(6, true)] [rowP (rowF sx3 P2)] (rowP (rowF sx3 P2)) kq (fun k hk => ⟨_, List.mem_singleton.2 rfl, hk⟩) (fun w hw => hw _ (List.mem_singleton.2 rfl)) (rowP_stab _) ?_
  refine V.persAs [(8, true)] [rowP (rowI sx3 P2)] (rowP (rowI sx3 P2)) kq (fun k hk => ⟨_, List.mem_singleton.2 rfl, hk⟩) (fun w hw => hw _ (List.mem_singleton.2 rfl)) (rowP_stab _) ?_
  refine V.persAs [(10, true)] [rowP (rowT sx3 P2)] (rowP (rowT sx3 P2)) kq (fun k hk => ⟨_, List.mem_singleton.2 rfl, hk⟩) (fun w hw => hw _ (List.mem_singleton.2 rfl)) (rowP_stab _) ?_
  refine V.runT [⟨sSame2 sx3 IA0 P2 D2 sx3_okL, [49, 50, 51, 52, 53, 54, 46, 47, 48]⟩] [((false = false) → (([.agg (inV sx3 D2), .agg (inV sx3 IA0)] : List CV) = [.agg (inV sx3 D2), .agg (inV sx3 IA0)] ∨ ([.agg (inV sx3 D2), .agg (inV sx3 IA0)] : List CV) = [.agg (inV sx3 P2), .agg (inV sx3 IA0)])), ((false = false) → (([.agg (inV sx3 P2), .agg (inV sx3 IA0)] : List CV) = [.agg (inV sx3 D2), .agg (inV sx3 IA0)] ∨ ([.agg (inV sx3 P2), .agg (inV sx3 IA0)] : List CV) = [.agg (inV sx3 P2), .agg (inV sx3 IA0)]))] kq kq ⟨fun _ => .inl rfl, fun _ => .inr rfl⟩ ?_
  refine V.known 176 false false kq rfl ?_
  refine V.q ?_
  refine V.iter ?_
  refine V.ungrd ?_
  refine V.q ?_
  refine V.known 103 (decide ((3 : Int) < 4)) true kq (by decide) ?_
  refine V.runT [] [(0 : Int) ≤ 3 ∧ (3 : Int) < 4] kq kq ⟨by decide, by decide⟩ ?_
  refine V.callK [(54, false), (51, true), (48, true), (49, true)] (xEncode sx4 (sA4 g) sx4_okL sx4_fine) kq kq kq (fun _ => kq) (fun qc3 _ => ?_)
  refine V.q ?_
  refine V.freeze 4 (rowL rlv (0, 0) [(2, 5)] qc3.1 qc3.2 62 2 true) kq kq ?_
  refine V.callK [(55, false), (0, true)] (xDecode [(2, 5)] ⟨[17, 0, 0, 0, 0, 0, 2, 6], qc3.1, 1, qc3.2⟩ rfl (by decide) 0 ⟨by show 8 ≤ 1000000000; decide, Nat.zero_le _⟩ kq) kq kq kq (fun _ => kq) (fun yd3 hd3 => ?_)
  obtain ⟨d3, D3⟩ := yd3
  have ed3 : d3 = sx4 := hd3.trans (sx4_dec qc3.1 qc3.2)
  subst ed3
  refine V.q ?_
  refine V.callK [(58, false), (55, true), (52, true), (53, true)] (xText sx4 (sA4 g) sx4_okL 17 kq kq kq sx4_fine) kq kq kq (fun _ => kq) (fun _ _ => ?_)
  refine V.q ?_
  refine V.callK [(58, false)] (xParse [67, 65, 76, 76, 32, 45, 32, 33, 53, 32, 91, 114, 50, 93] [[67, 65, 76, 76], [45], [33, 53], [91, 114, 50, 93]] sx4 kq (by decide) kq (by decide) (pok_of sx4_find sx4_pok) sx4_read) kq kq kq (fun _ => kq) (fun yp3 hp3 => ?_)
  obtain ⟨p3, P3⟩ := yp3
  have ep3 : p3 = sx4 := hp3
  subst ep3
  refine V.persAs [(58, true)] [rowP (rowF sx4 (sA4 g))] (rowP (rowF sx4 (sA4 g))) kq (fun k hk => ⟨_, List.mem_singleton.2 rfl, hk⟩) (fun w hw => hw _ (List.mem_singleton.2 rfl)) (rowP_stab _) ?_
  refine V.persAs [(56, true)] [rowP (rowI sx4 (sA4 g))] (rowP (rowI sx4 (sA4 g))) kq (fun k hk => ⟨_, List.mem_singleton.2 rfl, hk⟩) (fun w hw => hw _ (List.mem_singleton.2 rfl)) (rowP_stab _) ?_
  refine V.persAs [(58, true)] [rowP (rowT sx4 (sA4 g))] (rowP (rowT sx4 (sA4 g))) kq (fun k hk => ⟨_, List.mem_singleton.2 rfl, hk⟩) (fun w hw => hw _ (List.mem_singleton.2 rfl)) (rowP_stab _) ?_
  refine V.persAs [(6, true)] [rowP (rowF sx4 D3)] (rowP (rowF sx4 D3)) kq (fun k hk => ⟨_, List.mem_singleton.2 rfl, hk⟩) (fun w hw => hw _ (List.mem_singleton.2 rfl)) (rowP_stab _) ?_
  refine V.persAs [(8, true)] [rowP (rowI sx4 D3)] (rowP (rowI sx4 D3)) kq (fun k hk => ⟨_, List.mem_singleton.2 rfl, hk⟩) (fun w hw => hw _ (List.mem_singleton.2 rfl)) (rowP_stab _) ?_
  refine V.persAs [(10, true)] [rowP (rowT sx4 D3)] (rowP (rowT sx4 D3)) kq (fun k hk => ⟨_, List.mem_singleton.2 rfl, hk⟩) (fun w hw => hw _ (List.mem_singleton.2 rfl)) (rowP_stab _) ?_
  refine V.persAs [(6, true)] [rowP (rowF sx4 P3)] (rowP (rowF sx4 P3)) kq (fun k hk => ⟨_, List.mem_singleton.2 rfl, hk⟩) (fun w hw => hw _ (List.mem_singleton.2 rfl)) (rowP_stab _) ?_
  refine V.persAs [(8, true)] [rowP (rowI sx4 P3)] (rowP (rowI sx4 P3)) kq (fun k hk => ⟨_, List.mem_singleton.2 rfl, hk⟩) (fun w hw => hw _ (List.mem_singleton.2 rfl)) (rowP_stab _) ?_
  refine V.persAs [(10, true)] [rowP (rowT sx4 P3)] (rowP (rowT sx4 P3)) kq (fun k hk => ⟨_, List.mem_singleton.2 rfl, hk⟩) (fun w hw => hw _ (List.mem_singleton.2 rfl)) (rowP_stab _) ?_
  refine V.runT [⟨sSame2 sx4 (sA4 g) P3 D3 sx4_okL, [65, 66, 67, 68, 69, 70, 62, 63, 64]⟩] [((false = false) → (([.agg (inV sx4 D3), .agg (inV sx4 (sA4 g))] : List CV) = [.agg (inV sx4 D3), .agg (inV sx4 (sA4 g))] ∨ ([.agg (inV sx4 D3), .agg (inV sx4 (sA4 g))] : List CV) = [.agg (inV sx4 P3), .agg (inV sx4 (sA4 g))])), ((false = false) → (([.agg (inV sx4 P3), .agg (inV sx4 (sA4 g))] : List CV) = [.agg (inV sx4 D3), .agg (inV sx4 (sA4 g))] ∨ ([.agg (inV sx4 P3), .agg (inV sx4 (sA4 g))] : List CV) = [.agg (inV sx4 P3), .agg (inV sx4 (sA4 g))]))] kq kq ⟨fun _ => .inl rfl, fun _ => .inr rfl⟩ ?_
  refine V.known 176 false false kq rfl ?_
  refine V.q ?_
  refine V.iter ?_
  exact V.backK [11, 101, 102] [false, false, false, false, false, false, false, false, false, false, false, false, false, false, false, false, false, false, false, false, false, false, false, false, false, false, false, false, false, false, false, false, false, false, false, false, false, false, false, false, false, false, false, false, false, false, false, false, false, false, false, false, false, false, false, false, false, false, false, false, false, false, false, false, true, true, true, true, false, false, true] (sane_rest ρ0 w0 g) kq kq
 ·have hin := left_in' he
  have hlt := leftOf_push_lt he
  obtain ⟨p, hp, hkey, hval, hb⟩ := snL_mem hin
  obtain ⟨ek, ev, eb⟩ := e
  simp only at hkey hval hlt
  subst hkey hval
  refine V.q ?_
  refine V.entry it 0 gL 7 7 seen snEs _ kq kq (fun ρ a w hS => hS.objN (n0 := w0.heap.size) (S := touch ρ0 glbF) 0 kq) hin sn_nodup kq ?_
  refine V.q ?_
  refine V.slotAs 1 (.one (.val (.int .i64 p.1))) (.one (.int .i64 p.1)) kq kq (fun _ => rfl) ?_
  refine V.slotAs 46 (.one (.val (.int .i64 p.1))) (.one (.int .i64 p.1)) kq kq (fun _ => rfl) ?_
  refine V.slotAs 2 (.one (.val (.string ⟨p.2.toArray⟩))) (.one (.str p.2)) kq kq (fun _ => rfl) ?_
  refine V.q ?_
  refine V.callK [] (snN p hp) kq kq kq (fun _ => kq) (fun _ _ => ?_)
  refine V.q ?_
  refine V.callK [] (snR p hp) kq kq kq (fun _ => kq) (fun _ _ => ?_)
  refine V.q ?_
  refine V.known 77 (((((0 : Int) != 0 || !p.2 == p.2) || (0 : Int) != 0) || p.1 != p.1) || (p.2.length : Int) != (p.2.length : Int)) false kq (by simp) ?_
  refine V.q ?_
  refine V.iter ?_
  exact V.back [39] [] [0] [true, true] (ih (seen.push eb) trivial hlt) kq kq
end Go.Proofs
end
