/- A symbolic run of the program that Lean checks, and what the functions of the program come to by it: part 11 of 12. -/
import Derived.ProofKit
import Derived.ReadAgain
import Derived.Deep.Onto
import Derived.Test.YteinbljapojcgaaGreatDoorRows
import Derived.LaidMore
import Derived.Lay
import Derived.Lib.LaidTab
import Derived.Shelf.Vars
import Derived.MakeChecks
import Derived.Test.YteinbljapojcgaaGreatDoorSAJ
set_option linter.unusedVariables false
section
namespace Go.Proofs
open Go Go.SX Go.ChangeShapes Go.WideShapes Go.ChangeAt Go.RowKit
set_option maxRecDepth 10000
section
variable {H : Type} {enc : TypeId × Value → H} {w : World} {base : Nat} {sp : Nat → Bool} {held : Bool}
noncomputable def fsOf (t : TypeId) : Array Field := match Tryz.prog.underlying t with
 | some (.struct fs) => fs
 | _ => #[]
theorem fields {t : TypeId} {fuel : Nat} {cs : List Value} {x : DataW H × List MemPlace} (hu : Tryz.prog.underlying t = some (.struct (fsOf t))) (h : DataW.trod enc Tryz.prog w base sp held fuel t cs = some x) :
  cs.length = Tryz.prog.cellsOf t ∧ ∃ n, ∀ (i : Nat) (t' : TypeId) (o k : Nat), ((fsOf t)[i]?).map (fun f => (f.type, f.offset)) = some (t', o) → Tryz.prog.cellsOf t' = k → ∃ y, DataW.trod enc Tryz.prog w base sp held n t' ((cs.drop o).take k) = some y := by
 obtain ⟨xs, n, _, _, hl, hxl, hf⟩ := DataW.trod_struct hu h
 refine ⟨hl, n, fun i t' o k h1 h2 => ?_⟩
 cases e : (fsOf t)[i]? with
 | none => rw [e] at h1; cases h1
 | some f =>
  rw [e] at h1
  simp only [Option.map_some, Option.some.injEq, Prod.mk.injEq] at h1
  obtain ⟨h3, h4⟩ := h1
  subst h3 h4 h2
  have hi : i < xs.length := by rw [hxl]; exact (Array.getElem?_eq_some_iff.1 e).1
  exact ⟨xs[i], by rw [hf i f e, List.getElem?_eq_getElem hi]⟩
def segs (cs : List Value) : Nat → List Nat → List Value
 | o, [] => cs.drop o
 | o, k :: ks => (cs.drop o).take k ++ segs cs (o + k) ks
theorem segs_eq (cs : List Value) : ∀ (ks : List Nat) (o : Nat), segs cs o ks = cs.drop o
 | [], _ => rfl
 | k :: ks, o => by
  show (cs.drop o).take k ++ segs cs (o + k) ks = cs.drop o
  rw [segs_eq cs ks (o + k), ← List.drop_drop, List.take_append_drop]
theorem o_int {n : Nat} {cs : List Value} {x : DataW H × List MemPlace} (h : DataW.trod enc Tryz.prog w base sp held n 3 cs = some x) : ∃ k, cs = [Value.int .i64 k] ∧ (Lit.int .i64 k).wf = true := by
 obtain ⟨k, h1, _, h2⟩ := DataW.trod_int Tryz.underlying3 h
 exact ⟨k, h1, h2⟩
theorem o_bool {n : Nat} {cs : List Value} {x : DataW H × List MemPlace} (h : DataW.trod enc Tryz.prog w base sp held n 4 cs = some x) : ∃ b, cs = [Value.bool b] := by
 obtain ⟨b, h1, _⟩ := DataW.trod_bool Tryz.underlying4 h
 exact ⟨b, h1⟩
theorem o_str {n : Nat} {cs : List Value} {x : DataW H × List MemPlace} (h : DataW.trod enc Tryz.prog w base sp held n 9 cs = some x) : ∃ s : List UInt8, cs = [Value.string ⟨s.toArray⟩] ∧ s.length ≤ maxLen := by
 obtain ⟨s, h1, _, h2⟩ := DataW.trod_string Tryz.underlying9 h
 exact ⟨s.data.toList, h1, h2⟩
theorem o_ty {n : Nat} {cs : List Value} {x : DataW H × List MemPlace} (h : DataW.trod enc Tryz.prog w base sp held n 23 cs = some x) : ∃ t : Ty, cs = t.cells.map SV.den0 := by
 obtain ⟨hl, m, hf⟩ := fields (t := 23) kq h
 have hn : cs.length = 5 := hl.trans kq
 obtain ⟨y0, h0⟩ := hf 0 3 0 1 kq kq
 obtain ⟨k, e0, w0⟩ := o_int h0
 obtain ⟨y1, h1⟩ := hf 1 3 1 1 kq kq
 obtain ⟨p, e1, w1⟩ := o_int h1
 obtain ⟨y2, h2⟩ := hf 2 3 2 1 kq kq
 obtain ⟨q, e2, w2⟩ := o_int h2
 obtain ⟨y3, h3⟩ := hf 3 4 3 1 kq kq
 obtain ⟨v, e3⟩ := o_bool h3
 obtain ⟨y4, h4⟩ := hf 4 9 4 1 kq kq
 obtain ⟨s, e4, w4⟩ := o_str h4
 have e : cs = (cs.drop 0).take 1 ++ ((cs.drop 1).take 1 ++ ((cs.drop 2).take 1 ++ ((cs.drop 3).take 1 ++ ((cs.drop 4).take 1 ++ cs.drop 5)))) := (segs_eq cs [1, 1, 1, 1, 1] 0).symm
 rw [e0, e1, e2, e3, e4, List.drop_eq_nil_of_le (by omega)] at e
 exact ⟨⟨k, p, q, v, s⟩, e⟩
theorem o_fm {n : Nat} {cs : List Value} {x : DataW H × List MemPlace} (h : DataW.trod enc Tryz.prog w base sp held n 93 cs = some x) : ∃ f : Fm, cs = f.cells.map SV.den0 := by
 obtain ⟨hl, m, hf⟩ := fields (t := 93) kq h
 have hn : cs.length = 4 := hl.trans kq
 obtain ⟨y0, h0⟩ := hf 0 3 0 1 kq kq
 obtain ⟨k, e0, w0⟩ := o_int h0
 obtain ⟨y1, h1⟩ := hf 1 3 1 1 kq kq
 obtain ⟨p, e1, w1⟩ := o_int h1
 obtain ⟨y2, h2⟩ := hf 2 3 2 1 kq kq
 obtain ⟨q, e2, w2⟩ := o_int h2
 obtain ⟨y3, h3⟩ := hf 3 9 3 1 kq kq
 obtain ⟨s, e3, w3⟩ := o_str h3
 have e : cs = (cs.drop 0).take 1 ++ ((cs.drop 1).take 1 ++ ((cs.drop 2).take 1 ++ ((cs.drop 3).take 1 ++ cs.drop 4))) := (segs_eq cs [1, 1, 1, 1] 0).symm
 rw [e0, e1, e2, e3, List.drop_eq_nil_of_le (by omega)] at e
 exact ⟨⟨k, p, q, s⟩, e⟩
theorem o_val {n : Nat} {cs : List Value} {x : DataW H × List MemPlace} (h : DataW.trod enc Tryz.prog w base sp held n 25 cs = some x) : ∃ (n : Int) (s : List UInt8), cs = [Value.int .i64 n, Value.string ⟨s.toArray⟩] := by
 obtain ⟨hl, m, hf⟩ := fields (t := 25) kq h
 have hn : cs.length = 2 := hl.trans kq
 obtain ⟨y0, h0⟩ := hf 0 3 0 1 kq kq
 obtain ⟨k, e0, w0⟩ := o_int h0
 obtain ⟨y1, h1⟩ := hf 1 9 1 1 kq kq
 obtain ⟨s, e1, w1⟩ := o_str h1
 have e : cs = (cs.drop 0).take 1 ++ ((cs.drop 1).take 1 ++ cs.drop 2) := (segs_eq cs [1, 1] 0).symm
 rw [e0, e1, List.drop_eq_nil_of_le (by omega)] at e
 exact ⟨k, s, e⟩
def LastP (p : Pers) (w : World) : Prop := p.φ w ∧ ∀ k, p.D k → k < w.heap.size
theorem o_list {α : Type} (f : α → List SV) (d : α) (tS e k : Nat) (hu : Tryz.prog.underlying tS = some (.slice e)) (hk : Tryz.prog.cellsOf e = k) (hk0 : 0 < k) (hf : ∀ a, (f a).length = k ∧ ∀ x ∈ f a, x.plain)
  (elem : ∀ (n : Nat) (cs : List Value) (x : DataW H × List MemPlace), DataW.trod enc Tryz.prog w base sp held n e cs = some x → ∃ a, cs = (f a).map SV.den0)
  {n : Nat} {cs : List Value} {x : DataW H × List MemPlace} (h : DataW.trod enc Tryz.prog w base sp held n tS cs = some x) :
  ∃ (l : List α) (q : Option Addr) (c : Nat), cs = [.slice q l.length c] ∧ l.length ≤ maxLen ∧ LastP (rowP (rowL f d l q c e k false)) w := by
 rcases DataW.trod_slice hu h with ⟨rfl, _⟩ | ⟨a, len, cap, elems, rest, m, _, rfl, _, _, hlc, hcm, hlen, hel, _, _⟩
 ·refine ⟨[], none, 0, rfl, Nat.zero_le _, ?_, ?_⟩
  ·exact (row_none (R := rowL f d [] none 0 e k false) rfl rfl rfl).2 w
  ·exact fun j hj => absurd hj ((row_none (R := rowL f d [] none 0 e k false) rfl rfl rfl).1 j)
 ·have hex : ∀ i, i < len → ∃ b : α, w.cells? base (a.add (i * k)) k = some ((f b).map SV.den0) := fun i hi => by
   have h1 := hel i hi
   rw [hk] at h1
   have hi' : i < elems.length := by omega
   rw [List.getElem?_eq_getElem hi'] at h1
   rw [Option.bind_eq_some_iff] at h1
   obtain ⟨cs', h2, h3⟩ := h1
   obtain ⟨b, rfl⟩ := elem _ _ _ h3
   exact ⟨b, h2⟩
  let g : Nat → α := fun i => if hi : i < len then Classical.choose (hex i hi) else d
  have hg : ∀ i, i < len → w.cells? base (a.add (i * k)) k = some ((f (g i)).map SV.den0) := fun i hi => by
   have := Classical.choose_spec (hex i hi)
   simp only [g, dif_pos hi]
   exact this
  have hll : ((List.range len).map g).length = len := by simp
  have hget : ∀ i, i < len → ((List.range len).map g).getD i d = g i := fun i hi => by simp [List.getD, hi]
  have hcell : ∀ i, i < len → ∀ j x, (f (g i))[j]? = some x → w.cell? ((a.add (i * k)).add j) = some x.den0 := fun i hi j x hx => by
   obtain ⟨_, h2, h3⟩ := World.cells?_some (hg i hi)
   have hj : j < k := by
    rw [← (hf (g i)).1]
    exact (List.getElem?_eq_some_iff.1 hx).1
   rw [h3 j hj, List.getElem?_map, hx]
   rfl
  refine ⟨(List.range len).map g, some a, cap, by rw [hll], by rw [hll]; omega, ⟨?_, ?_, ?_, ?_⟩, ?_⟩
  ·intro i hi
   exact hf _
  ·intro hpos
   have hpos' : 0 < len := by
    have : 0 < ((List.range len).map g).length := hpos
    omega
   have h0 : ∃ x, (f (g 0))[0]? = some x := by
    have : 0 < (f (g 0)).length := by rw [(hf (g 0)).1]; exact hk0
    exact ⟨_, List.getElem?_eq_getElem this⟩
   obtain ⟨x0, hx0⟩ := h0
   have hs := World.cell?_spot (hcell 0 hpos' 0 x0 hx0)
   obtain ⟨b, off, spot⟩ := a
   have hspot : spot = none := by simpa [Addr.add] using hs
   subst hspot
   refine ⟨b, off, rfl, fun i j x hi hx => ?_⟩
   have hi' : i < len := by
    have : i < ((List.range len).map g).length := hi
    omega
   have hx' : (f (g i))[j]? = some x := by
    have hx2 : (f (((List.range len).map g).getD i d))[j]? = some x := hx
    rw [hget i hi'] at hx2
    exact hx2
   have := hcell i hi' j x hx'
   rw [add_plain, add_plain, Nat.add_assoc] at this
   exact this
  ·intro ho
   cases ho
  ·intro o ho
   cases ho
  ·rintro j ⟨a', ha', rfl, hd⟩
   have ea : a = a' := Option.some.inj ha'
   subst ea
   have hpos' : 0 < len := by
    rcases hd with hd | hd | hd
    ·cases hd
    ·have : 0 < ((List.range len).map g).length := hd
     omega
    ·cases hd
   have := World.cells?_block (hg 0 hpos') hk0
   simpa [Addr.add] using this
theorem plain_ty (t : Ty) : t.cells.length = 5 ∧ ∀ x ∈ t.cells, x.plain := ⟨rfl, fun x hx => by
 simp only [Ty.cells, List.mem_cons, List.not_mem_nil, or_false] at hx
 rcases hx with rfl | rfl | rfl | rfl | rfl <;> trivial⟩
theorem plain_fm (t : Fm) : t.cells.length = 4 ∧ ∀ x ∈ t.cells, x.plain := ⟨rfl, fun x hx => by
 simp only [Fm.cells, List.mem_cons, List.not_mem_nil, or_false] at hx
 rcases hx with rfl | rfl | rfl | rfl <;> trivial⟩
theorem plain_intv (n : Int) : (intv n).length = 1 ∧ ∀ x ∈ intv n, x.plain := ⟨rfl, fun x hx => by
 rw [List.mem_singleton.1 hx]; trivial⟩
theorem o_fs {n : Nat} {cs : List Value} {x : DataW H × List MemPlace} (h : DataW.trod enc Tryz.prog w base sp held n 26 cs = some x) : ∃ (l : List Fm) (q : Option Addr) (c : Nat), cs = [.slice q l.length c] ∧ l.length ≤ maxLen ∧ LastP (rowP (rowL Fm.cells fm0 l q c 93 4 false)) w :=
 o_list Fm.cells fm0 26 93 4 kq kq (by decide) plain_fm (fun n cs x h => o_fm h) h
theorem o_ls {n : Nat} {cs : List Value} {x : DataW H × List MemPlace} (h : DataW.trod enc Tryz.prog w base sp held n 27 cs = some x) : ∃ (l : List Int) (q : Option Addr) (c : Nat), cs = [.slice q l.length c] ∧ l.length ≤ maxLen ∧ LastP (rowP (rowL intv 0 l q c 3 1 false)) w :=
 o_list intv 0 27 3 1 kq kq (by decide) plain_intv (fun n cs x h => by obtain ⟨k, e, _⟩ := o_int h; exact ⟨k, e⟩) h
theorem o_ys {n : Nat} {cs : List Value} {x : DataW H × List MemPlace} (h : DataW.trod enc Tryz.prog w base sp held n 28 cs = some x) : ∃ (l : List Ty) (q : Option Addr) (c : Nat), cs = [.slice q l.length c] ∧ l.length ≤ maxLen ∧ LastP (rowP (rowL Ty.cells ty0 l q c 23 5 false)) w :=
 o_list Ty.cells ty0 28 23 5 kq kq (by decide) plain_ty (fun n cs x h => o_ty h) h
theorem o_in {n : Nat} {cs : List Value} {x : DataW H × List MemPlace} (h : DataW.trod enc Tryz.prog w base sp held n 30 cs = some x) : ∃ (x : In) (A : IA), cs = (inV x A).map SV.den0 ∧ x.f.length ≤ maxLen ∧ x.l.length ≤ maxLen ∧ x.y.length ≤ maxLen ∧ ∀ p ∈ lsP x A, LastP p w := by
 obtain ⟨hl, m, hf⟩ := fields (t := 30) kq h
 have hn : cs.length = 29 := hl.trans kq
 obtain ⟨y0, h0⟩ := hf 0 3 0 1 kq kq
 obtain ⟨op, e0, w0⟩ := o_int h0
 obtain ⟨y1, h1⟩ := hf 1 3 1 1 kq kq
 obtain ⟨vd, e1, w1⟩ := o_int h1
 obtain ⟨y2, h2⟩ := hf 2 3 2 1 kq kq
 obtain ⟨va, e2, w2⟩ := o_int h2
 obtain ⟨y3, h3⟩ := hf 3 3 3 1 kq kq
 obtain ⟨vb, e3, w3⟩ := o_int h3
 obtain ⟨y4, h4⟩ := hf 4 23 4 5 kq kq
 obtain ⟨vt, e4⟩ := o_ty h4
 obtain ⟨y5, h5⟩ := hf 5 23 9 5 kq kq
 obtain ⟨vu, e5⟩ := o_ty h5
 obtain ⟨y6, h6⟩ := hf 6 23 14 5 kq kq
 obtain ⟨vw, e6⟩ := o_ty h6
 obtain ⟨y7, h7⟩ := hf 7 3 19 1 kq kq
 obtain ⟨vn, e7, w7⟩ := o_int h7
 obtain ⟨y8, h8⟩ := hf 8 3 20 1 kq kq
 obtain ⟨vm, e8, w8⟩ := o_int h8
 obtain ⟨y9, h9⟩ := hf 9 3 21 1 kq kq
 obtain ⟨vp, e9, w9⟩ := o_int h9
 obtain ⟨y10, h10⟩ := hf 10 25 22 2 kq kq
 obtain ⟨vv, vvs, e10⟩ := o_val h10
 obtain ⟨y11, h11⟩ := hf 11 26 24 1 kq kq
 obtain ⟨lf, q11, c11, e11, w11, r11⟩ := o_fs h11
 obtain ⟨y12, h12⟩ := hf 12 27 25 1 kq kq
 obtain ⟨ll, q12, c12, e12, w12, r12⟩ := o_ls h12
 obtain ⟨y13, h13⟩ := hf 13 28 26 1 kq kq
 obtain ⟨ly, q13, c13, e13, w13, r13⟩ := o_ys h13
 obtain ⟨y14, h14⟩ := hf 14 4 27 1 kq kq
 obtain ⟨bs, e14⟩ := o_bool h14
 obtain ⟨y15, h15⟩ := hf 15 4 28 1 kq kq
 obtain ⟨br, e15⟩ := o_bool h15
 have e : cs = (cs.drop 0).take 1 ++ ((cs.drop 1).take 1 ++ ((cs.drop 2).take 1 ++ ((cs.drop 3).take 1 ++ ((cs.drop 4).take 5 ++ ((cs.drop 9).take 5 ++ ((cs.drop 14).take 5 ++ ((cs.drop 19).take 1 ++ ((cs.drop 20).take 1 ++ ((cs.drop 21).take 1 ++ ((cs.drop 22).take 2 ++ ((cs.drop 24).take 1 ++ ((cs.drop 25).take 1 ++ ((cs.drop 26).take 1 ++ ((cs.drop 27).take 1 ++ ((cs.drop 28).take 1 ++ cs.drop 29))))))))))))))) := (segs_eq cs [1, 1, 1, 1, 5, 5, 5, 1, 1, 1, 2, 1, 1, 1, 1, 1] 0).symm
 rw [e0, e1, e2, e3, e4, e5, e6, e7, e8, e9, e10, e11, e12, e13, e14, e15, List.drop_eq_nil_of_le (by omega)] at e
 exact ⟨⟨op, vd, va, vb, vt, vu, vw, vn, vm, vp, vv, vvs, lf, ll, ly, bs, br⟩, ⟨q11, c11, q12, c12, q13, c13⟩, e, w11, w12, w13, fun p hp => by
  simp only [lsP, List.mem_cons, List.not_mem_nil, or_false] at hp
  rcases hp with rfl | rfl | rfl
  ·exact r11
  ·exact r12
  ·exact r13⟩
theorem open_in {r : Reach} {b0 : Nat} {v : Value} {dd : DataW H} {ps : List MemPlace} (hval : Value.okWide Tryz.prog w r b0 30 v) (h : DataW.Trod enc Tryz.prog w base sp held 30 v dd ps) :
  ∃ (x : In) (A : IA), v = (CV.agg (inV x A)).den (fun _ => 0) ∧ x.f.length ≤ maxLen ∧ x.l.length ≤ maxLen ∧ x.y.length ≤ maxLen ∧ ∀ p ∈ lsP x A, LastP p w := by
 obtain ⟨cs, rfl, _⟩ := okWide_struct (P := Tryz.prog) (t := 30) (fs := fsOf 30) kq hval
 obtain ⟨fuel, hf⟩ := h
 obtain ⟨x, A, e, h1⟩ := o_in hf
 refine ⟨x, A, ?_, h1⟩
 have e' : cs = ((inV x A).map SV.den0).toArray := by
  rw [← e]
  rfl
 rw [e']
 rfl
end
end Go.Proofs
end
section
namespace Go.Proofs
open Go Go.SX Go.ChangeShapes Go.WideShapes Go.ChangeAt Go.RowKit
set_option maxRecDepth 10000
theorem allKids : Kids Tryz.prog (· < Tryz.prog.types.size) := kids_rows kq kq
theorem allFull : ∀ t e, t < Tryz.prog.types.size → Tryz.prog.underlying t = some (.slice e) → 0 < Tryz.prog.cellsOf e := slices_full_of Tryz.prog kq
section
variable {H : Type} {enc : TypeId × Value → H}
theorem trodAll_carry {w w' : World} {base : Nat} {sp : Nat → Bool} {held : Bool} : ∀ {ts : List TypeId} {vs : List Value} {ds : List (DataW H)} {ps : List MemPlace},
    DataW.TrodAll enc Tryz.prog w base sp held ts vs ds ps → (∀ p ∈ ps, w.sameAt w' p) → DataW.TrodAll enc Tryz.prog w' base sp held ts vs ds ps
 | [], [], [], _, h, _ => h
 | _ :: _, _ :: _, _ :: _, _, ⟨p, q, ⟨n, h1⟩, h2, e⟩, hs =>
  ⟨p, q, ⟨n, DataW.trod_carry n _ _ _ h1 (fun x hx => hs x (by rw [e]; exact List.mem_append_left _ hx))⟩, trodAll_carry h2 (fun x hx => hs x (by rw [e]; exact List.mem_append_right _ hx)), e⟩
theorem same_of_chg {W W' : World} (hc : Chg (fun _ => False) W W') (p : MemPlace) (hp : p.block < W.heap.size) : W.sameAt W' p := by
 cases p with
 | cell b off => exact World.cell?_of_block (w := W) (a := ⟨b, off, none⟩) (hc.block b hp id)
 | map b => exact hc.block b hp id
theorem post_true {f : Func} {s : ChangeSpec} {apart fresh handsOn : Bool} {W W' : World} {args : Array Value} {ds : List (DataW H)} {before : List MemPlace}
  (hv : s.vars = []) (hr : f.resultTypes = #[4]) (hp : ∀ t ∈ f.params.toList, t < Tryz.prog.types.size)
  (hW : DataW.Whole enc Tryz.prog f.params.toList s.vars apart W args.toList ds [] before)
  (hs : s.fn H (ds ++ []) = { results := [.lit (.bool true)], args := ds })
  (hc : Chg (fun _ => False) W W') : s.post enc Tryz.prog f apart fresh handsOn false W args (.bool true) W' := by
 have hlt := hW.lt
 have hW0 := hW
 obtain ⟨p, q, hA, hV, e, hz, hn⟩ := hW
 rw [hv] at hV
 obtain ⟨_, rfl⟩ := trodVars_none hV
 have hpl : ∀ x ∈ p, x.block < W.heap.size := fun x hx => hlt x (by rw [e]; exact List.mem_append_left _ hx)
 refine ⟨ds, [], before, [], p, [], hW0, ?_, ?_, ?_, ?_, fun h => by cases h⟩
 ·rw [hs, hr]
  exact trodAll_mk1 (shut_bool Tryz.underlying4 true)
 ·rw [hs]
  exact trodAll_carry (DataW.TrodAll.respare allKids allFull hp hA (fun x hx => decide_eq_true (hpl x hx))) (fun x hx => same_of_chg hc x (hpl x hx))
 ·rw [hs, hv]
  rfl
 ·exact (World.keptBut_refl W _).congr hc.os hc.output (fun i hi => hc.block i hi id)
end
end Go.Proofs
end
section
namespace Go.Proofs.YteinbljapojcgaaGreatDoor
open Go Go.SX Go.ChangeShapes Go.WideShapes Go.ChangeAt Go.RowKit
set_option maxRecDepth 100000
section
variable {H : Type} {enc : TypeId × Value → H}
theorem returns_wrap {a : Assume} {C : Checked} {os : Os} {f : FuncId} {fn : Func} {s : ChangeSpec} {conds : List PathCond} {apart fresh handsOn again : Bool} {X : World → Array Value → Prop}
  (hX : ∀ (w w' : World) (args : Array Value), w.heap = w'.heap → X w args → X w' args)
  (own : ownKnob C.prog.godebug = none) (started : os.Started) (noInit : C.prog.inits.idxOf? f = none) (hfn : C.prog.funcs[f]? = some fn)
  (witness : ∃ (w : World) (tape : Tape) (i : Input), w.os = os ∧ (w.forCall tape i).Shaped C.prog ∧ i.vars = [] ∧ Input.okWide C.prog (w.forCall tape i) .any w.heap.size f i ∧
   ((s.pre enc C.prog fn conds apart (w.forCall tape i).memory i.args ∧ X (w.forCall tape i).memory i.args) ∧ sizedMet enc C.prog fn (OpenSpec.ofChange s) apart (w.forCall tape i).memory i.args) ∧ a.holds C.prog (lone (Frame.enter C.prog f i.args .normal) [] (w.forCall tape i)))
  (contract : ∀ (W : World) (base : Nat) (args : Array Value) (ds gs : List (DataW H)) (before : List MemPlace),
      (∀ (j : Nat) t v, fn.params[j]? = some t → args[j]? = some v → Value.okWide C.prog W .any base t v) →
   DataW.Whole enc C.prog fn.params.toList s.vars apart W args.toList ds gs before →
   X W args → W.ShapedOpen C.prog →
   Calls C.prog f args W fun e W' => ∃ v, e = .returned v ∧ s.post enc C.prog fn apart fresh handsOn again W args v W') :
  ReturnsInHanded a C os f .any (fun w args => (s.pre enc C.prog fn conds apart w args ∧ X w args) ∧ sizedMet enc C.prog fn (OpenSpec.ofChange s) apart w args) (s.post enc C.prog fn apart fresh handsOn again) := by
 refine returnsInHanded_of_calls own started noInit witness ?_
 intro w tape i _ hsh _ hok hpre hholds
 obtain ⟨_, _, _, fn', hfn', _, _, _, _, hval⟩ := hok
 have e : fn' = fn := Option.some.inj (hfn'.symm.trans hfn)
 subst e
 obtain ⟨⟨⟨ds, gs, before, hw, hc⟩, hx⟩, hz⟩ := hpre
 have hw' := DataW.Whole.of_heap (w' := w.forCall tape i) (by rfl) hw
 refine (contract (w.forCall tape i) w.heap.size i.args ds gs before hval hw' (hX _ _ _ (by rfl) hx) hsh).mono fun e W' ⟨v, he, hp⟩ => ?_
 subst he
 exact ChangeSpec.post_blind hp
theorem iface_cell {P : Program} {w : World} {base : Nat} {sp : Nat → Bool} {held : Bool} {t : TypeId} {ms : Array (String × TypeId)} {n : Nat} {cs : List Value} {u : String} {d : DataW H} {ps : List MemPlace} (ht : P.underlying t = some (.interface ms))
  (h : DataW.trod enc P w base sp held n t cs = some (.iface u d, ps)) : ∃ tp p, cs = [.iface tp p] := by
 cases n with
 | zero => simp [DataW.trod] at h
 | succ n =>
  unfold DataW.trod at h
  rw [ht] at h
  split at h <;> first | exact ⟨_, _, rfl⟩ | simp_all
end
noncomputable def laidL : List (String × DataW Unit) := Rows.codeOrderRow.laid
theorem tab_e (nm : String) (g t e n : Nat) (k : IntKind) (zs : List Int) (W : World) (d : DataW Unit) (hd : d = Lib.tabData k zs) (hg : Tryz.prog.globalNamed nm = some g) (hty : (Tryz.prog.globals[g]?).map (·.type) = some t)
  (ht : Tryz.prog.underlying t = some (.array n e)) (he : Tryz.prog.underlying e = some (.int k)) (hce : Tryz.prog.cellsOf e = 1) (hct : Tryz.prog.cellsOf t = n)
  (h : ∃ g t cs fuel p, Tryz.prog.globalNamed nm = some g ∧ (Tryz.prog.globals[g]?).map (·.type) = some t ∧ W.var? Tryz.prog nm = some cs ∧ DataW.trod (fun _ => ()) Tryz.prog W 0 (fun _ => true) false fuel t cs.toList = some (d, p)) : Lib.TabIs Tryz.prog W nm k zs := by
 obtain ⟨g', t', cs, fuel, p, h1, h2, h3, h4⟩ := h
 obtain rfl := Option.some.inj (hg.symm.trans h1)
 obtain rfl := Option.some.inj (hty.symm.trans h2)
 subst hd
 unfold Lib.TabIs
 rw [h3, ← Lib.cells_of_tab ht he hce hct h4]
theorem iface_e (nm : String) (g t : Nat) (ms : Array (String × TypeId)) (W : World) (u : String) (d : DataW Unit) (hg : Tryz.prog.globalNamed nm = some g) (hty : (Tryz.prog.globals[g]?).map (·.type) = some t) (ht : Tryz.prog.underlying t = some (.interface ms))
  (h : ∃ g t cs fuel p, Tryz.prog.globalNamed nm = some g ∧ (Tryz.prog.globals[g]?).map (·.type) = some t ∧ W.var? Tryz.prog nm = some cs ∧ DataW.trod (fun _ => ()) Tryz.prog W 0 (fun _ => true) false fuel t cs.toList = some (.iface u d, p)) : ∃ tp p, W.var? Tryz.prog nm = some #[Value.iface tp p] := by
 obtain ⟨g', t', cs, fuel, p, h1, h2, h3, h4⟩ := h
 obtain rfl := Option.some.inj (hg.symm.trans h1)
 obtain rfl := Option.some.inj (hty.symm.trans h2)
 obtain ⟨tp, q, e⟩ := iface_cell ht h4
 exact ⟨tp, q, by rw [h3, Array.eq_one_of_toList e]⟩
theorem laid_at {P : Program} {w : World} : ∀ {l : List (String × DataW Unit)} {ps : List MemPlace}, DataW.LaidVars P w l ps → ∀ (n : String) (d : DataW Unit), (n, d) ∈ l →
  ∃ g t cs fuel p, P.globalNamed n = some g ∧ (P.globals[g]?).map (·.type) = some t ∧ w.var? P n = some cs ∧ DataW.trod (fun _ => ()) P w 0 (fun _ => true) false fuel t cs.toList = some (d, p)
 | [], _, _, n, d, h => by cases h
 | (m, e) :: l, _, ⟨g, t, cs, fuel, p, q, h1, h2, h3, h4, h5, _⟩, n, d, h => by
  rcases List.mem_cons.1 h with e1 | h
  ·obtain ⟨rfl, rfl⟩ := Prod.mk.inj e1
   exact ⟨g, t, cs, fuel, p, h1, h2, h3, h4⟩
  ·exact laid_at h5 n d h
theorem glb_of_laid {W : World} (h : laidMetH Tryz.prog laidL W) (hsh : W.ShapedOpen Tryz.prog) : LastP glbP W := by
 rw [MakeChecks.laidMetH_plain _ _ _ kq] at h
 obtain ⟨ps, hL, _, _⟩ := h
 have h11 : 11 < W.heap.size := by
  have h0 : ((begin Tryz.prog (fun _ _ => 0) default).world.heap[11]?).bind Obj.row? = some (#[.pointer none], 258) := kq
  obtain ⟨cs, hh, _⟩ := hsh.1 11 #[.pointer none] 258 (of_decide_eq_true kq) h0
  rcases Nat.lt_or_ge 11 W.heap.size with hlt | hge
  ·exact hlt
  ·rw [Array.getElem?_eq_none hge] at hh; cases hh
 refine ⟨⟨?_, ?_, ?_, ?_, ?_, ?_⟩, fun k hk => Nat.lt_of_lt_of_le hk h11⟩
 ·exact tab_e _ 3 296 106 20 .u64 Lib.pow10Tab W _ kq kq kq kq kq kq kq (laid_at hL _ Rows.laid_internal_strconv_uint64pow10 (List.mem_of_getElem? (i := 2) kq))
 ·exact iface_e _ 4 139 #[("Error", 142)] W _ _ kq kq kq (laid_at hL _ Rows.laid_strconv_ErrSyntax (List.mem_of_getElem? (i := 5) kq))
 ·exact iface_e _ 5 139 #[("Error", 142)] W _ _ kq kq kq (laid_at hL _ Rows.laid_strconv_ErrRange (List.mem_of_getElem? (i := 4) kq))
 ·exact cell_of_shapedOpen_int (P := Tryz.prog) (g := 1) (t := 3) (zero := #[.int .i64 0]) hsh (of_decide_eq_true kq) kq rfl kq kq Tryz.underlying3
 ·exact tab_e _ 0 229 5 256 .u8 Lib.asciiSpaceTab W _ kq kq kq kq kq kq kq (laid_at hL _ Rows.laid_strings_asciiSpace (List.mem_of_getElem? (i := 7) kq))
 ·exact tab_e _ 10 317 5 64 .u8 dbTab W _ kq kq kq kq kq kq kq (laid_at hL _ Rows.laid_math_bits_deBruijn64tab (List.mem_of_getElem? (i := 1) kq))
end Go.Proofs.YteinbljapojcgaaGreatDoor
end
section
namespace Go.Proofs
open Go Go.SX Go.ChangeShapes Go.WideShapes Go.ChangeAt Go.RowKit
set_option maxRecDepth 10000
section
variable {H : Type} {enc : TypeId × Value → H} {w : World} {base : Nat} {sp : Nat → Bool} {held : Bool}
end
end Go.Proofs
end
section
namespace Go.SX
open Go
def rstOf (P : Program) (c : Cfg) : Option (Nat × Row × Nat × Nat × List SV) :=
 match c.todo with
 | .inRegion ops (i :: _) :: _ => match ops[i]? with
  | some o => match grdOf c.st ops o.guard, o.op, o.dst with
   | .yes, .store t ad x, none => match ev c.st none ad, ev c.st none x, szOf P t with
    | some (.one (.el r _ _ i j)), some v, some sz => match v.cells, look c.st.rows r with
     | some ys, some R => match R.own, R.obj, Nat.beq ys.length sz, Nat.ble (j + ys.length) R.size, allPlain ys with
      | true, none, true, true, true => some (r, R, i, j, ys)
      | _, _, _, _, _ => none
     | _, _ => none
    | _, _, _ => none
   | _, _, _ => none
  | none => none
 | _ => none
def nextT : List Item → List Item
 | .inRegion ops (_ :: l) :: k => .inRegion ops l :: k
 | k => k
def Row.with (R : Row) (get : Nat → List SV) : Row := { R with get := get }
section
variable {C : Ctx} {ρ : Nat → Nat} {s : St} {a : Act} {w w' : World}
theorem SV.wf_set {r : Nat} {R : Row} {get : Nat → List SV} (hR : look s.rows r = some R) (x : SV) (hx : x.wf s.W) : x.wf ({ s with rows := upd s.rows r (R.with get) } : St).W := by
 have hl : ∀ r' R', look (upd s.rows r (R.with get)) r' = some R' → ∃ R0, look s.rows r' = some R0 ∧ R'.s = R0.s ∧ R'.n = R0.n ∧ R'.cap = R0.cap ∧ R'.size = R0.size := fun r' R' h => by
  rw [look_upd] at h
  split at h
  ·rename_i e
   subst e
   cases h
   exact ⟨R, hR, rfl, rfl, rfl, rfl⟩
  ·exact ⟨R', h, rfl, rfl, rfl, rfl⟩
 cases x with
 | row r' q n c => exact ⟨hx.1, fun R' h => by
   obtain ⟨R0, h0, e1, e2, e3, e4⟩ := hl r' R' h
   obtain ⟨f1, f2, f3⟩ := hx.2 R0 h0
   exact ⟨e1.trans f1, e2.trans f2, e3.trans f3⟩⟩
 | el r' q sz i j => exact ⟨hx.1, fun R' h => by
   obtain ⟨R0, h0, e1, e2, e3, e4⟩ := hl r' R' h
   obtain ⟨f1, f2, f3⟩ := hx.2 R0 h0
   exact ⟨e1.trans f1, e4.trans f2, by rw [e2]; exact f3⟩⟩
 | _ => exact hx
theorem CV.wf_set {r : Nat} {R : Row} {get : Nat → List SV} (hR : look s.rows r = some R) (x : CV) (hx : x.wf s.W) : x.wf ({ s with rows := upd s.rows r (R.with get) } : St).W := by
 cases x with
 | one x => exact SV.wf_set hR x hx
 | agg xs => exact fun y hy => SV.wf_set hR y (hx y hy)
theorem RV.wf_set {r : Nat} {R : Row} {get : Nat → List SV} (hR : look s.rows r = some R) (x : RV) (hx : x.wf s.W) : x.wf ({ s with rows := upd s.rows r (R.with get) } : St).W := by
 cases x with
 | v x => exact CV.wf_set hR x hx
 | tup xs => exact fun y hy => CV.wf_set hR y (hx y hy)
 | grd g pol c x => exact fun hc => CV.wf_set hR x (hx hc)
theorem Sat.rowSet (h : Sat C ρ s a w) {r : Nat} {R : Row} (hR : look s.rows r = some R) (ho : R.own = true) (hno : R.obj = none) (get : Nat → List SV)
  (hown : w'.ownsRow 0 R.elem R.size (.slice R.s R.n R.cap) R.n (R.with get).flat) (hg : w.grownBy w' (Value.slice R.s R.n R.cap).ownBlock)
  (hl : ∀ i, i < R.n → (get i).length = R.size ∧ ∀ x ∈ get i, x.plain) : Sat C ρ { s with rows := upd s.rows r (R.with get) } a w' := by
 obtain ⟨hr0, hok, huse⟩ := h.rows r R hR
 have hblk : ∀ k, (Value.slice R.s R.n R.cap).ownBlock = some k → R.uses k := by
  intro k hk
  cases hs : R.s with
  | none => rw [hs] at hk; cases hk
  | some ad => rw [hs] at hk; simp only [Value.ownBlock, Option.some.injEq] at hk; exact ⟨ad, hs, hk, .inl ho⟩
 have hsame : ∀ k, k < w.heap.size → ¬ R.uses k → w'.heap[k]? = w.heap[k]? := fun k hk hn => hg.block k hk (fun e => hn (hblk k e.symm))
 have hokN : (R.with get).ok w' := by
  refine ⟨hl, fun hpos => ?_, fun _ _ => hown, fun o ho => (by have : R.obj = some o := ho; rw [hno] at this; cases this)⟩
  have hpos' : 0 < R.n := hpos
  rcases hown.2 with ⟨hv, hz⟩ | ⟨g, cap0, cur, hv, _⟩
  ·omega
  ·injection hv with e1 e2 e3
   refine ⟨g, 0, e1, fun i j x hi hx => ?_⟩
   have hcell := World.ownsRow.cells (w := w') hown (g := g) (by rw [e1]; rfl)
   have hf := flat_get (fun i => (get i).map SV.den0) R.size R.n (fun i hi => by rw [List.length_map]; exact (hl i hi).1) i j x.den0 hi (by
    have hx' : (get i)[j]? = some x := hx
    simp [hx'])
   have := hcell _ _ hf
   rw [Addr_add_lit] at this
   exact this
 have huseN : ∀ k, (R.with get).uses k ↔ R.uses k := fun k => Iff.rfl
 have hlook : ∀ r' R', look (upd s.rows r (R.with get)) r' = some R' → (r' = r ∧ R' = R.with get) ∨ (r' ≠ r ∧ look s.rows r' = some R') := fun r' R' hh => by
  rw [look_upd] at hh
  split at hh
  ·rename_i e; cases hh; exact .inl ⟨e.symm, rfl⟩
  ·rename_i e; exact .inr ⟨fun e' => e e'.symm, hh⟩
 refine ⟨h.n, fun i v hv => ⟨(h.slots i v hv).1, RV.wf_set hR v (h.slots i v hv).2⟩, h.grds, ?_, h.inj, fun b hb => Nat.lt_of_lt_of_le (h.lt b hb) hg.size, h.defers, ?_, ?_, ?_, ?_, h.fix⟩
 ·intro b blk hb
  obtain ⟨k1, k2, k3, k4⟩ := h.heap b blk hb
  refine ⟨k1, ?_, fun x hx => SV.wf_set hR x (k3 x hx), k4⟩
  rw [hsame _ (h.lt b k1) (fun hu => (huse _ hu).2.1 b k1 rfl)]
  exact k2
 ·refine ⟨hg.os.trans h.chg.os, hg.tape.trans h.chg.tape, hg.output.trans h.chg.output, Nat.le_trans h.chg.size hg.size, fun k hk hS => ?_⟩
  rw [hsame k (Nat.lt_of_lt_of_le hk h.chg.size) (fun hu => ?_)]
  ·exact h.chg.block k hk hS
  ·rcases (huse k hu).2.2 ho with e | e
   ·omega
   ·exact hS e
 ·intro r' R' hR'
  rcases hlook r' R' hR' with ⟨rfl, rfl⟩ | ⟨hne, hl'⟩
  ·refine ⟨hr0, hokN, fun k hk => ?_⟩
   obtain ⟨u1, u2, u3⟩ := huse k hk
   exact ⟨Nat.lt_of_lt_of_le u1 hg.size, u2, u3⟩
  ·obtain ⟨k0, k1, k2⟩ := h.rows r' R' hl'
   refine ⟨k0, k1.congr (fun k hk => hsame k (k2 k hk).1 (fun hu => h.rowsD r r' R R' hR hl' (fun e => hne e.symm) ho k hu hk)), fun k hk => ?_⟩
   obtain ⟨u1, u2, u3⟩ := k2 k hk
   exact ⟨Nat.lt_of_lt_of_le u1 hg.size, u2, u3⟩
 ·intro r1 r2 R1 R2 hR1 hR2 hne ho1 k hk1 hk2
  rcases hlook r1 R1 hR1 with ⟨rfl, rfl⟩ | ⟨hne1, hl1⟩
  ·rcases hlook r2 R2 hR2 with ⟨rfl, rfl⟩ | ⟨hne2, hl2⟩
   ·exact hne rfl
   ·exact h.rowsD r1 r2 R R2 hR hl2 hne ho k hk1 hk2
  ·rcases hlook r2 R2 hR2 with ⟨rfl, rfl⟩ | ⟨hne2, hl2⟩
   ·exact h.rowsD r1 r2 R1 R hl1 hR hne ho1 k hk1 hk2
   ·exact h.rowsD r1 r2 R1 R2 hl1 hl2 hne ho1 k hk1 hk2
 ·intro p hp
  obtain ⟨p1, p2, p3⟩ := h.pers p hp
  have hk : ∀ k, p.D k → w'.heap[k]? = w.heap[k]? := fun k hD => hsame k (p3 k hD).1 ((p3 k hD).2.2 r R hR ho)
  refine ⟨p2 _ hk, fun w2 hw2 => p2 w2 (fun k hD => (hw2 k hD).trans (hk k hD)), fun k hD => ?_⟩
  obtain ⟨u1, u2, u3⟩ := p3 k hD
  refine ⟨Nat.lt_of_lt_of_le u1 hg.size, u2, fun r' R' hR' ho' hu' => ?_⟩
  rcases hlook r' R' hR' with ⟨rfl, rfl⟩ | ⟨hne, hl'⟩
  ·exact u3 r' R hR ho hu'
  ·exact u3 r' R' hl' ho' hu'
theorem flat_set {R : Row} {get : Nat → List SV} {i j : Nat} {ys : List SV} (hi : i < R.n) (hj : j + ys.length ≤ R.size) (hl : ∀ k, k < R.n → (R.get k).length = R.size)
  (h1 : ∀ k, k < R.n → k ≠ i → get k = R.get k) (h2 : get i = splice (R.get i) j ys) :
  (R.with get).flat = R.flat.take (i * R.size + j) ++ ys.map SV.den0 ++ R.flat.drop (i * R.size + j + ys.length) := by
 have e1 : List.range R.n = List.range i ++ ([i] ++ (List.range (R.n - i - 1)).map (fun k => i + 1 + k)) := by
  have : R.n = i + (1 + (R.n - i - 1)) := by omega
  conv => lhs; rw [this, List.range_add, List.range_add]
  simp [List.map_map, Function.comp_def, Nat.add_assoc]
 have ha : ∀ (l : List Nat), (∀ k ∈ l, k < R.n ∧ k ≠ i) → l.flatMap (fun k => (get k).map SV.den0) = l.flatMap (fun k => (R.get k).map SV.den0) := by
  intro l
  induction l with
  | nil => intro _; rfl
  | cons c l ih => intro hh; simp only [List.flatMap_cons]; rw [h1 c (hh c (List.mem_cons_self ..)).1 (hh c (List.mem_cons_self ..)).2, ih (fun k hk => hh k (List.mem_cons_of_mem _ hk))]
 have hA : ∀ k ∈ List.range i, k < R.n ∧ k ≠ i := fun k hk => by have := List.mem_range.1 hk; omega
 have hB : ∀ k ∈ (List.range (R.n - i - 1)).map (fun k => i + 1 + k), k < R.n ∧ k ≠ i := fun k hk => by
  obtain ⟨m, hm, rfl⟩ := List.mem_map.1 hk
  have := List.mem_range.1 hm
  omega
 have hlen := flat_length (fun k => (R.get k).map SV.den0) R.size i (fun k hk => by rw [List.length_map]; exact hl k (by omega))
 have hli := hl i hi
 unfold Row.flat Row.with
 simp only
 rw [e1, List.flatMap_append, List.flatMap_append, List.flatMap_append, List.flatMap_append, ha _ hA, ha _ hB]
 simp only [List.flatMap_cons, List.flatMap_nil, List.append_nil]
 generalize (List.range i).flatMap (fun k => (R.get k).map SV.den0) = A at hlen
 generalize ((List.range (R.n - i - 1)).map (fun k => i + 1 + k)).flatMap (fun k => (R.get k).map SV.den0) = B
 rw [h2]
 generalize R.get i = M at hli
 unfold splice
 simp only [List.map_append, List.map_take, List.map_drop]
 generalize hM : M.map SV.den0 = M'
 have hM' : M'.length = R.size := by rw [← hM, List.length_map, hli]
 rw [List.take_append, List.take_append, List.drop_append, List.drop_append, hlen]
 rw [List.take_of_length_le (by omega : A.length ≤ i * R.size + j), Nat.add_sub_cancel_left, hM']
 rw [List.drop_eq_nil_of_le (by omega : A.length ≤ i * R.size + j + ys.length), List.nil_append]
 rw [show j - R.size = 0 by omega, List.take_zero, List.append_nil, show i * R.size + j + ys.length - i * R.size = j + ys.length by omega, show j + ys.length - R.size = 0 by omega, List.drop_zero]
 simp [List.append_assoc]
theorem V.storeRow (r : Nat) (R : Row) (i j : Nat) (ys : List SV) (get : Nat → List SV) {c : Cfg} (hc : rstOf C.P c = some (r, R, i, j, ys)) (h1 : ∀ k, k < R.n → k ≠ i → get k = R.get k) (h2 : i < R.n → get i = splice (R.get i) j ys)
  (k : V C ⟨nextT c.todo, { c.st with rows := upd c.st.rows r (R.with get) }⟩) : V C c := by
 intro ρ a w hS
 obtain ⟨todo, st⟩ := c
 unfold rstOf at hc
 simp only at hc k hS ⊢
 split at hc
 case h_2 => cases hc
 rename_i ops m l k'
 split at hc
 case h_2 => cases hc
 rename_i o ho
 split at hc
 case h_2 => cases hc
 rename_i t ad x hg hop hdst
 split at hc
 case h_2 => cases hc
 rename_i r0 q0 sz0 i0 j0 v sz hev hx hsz
 split at hc
 case h_2 => cases hc
 rename_i ys0 R0 hys hR
 split at hc
 case h_2 => cases hc
 rename_i hown hobj hl hle hpl
 simp only [Option.some.injEq, Prod.mk.injEq] at hc
 obtain ⟨rfl, rfl, rfl, rfl, rfl⟩ := hc
 obtain ⟨e1, e1w⟩ := ev_sound hS.toP (GcOk.none st) hev
 obtain ⟨e2, e2w⟩ := ev_sound hS.toP (GcOk.none st) hx
 obtain ⟨c1, c2⟩ := cells_sound (ρ := ρ) hys st.W e2w
 obtain ⟨_, hel⟩ := e1w
 obtain ⟨rfl, rfl, hi⟩ := hel R0 hR
 obtain ⟨hr0, hok, huse⟩ := hS.rows r0 R0 hR
 have hl' := (beq_iff _ _).1 hl
 have hle' : j0 + ys0.length ≤ R0.size := Nat.le_of_ble_eq_true hle
 have hpl' := allPlain_ok hpl
 have hlens := fun k hk => (hok.len k hk).1
 rcases (hok.own hown hobj).2 with ⟨hv, hz⟩ | ⟨g, cap, cur, hv, _, hgh, hnc, hcm, hcs, htake⟩
 ·omega
 injection hv with hs hn hcap
 subst hcap
 have hmap : ys0.map (SV.den ρ) = ys0.map SV.den0 := List.map_congr_left fun y hy => SV.plain_den (hpl' y hy).1 ρ
 have hbound : i0 * R0.size + j0 + ys0.length ≤ R0.n * R0.size := by
  have := Nat.mul_le_mul_right R0.size (show i0 + 1 ≤ R0.n by omega)
  rw [Nat.add_mul] at this; omega
 have hnsz : R0.n * R0.size ≤ cur.size := by rw [hcs]; exact Nat.mul_le_mul_right _ hnc
 have hst := run_storeCells_at C.P g (i0 * R0.size + j0) R0.elem (ys0.map (SV.den ρ)) 0 cur w hgh (by simp only [List.length_map]; omega) (fun v hv => by
  obtain ⟨y, hy, rfl⟩ := List.mem_map.1 hv
  exact fit_sound (hpl' y hy).2)
 simp only [Nat.add_zero] at hst
 have hflat := flat_set (R := R0) (get := get) hi hle' hlens h1 (h2 hi)
 have hS' := hS.rowSet (w' := w.setRow g (cur.toList.take (i0 * R0.size + j0) ++ ys0.map SV.den0 ++ cur.toList.drop (i0 * R0.size + j0 + ys0.length)).toArray) hR hown hobj get (by
   refine ⟨?_, .inr ⟨g, R0.cap, _, by rw [hs], Nat.zero_le _, setRow_heap w g cur _ R0.elem _ hgh, hnc, hcm, ?_, ?_⟩⟩
   ·exact flat_length (fun k => (get k).map SV.den0) R0.size R0.n (fun k hk => by
     rw [List.length_map]
     by_cases e : k = i0
     ·rw [e, h2 hi]; unfold splice; simp [hlens i0 hi]; omega
     ·rw [h1 k hk e]; exact hlens k hk)
   ·simp only [List.size_toArray, List.length_append, List.length_take, List.length_drop, Array.length_toList, List.length_map]
    omega
   ·rw [hflat, ← htake]
    simp only [List.take_append, List.length_take, List.length_append, List.length_map, Array.length_toList, List.take_take, List.drop_take]
    rw [show min (R0.n * R0.size) (i0 * R0.size + j0) = i0 * R0.size + j0 by omega, show min (i0 * R0.size + j0) (R0.n * R0.size) = i0 * R0.size + j0 by omega, show min (i0 * R0.size + j0) cur.size = i0 * R0.size + j0 by omega]
    rw [List.take_of_length_le (by rw [List.length_map]; omega : (ys0.map SV.den0).length ≤ R0.n * R0.size - (i0 * R0.size + j0))])
  ⟨rfl, rfl, rfl, by rw [size_setRow]; exact Nat.le_refl _, fun k _ hk => setRow_other w g k _ (fun e => hk (by rw [hs]; simp [Value.ownBlock, e]))⟩
  (fun k hk => by
   by_cases e : k = i0
   ·subst e
    rw [h2 hi]
    refine ⟨by unfold splice; simp [hlens k hi]; omega, fun x hx => ?_⟩
    unfold splice at hx
    rcases List.mem_append.1 hx with hx | hx
    ·rcases List.mem_append.1 hx with hx | hx
     ·exact (hok.len k hi).2 x (List.mem_of_mem_take hx)
     ·exact (hpl' x hx).1
    ·exact (hok.len k hi).2 x (List.mem_of_mem_drop hx)
   ·rw [h1 k hk e]; exact hok.len k hk)
 refine Ok.op_skip (w' := w.setRow g (cur.toList.take (i0 * R0.size + j0) ++ ys0.map SV.den0 ++ cur.toList.drop (i0 * R0.size + j0 + ys0.length)).toArray) ho (grd_yes hS hg) ?_ ?_
 ·have ha : CV.den ρ (.one (.el r0 R0.s R0.size i0 j0)) = .pointer (some ⟨g, i0 * R0.size + j0, none⟩) := by
   show SV.den ρ (.el r0 R0.s R0.size i0 j0) = _
   rw [hs]
   simp [SV.den]
  unfold execOp
  rw [hop]
  simp only [e1, e2, ha]
  rw [hmap] at c1 hst
  generalize CV.den ρ v = u at c1
  simp [Instr.storeAt, Instr.sureAddr, storeVar, szOf_run hsz, c1, hl', hst]
 ·rw [hdst]
  exact k ρ a _ hS'
end
end Go.SX
namespace Go.SX
open Go
theorem V.rowAt {C : Ctx} (r : Nat) (R : Row) {c : Cfg} (hR : look c.st.rows r = some R) (hn : 0 < R.n) (k : (∃ b off, R.s = some ⟨b, off, none⟩) → V C c) : V C c := by
 intro ρ a w hS
 obtain ⟨b, off, h, _⟩ := (hS.rows r R hR).2.1.addr hn
 exact k ⟨b, off, h⟩ ρ a w hS
end Go.SX
end
section
namespace Go.SX
open Go
section
variable {P : Program} {w : World}
set_option maxHeartbeats 1000000 in
theorem app_nil_z (t u ty e : TypeId) (i : TypeInfo) (z : Value) (k : IntKind) (ht : P.underlying t = some (.slice e)) (hu : P.underlying u = some (.int k)) (hi : P.info? e = some i) (hz : i.zero = some z) (hsz : i.size ≠ 0) (m : Nat) (hm : m ≠ 0) (hm1 : m ≤ 1000000)
  (hbytes : m * i.bytes ≤ 140737488355328) (hb1 : 0 < i.bytes) :
  (Builtin.append_ #[t, u] ty #[.slice none 0 0, .int k (m : Int)]).run P w = .ok (.slice (some ⟨w.heap.size, 0, none⟩) m (grownCap w m 0 e)) (w.drew.alloc (.cells (Builtin.zeroCells z.cells m ++ Builtin.zeroCells z.cells (grownCap w m 0 e - m)) e)) := by
 have hmm : m ≤ 140737488355328 := by omega
 have hfit : ¬ (281474976710656 < Builtin.nextslicecap m 0 * i.bytes) := by rw [nextslicecap_zero (by omega)]; omega
 have hmi : ¬ (9223372036854775807 < (m : Int)) := by omega
 have hwr : IntKind.i64.wrap (m : Int) = (m : Int) := by simp [IntKind.wrap, IntKind.bits, IntKind.signed]; omega
 have hb : ¬ (281474976710656 < (m : Int) * (i.bytes : Int)) := by
  have : ((m * i.bytes : Nat) : Int) ≤ 140737488355328 := by omega
  rw [Int.natCast_mul] at this
  omega
 have hneg : ¬ ((m : Int) < 0) := by omega
 simp [Builtin.append_, under_run ht, under_run hu, sizeOf, typeInfo, zeroValue, hi, hz, hm, hmi, hfit, Question.forced, run_firstCells_none, newRow, grownCap, asInt, asIntOf, hwr, hb, hneg]
 intro h
 rcases Nat.mul_eq_zero.1 h with h | h
 ·exact absurd h hm
 ·exact absurd h hsz
theorem zeroCells_flat (zc : Array Value) (h : 0 < zc.size) : ∀ m, (Builtin.zeroCells zc m).toList = (List.range m).flatMap (fun _ => zc.toList)
 | 0 => by simp [Builtin.zeroCells]
 | m + 1 => by
  have ih := zeroCells_flat zc h m
  rw [List.range_succ, List.flatMap_append, ← ih]
  unfold Builtin.zeroCells
  rw [Nat.add_mul, Nat.one_mul]
  simp only [Array.toList_map, Array.toList_range, List.flatMap_cons, List.flatMap_nil, List.append_nil]
  rw [List.range_add, List.map_append, List.map_map]
  congr 1
  apply List.ext_getElem
  ·simp
  ·intro i h1 h2
   have hi : i < zc.size := by simpa using h1
   have hm : (m * zc.size + i) % zc.size = i := by rw [Nat.mul_comm, Nat.mul_add_mod]; exact Nat.mod_eq_of_lt hi
   simp [hm, hi]
end
def appZOf (P : Program) (c : Cfg) : Option (Nat × TypeId × Nat × Nat × List SV) :=
 match c.todo with
 | .inRegion ops (i :: _) :: _ => match ops[i]? with
  | some o => match grdOf c.st ops o.guard with
   | .yes => match callAt o with
    | some cl => match cl.callee with
     | .builtin .append => match cl.args.toList, cl.argTypes.toList with
      | [x, y], [t, u] => match ev c.st none x, ev c.st none y with
       | some (.one (.val (.slice none 0 0))), some (.one (.int k (.ofNat m))) => match P.underlying t, P.underlying u with
        | some (.slice e), some (.int _) => match P.info? e, zeroS P e with
         | some i, some zs => match i.zero with
          | some z => match Nat.beq z.cells.size i.size, Nat.beq zs.length i.size, Nat.blt 0 i.size, Nat.blt 0 i.bytes, allPlain zs with
           | true, true, true, true, true => some (m, e, i.size, i.bytes, zs)
           | _, _, _, _, _ => none
          | none => none
         | _, _ => none
        | _, _ => none
       | _, _ => none
      | _, _ => none
     | _ => none
    | none => none
   | _ => none
  | none => none
 | _ => none
def nilS (s : St) (e : TypeId) (size : Nat) (get : Nat → List SV) : St := { s with rows := (s.nr, ⟨none, 0, 0, e, size, get, true, none⟩) :: s.rows, nr := s.nr + 1 }
def zRow {α : Type} (f : α → List SV) (d z : α) (m : Nat) (q : Option Addr) (cap : Nat) (e : TypeId) (sz : Nat) : Row := rowL f d (List.replicate m z) q cap e sz true
variable {C : Ctx}
theorem V.appZ {α : Type} (f : α → List SV) (d z : α) (m : Nat) (e : TypeId) (sz bytes : Nat) {c : Cfg} (hA : appZOf C.P c = some (m, e, sz, bytes, f z)) (hm : 0 < m) (hm1 : m ≤ 1000000) (hb : m * bytes ≤ 140737488355328)
  (haf : ∀ q cap, (afterOp c ((nilS c.st e sz fun _ => f z).rowTo c.st.nr (zRow f d z m q cap e sz)) (.v (.one (.row (c.st.nr + 1) q m cap)))).isSome = true)
  (k : ∀ q cap, V C (afterD c ((nilS c.st e sz fun _ => f z).rowTo c.st.nr (zRow f d z m q cap e sz)) (.v (.one (.row (c.st.nr + 1) q m cap))))) : V C c := by
 intro ρ a w hS
 obtain ⟨todo, st⟩ := c
 unfold appZOf at hA
 simp only at hA haf k hS ⊢
 split at hA
 case h_2 => cases hA
 rename_i ops i l k'
 split at hA
 case h_2 => cases hA
 rename_i o ho
 split at hA
 case h_2 => cases hA
 rename_i hg
 split at hA
 case h_2 => cases hA
 rename_i cl hcl
 split at hA
 case h_2 => cases hA
 rename_i hbu
 split at hA
 case h_2 => cases hA
 rename_i x y t u hargs htys
 split at hA
 case h_2 => cases hA
 rename_i kd m0 hx hy
 split at hA
 case h_2 => cases hA
 rename_i e0 kd' hu hui
 split at hA
 case h_2 => cases hA
 rename_i inf zs hi hzs
 split at hA
 case h_2 => cases hA
 rename_i zv hz
 split at hA
 case h_2 => cases hA
 rename_i b1 b2 b3 b4 b5
 simp only [Option.some.injEq, Prod.mk.injEq] at hA
 obtain ⟨rfl, rfl, rfl, rfl, hf⟩ := hA
 obtain ⟨callee, args, argTypes⟩ := cl
 simp only at hbu hargs htys
 subst hbu
 have ha : args = #[x, y] := by apply Array.ext'; simpa using hargs
 have htt : argTypes = #[t, u] := by apply Array.ext'; simpa using htys
 subst ha; subst htt
 have hop : o.op = .call ⟨.builtin .append, #[x, y], #[t, u]⟩ := by
  unfold callAt at hcl
  split at hcl
  ·rename_i e; cases hcl; exact e
  ·cases hcl
 have hisz := (beq_iff _ _).1 b1
 have hzl := (beq_iff _ _).1 b2
 have hs0 : 0 < inf.size := by rw [Nat.blt_eq] at b3; exact b3
 have hb0 : 0 < inf.bytes := by rw [Nat.blt_eq] at b4; exact b4
 have hpl := allPlain_ok b5
 have hzc : zv.cells.toList = zs.map SV.den0 := by
  have hzs' := hzs
  unfold zeroS at hzs'
  rw [hi] at hzs'
  simp only [hz, Option.some.injEq] at hzs'
  rw [← hzs', List.map_map]
  have : (SV.den0 ∘ norm) = id := funext (norm_den (fun _ => 0))
  rw [this, List.map_id]
 obtain ⟨e1, _⟩ := ev_sound hS.toP (GcOk.none st) hx
 obtain ⟨e2, _⟩ := ev_sound hS.toP (GcOk.none st) hy
 have hkd : kd = kd' ∨ True := .inr trivial
 have hr := app_nil_z (P := C.P) (w := w) t u o.type e0 inf zv kd' hu hui hi hz (by omega) m0 (by omega) hm1 hb hb0
 have hr' : (Builtin.append_ #[t, u] o.type #[.slice none 0 0, .int kd (m0 : Int)]).run C.P w = .ok (.slice (some ⟨w.heap.size, 0, none⟩) m0 (grownCap w m0 0 e0)) (w.drew.alloc (.cells (Builtin.zeroCells zv.cells m0 ++ Builtin.zeroCells zv.cells (grownCap w m0 0 e0 - m0)) e0)) := by
  rw [← hr]
  simp only [Builtin.append_]
  simp [asInt, asIntOf, under_run hui, under_run hu]
 generalize hcap : grownCap w m0 0 e0 = cap at hr'
 have hge : m0 ≤ cap := by rw [← hcap]; exact grownCap_ge w m0 0 e0
 have hcm : cap ≤ maxLen := by rw [← hcap]; exact grownCap_le_maxLen w m0 0 e0 (by simp only [maxLen]; omega)
 generalize hw' : w.drew.alloc (.cells (Builtin.zeroCells zv.cells m0 ++ Builtin.zeroCells zv.cells (cap - m0)) e0) = w' at hr'
 have hnews : (Builtin.zeroCells zv.cells m0).toList = (List.range m0).flatMap (fun _ => (f z).map SV.den0) := by
  rw [zeroCells_flat _ (by omega), hzc, hf]
 have hnl : (Builtin.zeroCells zv.cells m0).toList.length = m0 * inf.size := by
  rw [Array.length_toList, size_zeroCells, hisz]
 have hN := hS.nilRow e0 inf.size (fun _ => f z)
 have hfz : (f z).length = inf.size ∧ ∀ x ∈ f z, x.plain := by rw [← hf]; exact ⟨hzl, fun x hx => (hpl x hx).1⟩
 have hget : ∀ i, i < m0 → f ((List.replicate m0 z).getD i d) = f z := fun i hi => by
  rw [List.getD, List.getElem?_replicate, if_pos hi]
  rfl
 have hfl0 : (⟨none, 0, 0, e0, inf.size, fun _ => f z, true, none⟩ : Row).flat = [] := rfl
 have hSat := hN.append (r := st.nr) (R := ⟨none, 0, 0, e0, inf.size, fun _ => f z, true, none⟩) (by simp [look]) rfl (q := some ⟨w.heap.size, 0, none⟩) (m := m0) (cap := cap) (news := (Builtin.zeroCells zv.cells m0).toList) (w' := w')
  (by
   rw [hfl0, List.nil_append]
   refine ⟨by rw [hnl, Nat.zero_add], .inr ⟨w.heap.size, cap, _, by rw [Nat.zero_add], Nat.zero_le _, by rw [← hw']; exact heap_alloc_new w.drew _, by rw [Nat.zero_add]; exact hge, hcm, ?_, ?_⟩⟩
   ·rw [Array.size_append, size_zeroCells, size_zeroCells, hisz, ← Nat.add_mul]
    rw [show m0 + (cap - m0) = cap by omega]
   ·rw [Array.toList_append, Nat.zero_add, ← hnl]
    exact List.take_left)
  (by
   rw [← hw']
   exact ⟨rfl, rfl, rfl, by simp, fun k hk _ => Go.RowKit.Below.heap_alloc w.drew _ k hk⟩)
  (fun ad h => .inr (by injection h with h; rw [← h]))
  (fun i => f ((List.replicate m0 z).getD i d)) (fun i hi => absurd hi (Nat.not_lt_zero i))
  (by
   rw [hnews]
   have : ∀ (l : List Nat), (∀ j ∈ l, j < m0) → l.flatMap (fun i => (f ((List.replicate m0 z).getD (0 + i) d)).map SV.den0) = l.flatMap (fun _ => (f z).map SV.den0) := by
    intro l
    induction l with
    | nil => intro _; rfl
    | cons c l ih => intro hl; simp only [List.flatMap_cons]; rw [Nat.zero_add, hget c (hl c (List.mem_cons_self ..)), ih (fun i hi => hl i (List.mem_cons_of_mem _ hi))]
   exact this _ (fun j hj => List.mem_range.1 hj))
  (fun i hi => by
   show (f ((List.replicate m0 z).getD (0 + i) d)).length = inf.size ∧ _
   rw [Nat.zero_add, hget i hi]
   exact hfz)
 have hrow : (⟨none, 0, 0, e0, inf.size, fun _ => f z, true, none⟩ : Row).next (some ⟨w.heap.size, 0, none⟩) m0 cap (fun i => f ((List.replicate m0 z).getD i d)) = zRow f d z m0 (some ⟨w.heap.size, 0, none⟩) cap e0 inf.size := by
  simp [Row.next, zRow, rowL]
 rw [hrow] at hSat
 refine Ok.op_value (w' := w') ho (grd_yes hS hg) (v := .slice (some ⟨w.heap.size, 0, none⟩) m0 cap) ?_ ?_
 ·unfold execOp
  rw [hop]
  simp only [resolve, Sem.run_bind, Sem.run_pure, Result.andThen_ok, invoke, builtin, List.map_toArray, List.map_cons, List.map_nil, e1, e2]
  have h1 : CV.den ρ (.one (.val (.slice none 0 0))) = .slice none 0 0 := rfl
  have h2 : CV.den ρ (.one (.int kd (Int.ofNat m0))) = .int kd (m0 : Int) := rfl
  rw [h1, h2, hr']
  rfl
 have haf' := afterD_some (haf (some ⟨w.heap.size, 0, none⟩) cap)
 have hk := k (some ⟨w.heap.size, 0, none⟩) cap
 revert hk
 generalize afterD _ _ _ = c' at haf'
 intro hk
 simp only [afterOp, ho] at haf'
 split at haf'
 ·rename_i s' hput
  cases haf'
  have hwf : (RV.v (.one (.row (st.nr + 1) (some ⟨w.heap.size, 0, none⟩) m0 cap))).wf ((nilS st e0 inf.size fun _ => f z).rowTo st.nr (zRow f d z m0 (some ⟨w.heap.size, 0, none⟩) cap e0 inf.size)).W := by
   refine ⟨Nat.lt_succ_self _, fun R hR => ?_⟩
   simp only [nilS, St.rowTo, St.W, look, Nat.beq_refl] at hR
   cases hR
   exact ⟨rfl, by simp [zRow, rowL], rfl⟩
  exact hk ρ _ _ (hSat.put hput hwf (fun g pol b x e => by cases e))
 ·cases haf'
section
variable {ρ : Nat → Nat} {s : St} {a : Act} {w : World}
theorem Sat.rowRe (h : Sat C ρ s a w) {r : Nat} {R R' : Row} (hR : look s.rows r = some R) (ho : R.own = true) (ho' : R'.own = true) (hs : R'.s = R.s) (hok : R'.ok w) : Sat C ρ (s.rowTo r R') a w := by
 obtain ⟨hr0, _, huse⟩ := h.rows r R hR
 have hle := rowTo_le s r R'
 have hu : ∀ k, R'.uses k → R.uses k := by
  rintro k ⟨ad, h1, h2, _⟩
  exact ⟨ad, by rw [← hs]; exact h1, h2, .inl ho⟩
 refine ⟨h.n, fun i v hv => ⟨(h.slots i v hv).1, RV.wf_mono hle v (h.slots i v hv).2⟩, h.grds, ?_, h.inj, h.lt, h.defers, h.chg, ?_, ?_, ?_, h.fix⟩
 ·intro b blk hb
  obtain ⟨k1, k2, k3, k4⟩ := h.heap b blk hb
  exact ⟨k1, k2, fun x hx => SV.wf_mono hle x (k3 x hx), k4⟩
 ·intro r' R1 hR'
  simp only [St.rowTo, look] at hR'
  split at hR'
  ·rename_i e
   cases hR'
   have := (beq_iff _ _).1 e
   refine ⟨by show r' < s.nr + 1; omega, hok, fun k hk => ?_⟩
   obtain ⟨u1, u2, u3⟩ := huse k (hu k hk)
   exact ⟨u1, u2, fun _ => u3 ho⟩
  ·obtain ⟨hne, hl⟩ := look_eraseK hR'
   obtain ⟨k0, k1, k2⟩ := h.rows r' R1 hl
   exact ⟨by show r' < s.nr + 1; omega, k1, k2⟩
 ·intro r1 r2 R1 R2 hR1 hR2 hne ho1 k hk1 hk2
  simp only [St.rowTo, look] at hR1 hR2
  split at hR1
  ·rename_i e1
   cases hR1
   split at hR2
   ·rename_i e2; have := (beq_iff _ _).1 e1; have := (beq_iff _ _).1 e2; omega
   ·obtain ⟨hne2, hl2⟩ := look_eraseK hR2
    exact h.rowsD r r2 R R2 hR hl2 (fun e => hne2 e.symm) ho k (hu k hk1) hk2
  ·obtain ⟨hne1, hl1⟩ := look_eraseK hR1
   split at hR2
   ·cases hR2
    exact h.rowsD r1 r R1 R hl1 hR hne1 ho1 k hk1 (hu k hk2)
   ·obtain ⟨hne2, hl2⟩ := look_eraseK hR2
    exact h.rowsD r1 r2 R1 R2 hl1 hl2 hne ho1 k hk1 hk2
 ·intro p hp
  obtain ⟨p1, p2, p3⟩ := h.pers p hp
  refine ⟨p1, p2, fun k hD => ?_⟩
  obtain ⟨u1, u2, u3⟩ := p3 k hD
  refine ⟨u1, u2, fun r' R1 hR' ho1 hu' => ?_⟩
  simp only [St.rowTo, look] at hR'
  split at hR'
  ·cases hR'
   exact u3 r R hR ho (hu k hu')
  ·exact u3 r' R1 (look_eraseK hR').2 ho1 hu'
end
theorem V.cutRow {α : Type} (f : α → List SV) (d : α) (l : List α) (t r : Nat) (q : Option Addr) (cap : Nat) (e : TypeId) (sz : Nat) {c : Cfg} (hl : look c.st.slots t = some (.v (.one (.val (.slice q 0 cap))))) (hg : hasNat c.st.gs t = false)
  (hR : look c.st.rows r = some (rowL f d l q cap e sz true)) (h : V C ⟨c.todo, { c.st.rowTo r (rowL f d [] q cap e sz true) with slots := upd c.st.slots t (.v (.one (.row c.st.nr q 0 cap))) }⟩) : V C c := by
 intro ρ a w hS
 have hok := (hS.rows r _ hR).2.1.own rfl rfl
 have h1 := hS.rowRe (R' := rowL f d [] q cap e sz true) hR rfl rfl rfl (by
  refine ⟨fun i hi => absurd hi (Nat.not_lt_zero i), fun hi => absurd hi (Nat.lt_irrefl 0), fun _ _ => ?_, fun o ho => by cases ho⟩
  refine ⟨by simp [Row.flat, rowL], ?_⟩
  rcases hok.2 with ⟨hv, hz⟩ | ⟨g, cap0, cur, hv, hb, hgh, hnc, hcm, hcs, htake⟩
  ·injection hv with e1 e2 e3
   have e1 : q = none := e1
   have e3 : cap = 0 := e3
   exact .inl ⟨(show Value.slice q 0 cap = .slice none 0 0 by rw [e1, e3]), rfl⟩
  ·injection hv with e1 e2 e3
   have e1 : q = some ⟨g, 0, none⟩ := e1
   have e3 : cap = cap0 := e3
   refine .inr ⟨g, cap0, cur, (show Value.slice q 0 cap = .slice (some ⟨g, 0, none⟩) 0 cap0 by rw [e1, e3]), hb, hgh, Nat.zero_le _, hcm, hcs, ?_⟩
   show cur.toList.take (0 * sz) = _
   simp [Row.flat, rowL])
 refine h ρ a w ⟨h1.n, ?_, ?_, h1.heap, h1.inj, h1.lt, h1.defers, h1.chg, h1.rows, h1.rowsD, h1.pers, h1.fix⟩
 ·intro i v hv
  simp only [look_upd] at hv
  by_cases ei : t = i
  ·rw [if_pos ei] at hv
   cases hv
   subst ei
   refine ⟨(hS.slots t _ hl).1, Nat.lt_succ_self _, fun R1 hR1 => ?_⟩
   simp only [St.rowTo, St.W, look, Nat.beq_refl] at hR1
   cases hR1
   exact ⟨rfl, rfl, rfl⟩
  ·rw [if_neg ei] at hv
   exact h1.slots i v hv
 ·intro i g' pol c' x hv
  simp only [look_upd] at hv ⊢
  by_cases ei : t = i
  ·rw [if_pos ei] at hv; cases hv
  ·rw [if_neg ei] at hv
   obtain ⟨k1, k2⟩ := h1.grds i g' pol c' x hv
   refine ⟨k1, ?_⟩
   have : t ≠ g' := fun e' => by
    subst e'
    have k1' : hasNat c.st.gs t = true := k1
    rw [hg] at k1'
    cases k1'
   rw [if_neg this]
   exact k2
end Go.SX
end
section
namespace Go.Proofs
open Go Go.SX
set_option maxRecDepth 10000
theorem groups_ne (k z : Nat) : groups k z ≠ [] := by
 cases k with
 | zero => simp [groups]
 | succ k =>
  by_cases h : z < 128
  ·simp [groups_last h]
  ·simp [groups_step h]
theorem takeB_in {b : List UInt8} {n : Nat} (h : n < b.length) : takeB (xIn b) ⟨n, false⟩ = (b.getD n 0, ⟨n + 1, false⟩) := by
 unfold takeB
 exact if_pos h
theorem rd_in {b : List UInt8} {k n z m i : Nat} (h : n < b.length) : rdNumL (xIn b) (k + 1) ⟨n, false⟩ z m i =
  if 128 ≤ (b.getD n 0).toNat ∧ i + 1 < 6 then rdNumL (xIn b) k ⟨n + 1, false⟩ (z + (b.getD n 0).toNat % 128 * m) (m * 128) (i + 1)
  else if 128 ≤ (b.getD n 0).toNat ∨ (1 < i + 1 ∧ (b.getD n 0).toNat = 0) ∨ ¬ isNum (unzz (z + (b.getD n 0).toNat % 128 * m)) = true then (0, ⟨n + 1, true⟩) else (unzz (z + (b.getD n 0).toNat % 128 * m), ⟨n + 1, false⟩) := by
 rw [rdNumL]
 simp only [takeB_in h]
theorem unzz_zz (n : Int) : unzz (zz n) = n := by
 unfold zz unzz
 split <;> split <;> omega
theorem groups_fuel : ∀ (k k' z : Nat), k ≤ k' → z < 128 ^ (k + 1) → groups k' z = groups k z
 | k, k', z, hk, hz => by
  by_cases h : z < 128
  ·rw [groups_last h, groups_last h]
  ·match k, k', hk, hz with
   | 0, _, _, hz => simp at hz; omega
   | k + 1, 0, hk, _ => omega
   | k + 1, k' + 1, hk, hz =>
    rw [groups_step h, groups_step h, groups_fuel k k' (z / 128) (by omega) (by rw [Nat.div_lt_iff_lt_mul (by decide), ← Nat.pow_succ]; exact hz)]
theorem groups_pos (k z : Nat) : 0 < (groups k z).length := List.length_pos_iff.2 (groups_ne k z)
theorem drop_cons {b : List UInt8} {a : Nat} {c : UInt8} {l : List UInt8} (h : b.drop a = c :: l) : a < b.length ∧ b.getD a 0 = c ∧ b.drop (a + 1) = l := by
 have hlt : a < b.length := by
  rcases Nat.lt_or_ge a b.length with h1 | h1
  ·exact h1
  ·rw [List.drop_eq_nil_of_le h1] at h
   cases h
 rw [List.drop_eq_getElem_cons hlt] at h
 injection h with h1 h2
 exact ⟨hlt, by rw [List.getD, List.getElem?_eq_getElem hlt, ← h1]; rfl, h2⟩
theorem rd_groups (b : List UInt8) : ∀ (k z n f acc a : Nat) (rest : List UInt8), n + k ≤ 4 → n + f = 5 → z < 128 ^ (k + 1) → (n = 0 ∨ z ≠ 0) → b.drop a = groups k z ++ rest → isNum (unzz (acc + z * 128 ^ n)) = true →
  rdNumL (xIn b) (f + 1) ⟨a, false⟩ acc (128 ^ n) n = (unzz (acc + z * 128 ^ n), ⟨a + (groups k z).length, false⟩)
 | k, z, n, f, acc, a, rest, hnk, hnf, hz, h0, hd, hnum => by
  by_cases h : z < 128
  ·rw [groups_last h] at hd ⊢
   obtain ⟨h1, h2, _⟩ := drop_cons hd
   have hc : (UInt8.ofNat z).toNat = z := by simp; omega
   rw [rd_in h1, h2, hc, Nat.mod_eq_of_lt h, if_neg (by omega), if_neg]
   ·rfl
   ·rintro (h3 | h3 | h3)
    ·omega
    ·rcases h0 with h0 | h0
     ·omega
     ·exact h0 h3.2
    ·exact h3 hnum
  ·match k, f, hnk, hnf, hz with
   | 0, _, _, _, hz => simp at hz; omega
   | k + 1, 0, hnk, hnf, _ => omega
   | k + 1, f + 1, hnk, hnf, hz =>
    rw [groups_step h] at hd ⊢
    obtain ⟨h1, h2, h3⟩ := drop_cons hd
    have hc : (UInt8.ofNat (z % 128 + 128)).toNat = z % 128 + 128 := by simp; omega
    have hm : (z % 128 + 128) % 128 = z % 128 := by omega
    have hs : acc + z % 128 * 128 ^ n + z / 128 * 128 ^ (n + 1) = acc + z * 128 ^ n := by
     have e1 : z / 128 * 128 ^ (n + 1) = (128 * (z / 128)) * 128 ^ n := by rw [Nat.pow_succ, Nat.mul_comm (128 ^ n) 128, ← Nat.mul_assoc, Nat.mul_comm (z / 128) 128]
     rw [e1, Nat.add_assoc, ← Nat.add_mul, Nat.mod_add_div]
    have ih := rd_groups b k (z / 128) (n + 1) f (acc + z % 128 * 128 ^ n) (a + 1) rest (by omega) (by omega) (by rw [Nat.div_lt_iff_lt_mul (by decide), ← Nat.pow_succ]; exact hz) (.inr (by omega)) h3 (by rw [hs]; exact hnum)
    rw [hs] at ih
    rw [show rdNumL (xIn b) (f + 1 + 1) ⟨a, false⟩ acc (128 ^ n) n = rdNumL (xIn b) (f + 1) ⟨a + 1, false⟩ (acc + z % 128 * 128 ^ n) (128 ^ (n + 1)) (n + 1) by
     rw [rd_in h1, h2, hc, hm, if_pos (by omega), Nat.pow_succ]]
    rw [ih, List.length_cons, Nat.add_assoc, Nat.add_comm 1]
theorem zz_num {m : Int} (h : isNum m = true) : zz m < 4294967296 := by
 unfold isNum at h
 simp only [Bool.and_eq_true, decide_eq_true_eq] at h
 exact zz_lt (by omega) (by omega)
theorem encN_4 {m : Int} (h : isNum m = true) : encN m = groups 4 (zz m) := groups_fuel 4 9 (zz m) (by decide) (Nat.lt_trans (zz_num h) (by decide))
theorem read_enc {b : List UInt8} {a : Nat} {m : Int} {rest : List UInt8} (h : isNum m = true) (hd : b.drop a = encN m ++ rest) : rdNum (xIn b) ⟨a, false⟩ = (m, ⟨a + (encN m).length, false⟩) := by
 rw [encN_4 h] at hd ⊢
 have := rd_groups b 4 (zz m) 0 5 0 a rest (by omega) (by omega) (Nat.lt_trans (zz_num h) (by decide)) (.inl rfl) hd (by rw [Nat.pow_zero, Nat.mul_one, Nat.zero_add, unzz_zz]; exact h)
 rw [Nat.pow_zero, Nat.mul_one, Nat.zero_add, unzz_zz] at this
 exact this
theorem encN_len5 {m : Int} (h : isNum m = true) : 1 ≤ (encN m).length ∧ (encN m).length ≤ 5 := by
 rw [encN_4 h]
 exact ⟨groups_pos _ _, groups_len 4 _⟩
theorem takeB_s (X : RIn) (r : RSt) : takeB X r = takeB (xIn X.s) r := rfl
theorem rdNumL_s (X : RIn) : ∀ (k : Nat) (r : RSt) (z m n : Nat), rdNumL X k r z m n = rdNumL (xIn X.s) k r z m n
 | 0, _, _, _, _ => rfl
 | k + 1, r, z, m, n => by
  rw [rdNumL, rdNumL]
  simp only [takeB_s X, rdNumL_s X k]
  rfl
theorem drop_next {s : List UInt8} {a : Nat} {l t : List UInt8} (h : s.drop a = l ++ t) : s.drop (a + l.length) = t := by rw [← List.drop_drop, h, List.drop_left]
theorem drop_len {s : List UInt8} {a : Nat} {l t : List UInt8} (h : s.drop a = l ++ t) (hl : l ≠ []) : a + l.length + t.length = s.length := by
 have h1 := congrArg List.length h
 rw [List.length_drop, List.length_append] at h1
 have : 0 < l.length := List.length_pos_iff.2 hl
 omega
theorem rt_num {X : RIn} {a : Nat} {m : Int} {t : List UInt8} (h : isNum m = true) (hd : X.s.drop a = encN m ++ t) : rdNum X ⟨a, false⟩ = (m, ⟨a + (encN m).length, false⟩) := by
 have := read_enc (b := X.s) (a := a) h hd
 unfold rdNum at this ⊢
 rw [rdNumL_s]
 exact this
theorem rt_take {X : RIn} {a : Nat} {c : UInt8} {t : List UInt8} (hd : X.s.drop a = c :: t) : takeB X ⟨a, false⟩ = (c, ⟨a + 1, false⟩) := by
 obtain ⟨h1, h2, _⟩ := drop_cons hd
 rw [takeB_s, takeB_in h1, h2]
theorem rt_flag {X : RIn} {a : Nat} {v : Bool} {t : List UInt8} (hd : X.s.drop a = bitB v :: t) : rdFlag X ⟨a, false⟩ = (v, ⟨a + 1, false⟩) := by
 unfold rdFlag
 rw [rt_take hd]
 cases v <;> rfl
theorem isNum_len {n : Nat} (h : n ≤ 255) : isNum (n : Int) = true := by
 unfold isNum
 simp
 omega
theorem rt_str {X : RIn} {a : Nat} {l t : List UInt8} (h : l.length ≤ 255) (hd : X.s.drop a = encS l ++ t) : rdStr X ⟨a, false⟩ = (l, ⟨a + (encS l).length, false⟩) := by
 have hd' : X.s.drop a = encN (l.length : Int) ++ (l ++ t) := by rw [hd]; simp [encS]
 have h1 := rt_num (isNum_len h) hd'
 have h2 := drop_next hd'
 have hlen : a + (encN (l.length : Int)).length + (l ++ t).length = X.s.length := drop_len hd' (by
  intro e
  have := (encN_len5 (isNum_len h)).1
  rw [e] at this
  simp at this)
 rw [List.length_append] at hlen
 unfold rdStr
 simp only [h1]
 rw [if_neg (by omega)]
 have e : (X.s.take (a + (encN (l.length : Int)).length + ((l.length : Int)).toNat)).drop (a + (encN (l.length : Int)).length) = l := by
  rw [List.drop_take, h2, Int.toNat_natCast, show a + (encN (l.length : Int)).length + l.length - (a + (encN (l.length : Int)).length) = l.length by omega, List.take_left]
 rw [e]
 simp [encS, Int.toNat_natCast, Nat.add_assoc]
theorem rt_ty {X : RIn} {a : Nat} {y : Ty} {t : List UInt8} (h : isTy y = true) (hd : X.s.drop a = encTy y ++ t) : rdTy X ⟨a, false⟩ = (y, ⟨a + (encTy y).length, false⟩) := by
 unfold isTy at h
 simp only [Bool.and_eq_true, decide_eq_true_eq] at h
 obtain ⟨⟨⟨k1, k2⟩, k3⟩, k4⟩ := h
 have d0 : X.s.drop a = encN y.k ++ (encN y.p ++ (encN y.q ++ (bitB y.v :: (encS y.s ++ t)))) := by rw [hd]; simp [encTy]
 have d1 := drop_next d0
 have d2 := drop_next d1
 have d3 := drop_next d2
 have d4 := (drop_cons d3).2.2
 unfold rdTy
 simp only [rt_num k1 d0, rt_num k2 d1, rt_num k3 d2, rt_flag d3, rt_str (by omega) d4]
 simp only [encTy, List.length_append, List.length_cons, List.length_nil, Prod.mk.injEq, RSt.mk.injEq, and_true, true_and]
 omega
theorem rt_fm {X : RIn} {a : Nat} {y : Fm} {t : List UInt8} (h : isFm y = true) (hd : X.s.drop a = encFm y ++ t) : rdFm X ⟨a, false⟩ = (y, ⟨a + (encFm y).length, false⟩) := by
 unfold isFm at h
 simp only [Bool.and_eq_true, decide_eq_true_eq] at h
 obtain ⟨⟨⟨k1, k2⟩, k3⟩, k4⟩ := h
 have d0 : X.s.drop a = encN y.k ++ (encN y.w ++ (encN y.d ++ (encS y.s ++ t))) := by rw [hd]; simp [encFm]
 have d1 := drop_next d0
 have d2 := drop_next d1
 have d3 := drop_next d2
 unfold rdFm
 simp only [rt_num k1 d0, rt_num k2 d1, rt_num k3 d2, rt_str (by omega) d3]
 simp only [encFm, List.length_append, Prod.mk.injEq, RSt.mk.injEq, and_true, true_and]
 omega
theorem rt_int {X : RIn} {a : Nat} {n : Int} {t : List UInt8} (h : fineI n = true) (hd : X.s.drop a = eI n ++ t) : gI X ⟨a, false⟩ = (n, ⟨a + (eI n).length, false⟩) := by
 have hn : isNum (n + 1) = true := by
  unfold fineI isRg at h
  unfold isNum
  simp at h ⊢
  omega
 unfold gI
 rw [rt_num hn hd, Int.add_sub_cancel]
 rfl
theorem rt_many {α : Type} {X : RIn} (g : RSt → α × RSt) (e : α → List UInt8) : ∀ (l : List α) (a : Nat) (t : List UInt8), (∀ x ∈ l, ∀ (a : Nat) (t : List UInt8), X.s.drop a = e x ++ t → g ⟨a, false⟩ = (x, ⟨a + (e x).length, false⟩)) →
  X.s.drop a = l.flatMap e ++ t → rdList g l.length ⟨a, false⟩ = (l, ⟨a + (l.flatMap e).length, false⟩)
 | [], a, t, _, _ => rfl
 | x :: l, a, t, h, hd => by
  have hd' : X.s.drop a = e x ++ (l.flatMap e ++ t) := by rw [hd]; simp
  have h1 := h x (List.mem_cons_self ..) a _ hd'
  have h2 := rt_many g e l (a + (e x).length) t (fun y hy => h y (List.mem_cons_of_mem _ hy)) (drop_next hd')
  show ((g ⟨a, false⟩).1 :: (rdList g l.length (g ⟨a, false⟩).2).1, (rdList g l.length (g ⟨a, false⟩).2).2) = _
  rw [h1]
  simp only [h2]
  simp [Nat.add_assoc]
theorem rt_lst {α : Type} {X : RIn} (g : RSt → α × RSt) (e : α → List UInt8) (l : List α) (a : Nat) (t : List UInt8) (hl : (l.length : Int) ≤ 16) (h : ∀ x ∈ l, ∀ (a : Nat) (t : List UInt8), X.s.drop a = e x ++ t → g ⟨a, false⟩ = (x, ⟨a + (e x).length, false⟩))
  (hd : X.s.drop a = encLst e l ++ t) : rdLst X g [] ⟨a, false⟩ = (l, ⟨a + (encLst e l).length, false⟩) := by
 have hd' : X.s.drop a = encN (l.length : Int) ++ (l.flatMap e ++ t) := by rw [hd]; simp [encLst]
 have h1 := rt_num (isNum_len (by omega)) hd'
 have h2 := rt_many g e l _ t h (drop_next hd')
 unfold rdLst
 rw [h1]
 simp only
 rw [if_neg (by simp; omega), Int.toNat_natCast, h2]
 simp [encLst, Nat.add_assoc]
theorem orB_eq {n b : Nat} (hn : n < 8388608) (hb : b < 256) : orB (n : Int) (b : Int) = ((n * 256 + b : Nat) : Int) := by
 unfold orB
 have e1 : IntKind.i32.wrap ((n : Int) * 2 ^ 8) = ((n * 256 : Nat) : Int) := by simp [IntKind.wrap, IntKind.bits, IntKind.signed]; omega
 have e2 : IntKind.i32.wrap (b : Int) = (b : Int) := by simp [IntKind.wrap, IntKind.bits, IntKind.signed]; omega
 rw [e1, e2]
 have e3 : (BitVec.ofInt 32 ((n * 256 : Nat) : Int) ||| BitVec.ofInt 32 (b : Int)).toNat = n * 256 + b := by
  rw [BitVec.toNat_or, BitVec.ofInt_natCast, BitVec.ofInt_natCast, BitVec.toNat_ofNat, BitVec.toNat_ofNat, Nat.mod_eq_of_lt (by omega), Nat.mod_eq_of_lt (by omega)]
  have := Nat.two_pow_add_eq_or_of_lt (i := 8) (b := b) (by omega) n
  rw [Nat.mul_comm n 256]
  exact this.symm
 rw [e3]
 simp [IntKind.wrap, IntKind.bits, IntKind.signed]
 omega
theorem byteAt_nat (n : Nat) (s : Nat) : (byteAt (n : Int) s).toNat = n / 2 ^ s % 256 := by
 unfold byteAt
 have : ((n : Int) / (2 ^ s)) % 256 = ((n / 2 ^ s % 256 : Nat) : Int) := by push_cast; rfl
 rw [this, Int.toNat_natCast]
 simp
theorem rt_four {X : RIn} {a n : Nat} {t : List UInt8} (h : n ≤ 1048576) (hd : X.s.drop a = fourB (n : Int) ++ t) : rdFour X ⟨a, false⟩ = ((n : Int), ⟨a + 4, false⟩) := by
 have d0 : X.s.drop a = byteAt n 24 :: byteAt n 16 :: byteAt n 8 :: byteAt n 0 :: t := by rw [hd]; rfl
 have d1 := (drop_cons d0).2.2
 have d2 := (drop_cons d1).2.2
 have d3 := (drop_cons d2).2.2
 unfold rdFour
 simp only [rt_take d0, rt_take d1, rt_take d2, rt_take d3, byteAt_nat]
 have b0 : n / 2 ^ 24 % 256 = 0 := by omega
 have e1 : orB 0 ((n / 2 ^ 24 % 256 : Nat) : Int) = ((n / 2 ^ 24 % 256 : Nat) : Int) := by
  have := orB_eq (n := 0) (b := n / 2 ^ 24 % 256) (by decide) (by omega)
  simpa using this
 rw [e1, orB_eq (by omega) (by omega), orB_eq (by omega) (by omega), orB_eq (by omega) (by omega)]
 have : (n / 2 ^ 24 % 256 * 256 + n / 2 ^ 16 % 256) * 256 + n / 2 ^ 8 % 256 = n / 256 := by omega
 rw [show ((n / 2 ^ 24 % 256 * 256 + n / 2 ^ 16 % 256) * 256 + n / 2 ^ 8 % 256) * 256 + n / 2 ^ 0 % 256 = n by omega]
 simp [IntKind.wrap, IntKind.bits, IntKind.signed]
 omega
theorem rt_neg {X : RIn} {a : Nat} {t : List UInt8} (hd : X.s.drop a = fourB (-1) ++ t) : rdFour X ⟨a, false⟩ = (-1, ⟨a + 4, false⟩) := by
 have d0 : X.s.drop a = 255 :: 255 :: 255 :: 255 :: t := by rw [hd]; rfl
 have d1 := (drop_cons d0).2.2
 have d2 := (drop_cons d1).2.2
 have d3 := (drop_cons d2).2.2
 unfold rdFour
 simp only [rt_take d0, rt_take d1, rt_take d2, rt_take d3]
 rfl
theorem rt_rel {rl : List (Int × Int)} {k p : Int} {r : RSt} (h : relAt k rl = some p) : rdRel rl k r = (p, r) := by
 unfold rdRel
 rw [h]
def Fl.fr (f : Fl) (y : In) : Prop := match f with
 | .L => y.l = []
 | .Y => y.y = []
 | .F => y.f = []
 | _ => True
theorem isPl_nat {n : Int} (h : isPl n = true) : ∃ k : Nat, n = (k : Int) ∧ k ≤ 1048576 := by
 unfold isPl at h
 simp only [Bool.and_eq_true, decide_eq_true_eq] at h
 exact ⟨n.toNat, by omega, by omega⟩
theorem encP_len (n : Int) : (encP n).length = 4 := by unfold encP; split <;> rfl
theorem num_rg {n : Int} (h : isRg n = true) : isNum (n + 1) = true := by
 unfold isRg at h
 unfold isNum
 simp at h ⊢
 omega
theorem rt_fl (f : Fl) (rl : List (Int × Int)) (X : RIn) (a : Nat) (x y : In) (t : List UInt8) (h : f.fineB x = true) (hd : X.s.drop a = f.enc x ++ t) (hr : ∀ q ∈ f.rel x a, relAt q.1 rl = some q.2) (hy : f.fr y) :
  f.rd rl X ⟨a, false⟩ y = (⟨a + (f.enc x).length, false⟩, f.mv x y) := by
 cases f
 case D =>
  show ((rdNum X ⟨a, false⟩).2, Sel.set .D y ((rdNum X ⟨a, false⟩).1 - 1)) = _
  rw [rt_num (num_rg h) hd, Int.add_sub_cancel]; rfl
 case A =>
  show ((rdNum X ⟨a, false⟩).2, Sel.set .A y ((rdNum X ⟨a, false⟩).1 - 1)) = _
  rw [rt_num (num_rg h) hd, Int.add_sub_cancel]; rfl
 case B =>
  show ((rdNum X ⟨a, false⟩).2, Sel.set .B y ((rdNum X ⟨a, false⟩).1 - 1)) = _
  rw [rt_num (num_rg h) hd, Int.add_sub_cancel]; rfl
 case N =>
  show ((rdNum X ⟨a, false⟩).2, Sel.set .N y (rdNum X ⟨a, false⟩).1) = _
  rw [rt_num h hd]; rfl
 case M =>
  show ((rdNum X ⟨a, false⟩).2, Sel.set .M y (rdNum X ⟨a, false⟩).1) = _
  rw [rt_num h hd]; rfl
 case P =>
  show ((rdNum X ⟨a, false⟩).2, Sel.set .P y (rdNum X ⟨a, false⟩).1) = _
  rw [rt_num h hd]; rfl
 case T =>
  show ((rdTy X ⟨a, false⟩).2, TSel.set .T y (rdTy X ⟨a, false⟩).1) = _
  rw [rt_ty h hd]; rfl
 case U =>
  show ((rdTy X ⟨a, false⟩).2, TSel.set .U y (rdTy X ⟨a, false⟩).1) = _
  rw [rt_ty h hd]; rfl
 case W =>
  show ((rdTy X ⟨a, false⟩).2, TSel.set .W y (rdTy X ⟨a, false⟩).1) = _
  rw [rt_ty h hd]; rfl
 case V =>
  have h1 : isNum x.vn = true := and_l h
  have h2 : (x.vs.length : Int) ≤ 255 := of_decide_eq_true (and_r h)
  have d0 : X.s.drop a = encN x.vn ++ (encS x.vs ++ t) := by rw [hd]; simp [Fl.enc]
  show ((rdStr X (rdNum X ⟨a, false⟩).2).2, ({ y with vn := (rdNum X ⟨a, false⟩).1, vs := (rdStr X (rdNum X ⟨a, false⟩).2).1 } : In)) = _
  simp only [rt_num h1 d0, rt_str (by omega) (drop_next d0)]
  simp [Fl.enc, Fl.mv, Nat.add_assoc]
 case L =>
  have h1 : ∀ n ∈ x.l, fineI n = true := List.all_eq_true.1 (and_l h)
  have h2 : (x.l.length : Int) ≤ 16 := of_decide_eq_true (and_r h)
  have hy' : y.l = [] := hy
  show ((rdLst X (gI X) y.l ⟨a, false⟩).2, ({ y with l := (rdLst X (gI X) y.l ⟨a, false⟩).1 } : In)) = _
  rw [hy', rt_lst (gI X) eI x.l a t h2 (fun n hn a t hd => rt_int (h1 n hn) hd) hd]
  rfl
 case Y =>
  have h1 : ∀ n ∈ x.y, isTy n = true := List.all_eq_true.1 (and_l h)
  have h2 : (x.y.length : Int) ≤ 16 := of_decide_eq_true (and_r h)
  have hy' : y.y = [] := hy
  show ((rdLst X (rdTy X) y.y ⟨a, false⟩).2, ({ y with y := (rdLst X (rdTy X) y.y ⟨a, false⟩).1 } : In)) = _
  rw [hy', rt_lst (rdTy X) encTy x.y a t h2 (fun n hn a t hd => rt_ty (h1 n hn) hd) hd]
  rfl
 case F =>
  have h1 : ∀ n ∈ x.f, isFm n = true := List.all_eq_true.1 (and_l h)
  have h2 : (x.f.length : Int) ≤ 16 := of_decide_eq_true (and_r h)
  have hy' : y.f = [] := hy
  show ((rdLst X (rdFm X) y.f ⟨a, false⟩).2, ({ y with f := (rdLst X (rdFm X) y.f ⟨a, false⟩).1 } : In)) = _
  rw [hy', rt_lst (rdFm X) encFm x.f a t h2 (fun n hn a t hd => rt_fm (h1 n hn) hd) hd]
  rfl
 case Sz =>
  show ((rdFlag X ⟨a, false⟩).2, FSel.set .S y (rdFlag X ⟨a, false⟩).1) = _
  rw [rt_flag hd]; rfl
 case Rg =>
  show ((rdFlag X ⟨a, false⟩).2, FSel.set .R y (rdFlag X ⟨a, false⟩).1) = _
  rw [rt_flag hd]; rfl
 case aN =>
  obtain ⟨k, e, hk⟩ := isPl_nat (n := x.n) h
  have hd' : X.s.drop a = fourB (k : Int) ++ t := by rw [← e]; exact hd
  show ((rdFour X ⟨a, false⟩).2, Sel.set .N y (rdFour X ⟨a, false⟩).1) = _
  rw [rt_four hk hd', ← e]; rfl
 case aM =>
  obtain ⟨k, e, hk⟩ := isPl_nat (n := x.m) h
  have hd' : X.s.drop a = fourB (k : Int) ++ t := by rw [← e]; exact hd
  show ((rdFour X ⟨a, false⟩).2, Sel.set .M y (rdFour X ⟨a, false⟩).1) = _
  rw [rt_four hk hd', ← e]; rfl
 case pN =>
  have hn : 0 ≤ x.n := by
   have h' : isPr false x.n = true := h
   unfold isPr at h'
   simp at h'
   omega
  have e : encP x.n = fourB 0 := by unfold encP; rw [if_neg (by omega)]
  have hd' : X.s.drop a = fourB ((0 : Nat) : Int) ++ t := by rw [hd]; show encP x.n ++ t = _; rw [e]; rfl
  have hq := hr ((a : Int), x.n) (by show _ ∈ relP x.n a; unfold relP; rw [if_neg (by omega)]; exact List.mem_singleton.2 rfl)
  show ((rdPr false rl X ⟨a, false⟩ y.n).2, Sel.set .N y (rdPr false rl X ⟨a, false⟩ y.n).1) = (⟨a + (encP x.n).length, false⟩, _)
  unfold rdPr
  rw [rt_four (by decide) hd', encP_len]
  simp only [Bool.false_and, Bool.false_eq_true, if_false]
  rw [if_pos (show ((((0 : Nat) : Int)) == 0) = true from rfl), rt_rel hq]
  rfl
 case pM =>
  have h' : isPr true x.m = true := h
  unfold isPr at h'
  simp at h'
  show ((rdPr true rl X ⟨a, false⟩ y.m).2, Sel.set .M y (rdPr true rl X ⟨a, false⟩ y.m).1) = (⟨a + (encP x.m).length, false⟩, _)
  rw [encP_len]
  by_cases hn : 0 ≤ x.m
  ·have e : encP x.m = fourB 0 := by unfold encP; rw [if_neg (by omega)]
   have hd' : X.s.drop a = fourB ((0 : Nat) : Int) ++ t := by rw [hd]; show encP x.m ++ t = _; rw [e]; rfl
   have hq := hr ((a : Int), x.m) (by show _ ∈ relP x.m a; unfold relP; rw [if_neg (by omega)]; exact List.mem_singleton.2 rfl)
   unfold rdPr
   rw [rt_four (by decide) hd']
   rw [if_neg (show ¬ ((true && (((0 : Nat) : Int) == -1)) = true) from by decide), if_pos (show ((((0 : Nat) : Int)) == 0) = true from rfl), rt_rel hq]
   rfl
  ·have em : x.m = -1 := by omega
   have e : encP x.m = fourB (-1) := by unfold encP; rw [if_pos (by omega)]
   have hd' : X.s.drop a = fourB (-1) ++ t := by rw [hd]; show encP x.m ++ t = _; rw [e]
   unfold rdPr
   rw [rt_neg hd', if_pos (show (true && ((-1 : Int) == -1)) = true from rfl)]
   show (_, Sel.set .M y (-1)) = (_, Sel.set .M y x.m)
   rw [em]
 case far =>
  have h' : isFar x = true := h
  unfold isFar at h'
  simp only [Bool.and_eq_true, decide_eq_true_eq] at h'
  obtain ⟨k, e, hk⟩ : ∃ k : Nat, x.n = (k : Int) ∧ k ≤ 1048576 := ⟨x.n.toNat, by omega, by omega⟩
  have hd' : X.s.drop a = fourB (k : Int) ++ t := by rw [← e]; exact hd
  have hq := hr ((a : Int), x.p) (List.mem_singleton.2 rfl)
  show ((rdFour X (rdRel rl (a : Int) ⟨a, false⟩).2).2, ({ y with p := (rdRel rl (a : Int) ⟨a, false⟩).1, n := (rdFour X (rdRel rl (a : Int) ⟨a, false⟩).2).1 } : In)) = _
  rw [rt_rel hq]
  simp only [rt_four hk hd', ← e]
  rfl
def relL (x : In) : List Fl → Nat → List (Int × Int)
 | [], _ => []
 | f :: l, a => f.rel x a ++ relL x l (a + (f.enc x).length)
theorem putL_eq (x : In) : ∀ (l : List Fl) (s : List UInt8 × List (Int × Int)), putL x l s = (s.1 ++ l.flatMap (fun f => f.enc x), s.2 ++ relL x l s.1.length)
 | [], s => by simp [putL, relL]
 | f :: l, s => by
  show putL x l (s.1 ++ f.enc x, s.2 ++ f.rel x s.1.length) = _
  rw [putL_eq x l]
  simp [relL, List.length_append]
theorem Fl.fr_mv (f g : Fl) (x y : In) (hne : f ≠ g) (h : f.fr y) : f.fr (g.mv x y) := by
 cases f <;> cases g <;> first | exact h | exact absurd rfl hne
theorem rt_list (rl : List (Int × Int)) (X : RIn) (x : In) : ∀ (l : List Fl) (a : Nat) (y : In) (t : List UInt8), l.Nodup → (∀ f ∈ l, f.fineB x = true) → (∀ f ∈ l, f.fr y) → X.s.drop a = l.flatMap (fun f => f.enc x) ++ t → (∀ q ∈ relL x l a, relAt q.1 rl = some q.2) →
  rdL rl X l (⟨a, false⟩, y) = (⟨a + (l.flatMap fun f => f.enc x).length, false⟩, mvL x l y)
 | [], a, y, t, _, _, _, _, _ => rfl
 | f :: l, a, y, t, hn, hf, hy, hd, hr => by
  have hd' : X.s.drop a = f.enc x ++ (l.flatMap (fun f => f.enc x) ++ t) := by rw [hd]; simp
  have hn' := List.nodup_cons.1 hn
  have h1 := rt_fl f rl X a x y _ (hf f (List.mem_cons_self ..)) hd' (fun q hq => hr q (List.mem_append_left _ hq)) (hy f (List.mem_cons_self ..))
  have h2 := rt_list rl X x l (a + (f.enc x).length) (f.mv x y) t hn'.2 (fun g hg => hf g (List.mem_cons_of_mem _ hg))
   (fun g hg => Fl.fr_mv g f x y (fun e => hn'.1 (e ▸ hg)) (hy g (List.mem_cons_of_mem _ hg))) (drop_next hd') (fun q hq => hr q (List.mem_append_right _ hq))
  show rdL rl X l (if (false : Bool) = true then _ else f.rd rl X ⟨a, false⟩ y) = _
  rw [if_neg (by decide), h1, h2]
  simp only [List.flatMap_cons, List.length_append, Nat.add_assoc]
  rfl
theorem rt_ins (rl : List (Int × Int)) (X : RIn) (x : In) (a : Nat) (t : List UInt8) (h : cFine x = true) (hd : X.s.drop a = (cEnc x).1 ++ t) (hr : ∀ q ∈ (cEnc x).2, relAt (q.1 + a) rl = some q.2) :
  cDecR rl X a = (⟨a + (cEnc x).1.length, false⟩, x) ∧ cDecOk rl X a = true := by
 obtain ⟨o, ho, e⟩ : ∃ o, isOp o = true ∧ x.op = (o : Int) := by
  by_cases hop : 1 ≤ x.op ∧ x.op ≤ 38
  ·exact ⟨x.op.toNat, (isOp_iff _).2 (by omega), by omega⟩
  ·have : cFine x = false := by unfold cFine opFind; rw [if_neg hop]
   rw [this] at h; cases h
 have ho' := (isOp_iff o).1 ho
 obtain ⟨q1, q2, q3⟩ := (cFine_iff x o ho e).1 h
 have hfind : opFind x.op = some (opFls o) := by unfold opFind; rw [if_pos (by omega), e]; rfl
 have hnd : (opFls o).Nodup := by
  have := all_ops (p := fun o => decide ((opFls o).Nodup)) kq ho
  simpa using this
 have hE : cEnc x = (UInt8.ofNat o :: (opFls o).flatMap (fun f => f.enc x), relL x (opFls o) 1) := by
  unfold cEnc
  rw [hfind, putL_eq, e]
  simp
 have hx := eqIn_eq q1
 rw [hE] at hd hr
 have hd0 : X.s.drop a = UInt8.ofNat o :: ((opFls o).flatMap (fun f => f.enc x) ++ t) := hd
 have ht := rt_take hd0
 have hb : ((UInt8.ofNat o).toNat : Int) = (o : Int) := by simp; omega
 have hrel : ∀ (l : List Fl) (n : Nat), (∀ q ∈ relL x l n, relAt (q.1 + a) rl = some q.2) → ∀ q ∈ relL x l (a + n), relAt q.1 rl = some q.2 := by
  intro l
  induction l with
  | nil => intro n _ q hq; cases hq
  | cons f l ih =>
   intro n h1 q hq
   rcases List.mem_append.1 hq with hq | hq
   ·have hs : ∃ q' ∈ f.rel x n, q.1 = q'.1 + a ∧ q.2 = q'.2 := by
     cases f <;> simp only [Fl.rel, List.not_mem_nil] at hq
     case pN =>
      unfold relP at hq
      split at hq
      ·cases hq
      ·rename_i hh
       rw [List.mem_singleton.1 hq]
       exact ⟨((n : Int), Sel.get .N x), by show _ ∈ relP _ _; unfold relP; rw [if_neg hh]; exact List.mem_singleton.2 rfl, by simp only; omega, rfl⟩
     case pM =>
      unfold relP at hq
      split at hq
      ·cases hq
      ·rename_i hh
       rw [List.mem_singleton.1 hq]
       exact ⟨((n : Int), Sel.get .M x), by show _ ∈ relP _ _; unfold relP; rw [if_neg hh]; exact List.mem_singleton.2 rfl, by simp only; omega, rfl⟩
     case far =>
      rw [List.mem_singleton.1 hq]
      exact ⟨((n : Int), x.p), List.mem_singleton.2 rfl, by simp only; omega, rfl⟩
    obtain ⟨q', hq', e1, e2⟩ := hs
    rw [e1, e2]
    exact h1 q' (List.mem_append_left _ hq')
   ·rw [Nat.add_assoc] at hq
    exact ih (n + (f.enc x).length) (fun q hq => h1 q (List.mem_append_right _ hq)) q hq
 have hall := List.all_eq_true.1 (by
  have : cFine x = ((opFls o).all (fun f => f.fineB x) && eqIn x (mvL x (opFls o) (emptyI x.op))) := by unfold cFine; rw [hfind]
  rw [this] at h
  exact and_l h)
 have hR : cDecR rl X a = (⟨a + (cEnc x).1.length, false⟩, x) := by
  unfold cDecR
  rw [ht]
  simp only
  rw [hb, ← e, hfind]
  have := rt_list rl X x (opFls o) (a + 1) (emptyI x.op) t hnd hall (fun f _ => by cases f <;> first | rfl | trivial) (drop_cons hd0).2.2 (hrel (opFls o) 1 hr)
  show rdL rl X (opFls o) (⟨a + 1, false⟩, emptyI x.op) = _
  rw [this, hx, hE]
  simp only [List.length_cons, Nat.add_assoc, Nat.add_comm 1]
 refine ⟨hR, ?_⟩
 unfold cDecOk
 rw [hR, ht, hb, ← e, hfind, h]
 rfl
def Ext (X Y : RIn) : Prop := ∃ t, Y.s = X.s ++ t
section
variable {X Y : RIn} (hE : Ext X Y)
include hE
omit hE in
omit hE in
omit hE in
end
def Fl.pr (f : Fl) : Bool := match f with
 | .pN | .pM | .far => true
 | _ => false
theorem relp_len (f : Fl) (x : In) (n : Nat) : (f.rel x n).length ≤ if f.pr = true then 1 else 0 := by
 cases f <;> simp [Fl.rel, Fl.pr, relP]
 all_goals split <;> simp
theorem relL_len (x : In) : ∀ (l : List Fl) (n : Nat), (relL x l n).length ≤ (l.filter Fl.pr).length
 | [], _ => Nat.le_refl _
 | f :: l, n => by
  have h1 := relp_len f x n
  have h2 := relL_len x l (n + (f.enc x).length)
  show (f.rel x n ++ relL x l (n + (f.enc x).length)).length ≤ _
  rw [List.length_append]
  by_cases hp : f.pr = true
  ·rw [if_pos hp] at h1
   rw [List.filter_cons_of_pos hp, List.length_cons]
   omega
  ·rw [if_neg hp] at h1
   rw [List.filter_cons_of_neg (by simpa using hp)]
   omega
theorem cEnc_rel1 {x : In} (h : cFine x = true) : (cEnc x).2.length ≤ 1 := by
 have hop : 1 ≤ x.op ∧ x.op ≤ 38 := by
  by_cases hop : 1 ≤ x.op ∧ x.op ≤ 38
  ·exact hop
  ·have : cFine x = false := by unfold cFine opFind; rw [if_neg hop]
   rw [this] at h; cases h
 have ho : isOp x.op.toNat = true := (isOp_iff _).2 (by omega)
 have hfind : opFind x.op = some (opFls x.op.toNat) := by unfold opFind; rw [if_pos hop]
 unfold cEnc
 rw [hfind, putL_eq]
 have h1 := relL_len x (opFls x.op.toNat) 1
 have h2 := all_ops (p := fun o => decide (((opFls o).filter Fl.pr).length ≤ 1)) kq ho
 simp only [decide_eq_true_eq] at h2
 simp only [List.nil_append, Option.getD_some]
 exact Nat.le_trans h1 h2
theorem cEnc_rel {x : In} (h : cFine x = true) : ∀ q ∈ (cEnc x).2, relAt q.1 (cEnc x).2 = some q.2 := by
 intro q hq
 have h1 := cEnc_rel1 h
 match e : (cEnc x).2, h1 with
 | [], _ => rw [e] at hq; cases hq
 | [r], _ =>
  rw [e] at hq
  rw [List.mem_singleton.1 hq]
  simp [relAt]
end Go.Proofs
end
section
namespace Go.SX
def setl (g : Nat) (b : Bool) : RV → RV
 | .grd g' pol c x => match Nat.beq g' g with
  | true => match pol, b with
   | true, true | false, false => .v x
   | _, _ => .v (.one (.val undef))
  | false => .grd g' pol c x
 | v => v
def settleS (g : Nat) (b : Bool) : List (Nat × RV) → List (Nat × RV)
 | [] => []
 | (k, v) :: l => (k, setl g b v) :: settleS g b l
theorem look_settleS {g : Nat} {b : Bool} : ∀ {l : List (Nat × RV)} {i : Nat}, look (settleS g b l) i = (look l i).map (setl g b)
 | [], i => rfl
 | (k, v) :: l, i => by
  simp only [settleS, look]
  cases Nat.beq k i with
  | true => rfl
  | false => exact look_settleS
def lessNat (g : Nat) : List Nat → List Nat
 | [] => []
 | k :: l => match Nat.beq k g with
  | true => lessNat g l
  | false => k :: lessNat g l
theorem hasNat_less {g i : Nat} : ∀ {l : List Nat}, hasNat l i = true → g ≠ i → hasNat (lessNat g l) i = true
 | [], h, _ => h
 | k :: l, h, hn => by
  simp only [lessNat]
  simp only [hasNat] at h
  cases e : Nat.beq k g with
  | true =>
   have := Nat.eq_of_beq_eq_true e
   subst this
   cases e2 : Nat.beq k i with
   | true => exact absurd (Nat.eq_of_beq_eq_true e2) hn
   | false => rw [e2] at h; exact hasNat_less h hn
  | false =>
   simp only [hasNat]
   cases e2 : Nat.beq k i with
   | true => rfl
   | false => rw [e2] at h; exact hasNat_less h hn
variable {C : Ctx}
theorem V.settle (g : Nat) (b e : Bool) {c : Cfg} (hl : look c.st.slots g = some (.v (.one (.sb e)))) (he : e = b)
  (h : V C ⟨c.todo, { c.st with slots := upd (settleS g b c.st.slots) g (.v (.one (.bool b))), gs := lessNat g c.st.gs }⟩) : V C c := by
 subst he
 intro ρ a w hS
 refine h ρ a w ⟨hS.n, fun i v hv => ?_, fun i g' pol c' x hv => ?_, hS.heap, hS.inj, hS.lt, hS.defers, hS.chg, hS.rows, hS.rowsD, hS.pers, hS.fix⟩
 ·simp only [look_upd] at hv
  by_cases ei : g = i
  ·rw [if_pos ei] at hv
   cases hv
   subst ei
   exact ⟨(hS.slots g _ hl).1, trivial⟩
  ·rw [if_neg ei, look_settleS] at hv
   cases h0 : look c.st.slots i with
   | none => rw [h0] at hv; cases hv
   | some v0 =>
    rw [h0] at hv
    cases hv
    obtain ⟨k1, k2⟩ := hS.slots i v0 h0
    cases v0 with
    | grd g' pol c' x =>
     simp only [setl]
     cases eg : Nat.beq g' g with
     | false => exact ⟨k1, k2⟩
     | true =>
      have := Nat.eq_of_beq_eq_true eg
      subst this
      have k3 := (hS.grds i g' pol c' x h0).2
      rw [hl] at k3
      cases k3
      cases pol <;> cases e
      ·exact ⟨k1, k2 rfl⟩
      ·exact ⟨k1, trivial⟩
      ·exact ⟨k1, trivial⟩
      ·exact ⟨k1, k2 rfl⟩
    | v x => exact ⟨k1, k2⟩
    | _ => exact ⟨k1, k2⟩
 ·simp only [look_upd] at hv ⊢
  by_cases ei : g = i
  ·rw [if_pos ei] at hv; cases hv
  ·rw [if_neg ei, look_settleS] at hv
   cases h0 : look c.st.slots i with
   | none => rw [h0] at hv; cases hv
   | some v0 =>
    rw [h0] at hv
    cases v0 with
    | grd g2 pol2 c2 x2 =>
     simp only [Option.map_some, setl] at hv
     cases eg : Nat.beq g2 g with
     | true => rw [eg] at hv; cases pol2 <;> cases e <;> cases hv
     | false =>
      rw [eg] at hv
      cases hv
      obtain ⟨k1, k2⟩ := hS.grds i g' pol c' x h0
      have hne : g ≠ g' := fun e' => by subst e'; rw [Nat.beq_refl] at eg; cases eg
      refine ⟨hasNat_less k1 hne, ?_⟩
      rw [if_neg hne, look_settleS, k2]
      rfl
    | v x => cases hv
    | _ => cases hv
end Go.SX
end
section
namespace Go.Proofs
open Go Go.SX
set_option maxRecDepth 10000
noncomputable def slSt (x : In) (A : IA) (n : Int) (i : Nat) : St :=
 { n := 73, slots := [(1, .v (.one (.ptr 0 0))), (3, .v (.one (.int .i64 n))), (28, .v (.one (.row 2 A.qy x.y.length A.cy))), (29, .v (.one (.int .i64 (x.y.length : Int)))), (30, .v (.one (.int .i64 (i : Int))))], gs := [],
    heap := [(0, seB x A 0)], next := 1, rows := [(0, rowF x A), (1, rowI x A), (2, rowT x A)], nr := 3, pers := [], wr := true, fx := 0 }
noncomputable def slSt2 (x : In) (A : IA) (n : Int) (i : Nat) : St :=
 { n := 73, slots := [(1, .v (.one (.ptr 0 0))), (3, .v (.one (.int .i64 n))), (41, .v (.one (.row 0 A.qf x.f.length A.cf))), (42, .v (.one (.int .i64 (x.f.length : Int)))), (43, .v (.one (.int .i64 (i : Int))))], gs := [],
    heap := [(0, seB x A 0)], next := 1, rows := [(0, rowF x A), (1, rowI x A), (2, rowT x A)], nr := 3, pers := [], wr := true, fx := 0 }
structure SlI where
 n : Int
 i : Nat
theorem wrapL {i n : Nat} (h : i < n) (hn : n ≤ maxLen) : IntKind.i64.wrap ((i : Int) + 1) = ((i + 1 : Nat) : Int) := by
 unfold maxLen at hn
 simp [IntKind.wrap, IntKind.bits, IntKind.signed]
 omega
set_option maxHeartbeats 2000000 in
theorem cSlimF (x : In) (A : IA) (hf : x.f.length ≤ maxLen) (hy : x.y.length ≤ maxLen) : CallsK Tryz.prog 52 [.agg (inV x A)] (stP (lsP x A)) (fun b : Bool => b = false → x.okL) (fun b => .v (.one (.sb b))) (fun _ => noF) := by
 refine CallsK.mk true Tryz.func52 kq kq (fun ρ0 w0 => ?_)
 refine V.q ?_
 refine V.factRow 0 (rowF x A) kq rfl ?_
 refine V.factRow 1 (rowI x A) kq rfl ?_
 refine V.factRow 2 (rowT x A) kq rfl ?_
 refine V.cellRow 0 24 0 ⟨inV x A, 30, true⟩ (rowF x A) kq kq kq ?_
 refine V.cellRow 0 25 1 ⟨inC x (.row 0 A.qf x.f.length A.cf) (.val (.slice A.ql x.l.length A.cl)) (.val (.slice A.qy x.y.length A.cy)), 30, true⟩ (rowI x A) kq kq kq ?_
 refine V.cellRow 0 26 2 ⟨inC x (.row 0 A.qf x.f.length A.cf) (.row 1 A.ql x.l.length A.cl) (.val (.slice A.qy x.y.length A.cy)), 30, true⟩ (rowT x A) kq kq kq ?_
 refine V.slotRow 28 2 (rowT x A) kq kq kq ?_
 refine V.iter ?_
 refine V.loopTo [1, 3, 28, 29, 30] [0] [0, 1, 2] [] (fun j : SlI => x.y.length - j.i) (fun j => slSt x A j.n j.i) (fun j => j.i ≤ x.y.length) ⟨IntKind.i64.wrap (IntKind.i64.wrap (IntKind.i64.wrap ((x.vs.length : Int) + x.t.s.length) + x.u.s.length) + x.w.s.length), 0⟩ kq (Nat.zero_le _) (fun j hj ih => ?_)
 obtain ⟨n, i⟩ := j
 simp only at hj
 refine V.q ?_
 refine V.branch 31 (decide ((i : Int) < (x.y.length : Int))) kq (fun hc => ?_) (fun hc => ?_)
 ·have hlt : i < x.y.length := by simpa using hc
  have key := ih ⟨IntKind.i64.wrap (n + ((x.y.getD i ty0).s.length : Int)), i + 1⟩ hlt (by simp only; omega)
  refine V.runT [] [(0 : Int) ≤ i ∧ (i : Int) < x.y.length] kq kq ⟨by omega, by omega⟩ ?_
  refine V.slotAs 30 (.one (.int .i64 (IntKind.i64.wrap ((i : Int) + 1)))) (.one (.int .i64 ((i + 1 : Nat) : Int))) kq kq (fun _ => by rw [wrapL hlt hy]) ?_
  refine V.iter ?_
  exact V.back [1, 3, 28, 29, 30] [0] [0, 1, 2] [] key kq kq
 ·refine V.q ?_
  refine V.iter ?_
  refine V.loopTo [1, 3, 41, 42, 43] [0] [0, 1, 2] [] (fun j : SlI => x.f.length - j.i) (fun j => slSt2 x A j.n j.i) (fun j => j.i ≤ x.f.length) ⟨n, 0⟩ kq (Nat.zero_le _) (fun j hj ih => ?_)
  obtain ⟨n, i⟩ := j
  simp only at hj
  refine V.q ?_
  refine V.branch 44 (decide ((i : Int) < (x.f.length : Int))) kq (fun hc => ?_) (fun hc => ?_)
  ·have hlt : i < x.f.length := by simpa using hc
   have key := ih ⟨IntKind.i64.wrap (n + ((x.f.getD i fm0).s.length : Int)), i + 1⟩ hlt (by simp only; omega)
   refine V.runT [] [(0 : Int) ≤ i ∧ (i : Int) < x.f.length] kq kq ⟨by omega, by omega⟩ ?_
   refine V.slotAs 43 (.one (.int .i64 (IntKind.i64.wrap ((i : Int) + 1)))) (.one (.int .i64 ((i + 1 : Nat) : Int))) kq kq (fun _ => by rw [wrapL hlt hf]) ?_
   refine V.iter ?_
   exact V.back [1, 3, 41, 42, 43] [0] [0, 1, 2] [] key kq kq
  ·refine V.q ?_
   exact V.retK (decide ((x.f.length : Int) > 20) || decide ((x.l.length : Int) > 20) || decide ((x.y.length : Int) > 20) || decide (n > 20000) : Bool) [] kq kq kq (fun h => by
    simp only [Bool.or_eq_false_iff, decide_eq_false_iff_not] at h
    exact ⟨by omega, by omega, by omega⟩)
theorem blk_row {α : Type} (f : α → List SV) (d : α) (l : List α) (g : Nat) (e : TypeId) (sz : Nat) (hf : ∀ x, (f x).length = sz) (hpl : ∀ x, ∀ y ∈ f x, y.plain) (hm : l.length ≤ maxLen) :
  (∀ k, (rowP (rowL f d l (some ⟨g, 0, none⟩) l.length e sz false)).D k → ∃ q ∈ [blkP g (l.flatMap f) e], q.D k) ∧ (∀ w, (∀ q ∈ [blkP g (l.flatMap f) e], q.φ w) → (rowP (rowL f d l (some ⟨g, 0, none⟩) l.length e sz false)).φ w) :=
 ⟨fun k hk => ⟨_, List.mem_singleton.2 rfl, by
  obtain ⟨a, h1, h2, _⟩ := hk
  have h1' : (some ⟨g, 0, none⟩ : Option Addr) = some a := h1
  cases h1'
  exact h2.symm⟩, fun w hw => rowP_of_blk hf hpl hm w (hw _ (List.mem_singleton.2 rfl))⟩
def pastL : List Item → List Item
 | .inLoop _ :: k => k
 | _ :: k => pastL k
 | [] => []
noncomputable def snT2 : List Item := skipU 100 (pastL (skipU 100 [.code (bodyOf Tryz.f14)]))
noncomputable def snSt2 (n0 : Nat) (S : Nat → Prop) (g : Nat) : St :=
 { n := 242, slots := [(11, .v (.one (.ptr 0 0))), (101, .v (.one (.int .i64 4))), (102, .v (.one (.int .i64 4)))], gs := [], heap := [(0, ⟨inV sx4 (sA4 g), 30, true⟩)], next := 1, rows := [], nr := 0,
    pers := [newP n0 S (rowP (rowI sx4 (sA4 g))), newP n0 S (rowP (rowT zeroI IA0)), newP n0 S (rowP (rowI zeroI IA0)), newP n0 S (rowP (rowF zeroI IA0)), glbP], wr := true, fx := 0 }
theorem rlv_plain (x : Int × Int) : ∀ y ∈ rlv x, y.plain := fun y hy => by
 simp only [rlv, List.mem_cons, List.not_mem_nil, or_false] at hy
 rcases hy with rfl | rfl <;> trivial
theorem e3_okL : (emptyI 3).okL := ⟨by decide, by decide, by decide⟩
theorem e0_okL : (emptyI 0).okL := ⟨by decide, by decide, by decide⟩
noncomputable def aBlank5 : Con Tryz.prog := Con.auto Tryz.func49 true [] [] kq kq
def blankC (op : Int) : List SV := (inV (emptyI op) IA0).map fun y => match y with
 | .sb b => .bool b
 | y => y
set_option maxHeartbeats 4000000 in
theorem sane_rest (ρ0 : Nat → Nat) (w0 : World) (g : Nat) : V ⟨Tryz.prog, 14, GivesK ρ0 glbF (fun _ : Unit => True) (fun _ => .v (.one (.sb true))) (fun _ => noF) w0, touch ρ0 glbF, w0, ρ0, none⟩ ⟨snT2, snSt2 w0.heap.size (touch ρ0 glbF) g⟩ := by
 refine V.q ?_
 refine V.known 103 (decide ((4 : Int) < 4)) false kq (by decide) ?_
 refine V.q ?_
 refine V.callK [(4, false), (3, true), (0, true), (1, true)] (xEncode sx4 (sA4 g) sx4_okL sx4_fine) kq kq kq (fun _ => kq) (fun qc4 _ => ?_)
 refine V.q ?_
 refine V.freeze 0 (rowL rlv (0, 0) [(2, 5)] qc4.1 qc4.2 62 2 true) kq kq ?_
 refine V.callK [] (xReadNumber [128, 0] 0 (by decide)) kq kq kq (fun _ => kq) (fun _ _ => ?_)
 refine V.q ?_
 refine V.callK [(5, false)] (xParseNo [83, 84, 69, 80, 32, 48, 49, 48] [[83, 84, 69, 80], [48, 49, 48]] kq (by decide) kq (by decide) (pok_of (o0 := 1) kq kq) kq) kq kq kq (fun _ => kq) (fun _ _ => ?_)
 refine V.q ?_
 refine V.callK [(5, false)] xAsm kq kq kq (fun _ => kq) (fun qc5 _ => ?_)
 refine V.q ?_
 refine V.callK [(6, false), (0, true)] (xPlaces [] ⟨asB, qc5.1, 0, qc5.2⟩ rfl (by decide) (by show 7 ≤ 100000000; decide) 0 4 ([asX1, asX2], [0, 2, 7]) (asV _ _)) kq kq kq (fun _ => kq) (fun qc6 _ => ?_)
 refine V.q ?_
 refine V.settle 205 true ((0 : Int) == 0) kq (by decide) ?_
 refine V.q ?_
 refine V.absB 3 ⟨[.int .i64 2, .int .i64 5], 62, true⟩ kq kq (fun _ => kq) (fun g1 => ?_)
 refine V.persNew [(0, true)] [blkP g1 [.int .i64 2, .int .i64 5] 62] (rowP (rowL rlv (0, 0) [(2, 5)] (some ⟨g1, 0, none⟩) 1 62 2 false)) kq kq (blk_row rlv (0, 0) [(2, 5)] g1 62 2 (fun _ => rfl) rlv_plain (by decide)).1 (blk_row rlv (0, 0) [(2, 5)] g1 62 2 (fun _ => rfl) rlv_plain (by decide)).2 (rowP_stab _) ?_
 refine V.callK [(4, true), (0, true)] (cEqR [(2, 5)] [(2, 5)] qc4.1 (some ⟨g1, 0, none⟩) qc4.2 1 (by decide)) kq kq kq (fun _ => kq) (fun _ _ => ?_)
 refine V.q ?_
 refine V.settle 227 true true kq rfl ?_
 refine V.q ?_
 refine V.absB 3 ⟨[.int .i64 0, .int .i64 2, .int .i64 7], 3, true⟩ kq kq (fun _ => kq) (fun g2 => ?_)
 refine V.persNew [(0, true)] [blkP g2 [.int .i64 0, .int .i64 2, .int .i64 7] 3] (rowP (rowL intv 0 [0, 2, 7] (some ⟨g2, 0, none⟩) 3 3 1 false)) kq kq (blk_row intv 0 [0, 2, 7] g2 3 1 (fun _ => rfl) intv_plain (by decide)).1 (blk_row intv 0 [0, 2, 7] g2 3 1 (fun _ => rfl) intv_plain (by decide)).2 (rowP_stab _) ?_
 refine V.callK [(4, true), (0, true)] (cEqI [0, 2, 7] [0, 2, 7] qc6.1 (some ⟨g2, 0, none⟩) qc6.2 3 (by decide)) kq kq kq (fun _ => kq) (fun _ _ => ?_)
 refine V.q ?_
 refine V.settle 232 true true kq rfl ?_
 refine V.runT [⟨aBlank5, []⟩] [] kq kq trivial ?_
 refine V.slotAs 233 (.agg (blankC 3)) (.agg (inV (emptyI 3) IA0)) kq kq (fun _ => rfl) ?_
 refine V.callK [(11, false), (10, true), (9, true), (8, true)] (xCheck (emptyI 3) IA0 e3_okL) kq kq kq (fun _ => kq) (fun _ _ => ?_)
 refine V.q ?_
 refine V.settle 237 true true kq rfl ?_
 refine V.runT [⟨aBlank5, []⟩] [] kq kq trivial ?_
 refine V.slotAs 238 (.agg (blankC 0)) (.agg (inV (emptyI 0) IA0)) kq kq (fun _ => rfl) ?_
 refine V.callK [(11, false), (10, true), (9, true), (8, true)] (xCheck (emptyI 0) IA0 e0_okL) kq kq kq (fun _ => kq) (fun _ _ => ?_)
 refine V.q ?_
 exact V.z
def snT : List (Int × List UInt8) := [(0, [0]), (-1, [1]), (1, [2]), (63, [126]), (64, [128, 1]), (-64, [127]), (-65, [129, 1])]
def snL : Nat → List (Int × List UInt8) → List MapEntry
 | _, [] => []
 | i, p :: l => { key := .int .i64 p.1, val := .string ⟨p.2.toArray⟩, born := i } :: snL (i + 1) l
def snEs : Array MapEntry := (snL 0 snT).toArray
theorem snL_mem : ∀ {l : List (Int × List UInt8)} {i : Nat} {e : MapEntry}, e ∈ snL i l → ∃ p ∈ l, e.key = .int .i64 p.1 ∧ e.val = .string ⟨p.2.toArray⟩ ∧ e.born < i + l.length
 | [], i, e, h => by simp [snL] at h
 | p :: l, i, e, h => by
  simp only [snL, List.mem_cons] at h
  rcases h with rfl | h
  ·exact ⟨p, List.mem_cons_self .., rfl, rfl, by simp⟩
  ·obtain ⟨p', h1, h2, h3, h4⟩ := snL_mem h
   exact ⟨p', List.mem_cons_of_mem _ h1, h2, h3, by simp only [List.length_cons]; omega⟩
theorem snT_num (p : Int × List UInt8) (h : p ∈ snT) : isNum p.1 = true ∧ encN p.1 = p.2 ∧ rnV p.2 0 = .tup [.one (.int .i64 p.1), .one (.int .i64 (p.2.length : Int)), .one (.int .i64 0)] ∧ p.2.length ≤ 1000000000 := by
 unfold snT at h
 simp only [List.mem_cons, List.not_mem_nil, or_false] at h
 rcases h with rfl | rfl | rfl | rfl | rfl | rfl | rfl <;> exact ⟨by decide, by decide, kq, by decide⟩
theorem snN (p : Int × List UInt8) (h : p ∈ snT) : CallsK Tryz.prog 16 [.one (.int .i64 p.1)] noF (fun _ : Unit => True) (fun _ => .tup [.one (.str p.2), .one (.int .i64 0)]) (fun _ => noF) := by
 have h1 := xNumber p.1
 rw [(snT_num p h).1, (snT_num p h).2.1] at h1
 exact h1
theorem snR (p : Int × List UInt8) (h : p ∈ snT) : CallsK Tryz.prog 18 [.one (.str p.2), .one (.int .i64 0)] noF (fun _ : Unit => True) (fun _ => .tup [.one (.int .i64 p.1), .one (.int .i64 (p.2.length : Int)), .one (.int .i64 0)]) (fun _ => noF) := by
 have h1 := xReadNumber p.2 0 (snT_num p h).2.2.2
 rw [(snT_num p h).2.2.1] at h1
 exact h1
def snSt (n0 : Nat) (S : Nat → Prop) (gL it : Nat) (seen : Array Nat) : St :=
 { n := 242, slots := [(39, .v (.one (.val (.pointer (some ⟨it, 0, none⟩)))))], gs := [], heap := [], next := 0,
    rows := [(0, objRow it (.mapIter (some gL) 7 seen 7))], nr := 1, pers := [newP n0 S (objP gL (.map snEs 7)), glbP], wr := true, fx := 0 }
theorem sn_born : ∀ x ∈ snEs.toList, x.born < 7 := fun e he => by
 obtain ⟨p, _, _, _, h⟩ := snL_mem (l := snT) (i := 0) he
 simpa [snT] using h
theorem sn_nodup : (snEs.toList.map (·.born)).Nodup := by
 show [0, 1, 2, 3, 4, 5, 6].Nodup
 decide
noncomputable def aBlank : Con Tryz.prog := Con.auto Tryz.func49 true [] [] kq kq
theorem sx4_l (g : Nat) : (∀ k, (rowP (rowI sx4 (sA4 g))).D k → ∃ q ∈ [blkP g [.int .i64 2] 3], q.D k) ∧ (∀ w, (∀ q ∈ [blkP g [.int .i64 2] 3], q.φ w) → (rowP (rowI sx4 (sA4 g))).φ w) :=
 ⟨fun k hk => ⟨_, List.mem_singleton.2 rfl, by
  obtain ⟨a, h1, h2, _⟩ := hk
  have h1' : (some ⟨g, 0, none⟩ : Option Addr) = some a := h1
  cases h1'
  exact h2.symm⟩, fun w hw => rowP_of_blk (f := intv) (d := 0) (l := [2]) (e := 3) (sz := 1) (fun _ => rfl) (fun x y hy => by rw [List.mem_singleton.1 hy]; trivial) (by decide) w (hw _ (List.mem_singleton.2 rfl))⟩
set_option maxHeartbeats 4000000 in
theorem sane_ : CallsK Tryz.prog 14 [] glbF (fun _ : Unit => True) (fun _ => .v (.one (.sb true))) (fun _ => noF) := by
 refine CallsK.mk true Tryz.func14 kq kq (fun ρ0 w0 => ?_)
 refine V.q ?_
 refine V.mkMap 86 kq (fun _ => kq) (fun gL => ?_)
 refine V.runM [] 0 7 [] (List.replicate 7 (gL, gL)) kq kq trivial (fun p hp => by rw [List.eq_of_mem_replicate hp]) ?_
 refine V.q ?_
 refine V.freezeObj 0 gL (.map snEs 7) kq ?_
 refine V.range 86 3 9 gL snEs 7 kq kq (fun ρ a w hS => hS.objN (n0 := w0.heap.size) (S := touch ρ0 glbF) 0 kq) (fun _ => kq) (fun it => ?_)
 refine V.q ?_
 refine V.iter ?_
 refine V.loopTo [39] [] [1] [true, true] (fun seen : Array Nat => (leftOf snEs seen).size) (snSt w0.heap.size (touch ρ0 glbF) gL it) (fun _ => True) #[] kq trivial (fun seen _ ih => ?_)
 refine V.q ?_
 refine V.next it 0 gL 7 7 7 seen snEs kq kq (fun ρ a w hS => hS.objN (n0 := w0.heap.size) (S := touch ρ0 glbF) 0 kq) sn_born (Nat.le_refl _) kq (fun e he => kq) (fun hsz => ?_) (fun e he => ?_)
 ·refine V.runT [⟨aBlank, []⟩] [] kq kq trivial ?_
  refine V.soft 5 ?_
  refine V.soft 3 ?_
  refine V.absB 4 ⟨[.int .i64 2], 3, true⟩ kq kq (fun _ => kq) (fun g => ?_)
  refine V.persNew [] [] (rowP (rowF zeroI IA0)) kq kq (fun k hk => absurd hk ((row_none (R := rowF zeroI IA0) rfl rfl rfl).1 k)) (fun w _ => (row_none (R := rowF zeroI IA0) rfl rfl rfl).2 w) (rowP_stab _) ?_
  refine V.persNew [] [] (rowP (rowI zeroI IA0)) kq kq (fun k hk => absurd hk ((row_none (R := rowI zeroI IA0) rfl rfl rfl).1 k)) (fun w _ => (row_none (R := rowI zeroI IA0) rfl rfl rfl).2 w) (rowP_stab _) ?_
  refine V.persNew [] [] (rowP (rowT zeroI IA0)) kq kq (fun k hk => absurd hk ((row_none (R := rowT zeroI IA0) rfl rfl rfl).1 k)) (fun w _ => (row_none (R := rowT zeroI IA0) rfl rfl rfl).2 w) (rowP_stab _) ?_
  refine V.persNew [(3, true)] [blkP g [.int .i64 2] 3] (rowP (rowI sx4 (sA4 g))) kq kq (sx4_l g).1 (sx4_l g).2 (rowP_stab _) ?_
  refine V.iter ?_
  refine V.q ?_
  refine V.known 103 (decide ((0 : Int) < 4)) true kq (by decide) ?_
  refine V.runT [] [(0 : Int) ≤ 0 ∧ (0 : Int) < 4] kq kq ⟨by decide, by decide⟩ ?_
  refine V.callK [(6, false), (3, true), (2, true), (1, true)] (xEncode sx1 IA0 sx1_okL sx1_fine) kq kq kq (fun _ => kq) (fun qc0 _ => ?_)
  refine V.q ?_
  refine V.freeze 1 (rowL rlv (0, 0) [] qc0.1 qc0.2 62 2 true) kq kq ?_
  refine V.callK [(7, false), (0, true)] (xDecode [] ⟨[3, 8, 2], qc0.1, 0, qc0.2⟩ rfl (by decide) 0 ⟨by show 3 ≤ 1000000000; decide, Nat.zero_le _⟩ kq) kq kq kq (fun _ => kq) (fun yd0 hd0 => ?_)
  obtain ⟨d0, D0⟩ := yd0
  have ed0 : d0 = sx1 := hd0.trans (sx1_dec qc0.1 qc0.2)
  subst ed0
  refine V.q ?_
  refine V.callK [(10, false), (7, true), (6, true), (5, true)] (xText sx1 IA0 sx1_okL 3 kq kq kq sx1_fine) kq kq kq (fun _ => kq) (fun _ _ => ?_)
  refine V.q ?_
  refine V.callK [(10, false)] (xParse [77, 79, 86, 69, 32, 114, 51, 32, 114, 48] [[77, 79, 86, 69], [114, 51], [114, 48]] sx1 kq (by decide) kq (by decide) (pok_of sx1_find sx1_pok) sx1_read) kq kq kq (fun _ => kq) (fun yp0 hp0 => ?_)
  obtain ⟨p0, P0⟩ := yp0
  have ep0 : p0 = sx1 := hp0
  subst ep0
  refine V.persAs [(10, true)] [rowP (rowF sx1 IA0)] (rowP (rowF sx1 IA0)) kq (fun k hk => ⟨_, List.mem_singleton.2 rfl, hk⟩) (fun w hw => hw _ (List.mem_singleton.2 rfl)) (rowP_stab _) ?_
  refine V.persAs [(10, true)] [rowP (rowI sx1 IA0)] (rowP (rowI sx1 IA0)) kq (fun k hk => ⟨_, List.mem_singleton.2 rfl, hk⟩) (fun w hw => hw _ (List.mem_singleton.2 rfl)) (rowP_stab _) ?_
  refine V.persAs [(10, true)] [rowP (rowT sx1 IA0)] (rowP (rowT sx1 IA0)) kq (fun k hk => ⟨_, List.mem_singleton.2 rfl, hk⟩) (fun w hw => hw _ (List.mem_singleton.2 rfl)) (rowP_stab _) ?_
  refine V.persAs [(6, true)] [rowP (rowF sx1 D0)] (rowP (rowF sx1 D0)) kq (fun k hk => ⟨_, List.mem_singleton.2 rfl, hk⟩) (fun w hw => hw _ (List.mem_singleton.2 rfl)) (rowP_stab _) ?_
  refine V.persAs [(8, true)] [rowP (rowI sx1 D0)] (rowP (rowI sx1 D0)) kq (fun k hk => ⟨_, List.mem_singleton.2 rfl, hk⟩) (fun w hw => hw _ (List.mem_singleton.2 rfl)) (rowP_stab _) ?_
  refine V.persAs [(10, true)] [rowP (rowT sx1 D0)] (rowP (rowT sx1 D0)) kq (fun k hk => ⟨_, List.mem_singleton.2 rfl, hk⟩) (fun w hw => hw _ (List.mem_singleton.2 rfl)) (rowP_stab _) ?_
  refine V.persAs [(6, true)] [rowP (rowF sx1 P0)] (rowP (rowF sx1 P0)) kq (fun k hk => ⟨_, List.mem_singleton.2 rfl, hk⟩) (fun w hw => hw _ (List.mem_singleton.2 rfl)) (rowP_stab _) ?_
  refine V.persAs [(8, true)] [rowP (rowI sx1 P0)] (rowP (rowI sx1 P0)) kq (fun k hk => ⟨_, List.mem_singleton.2 rfl, hk⟩) (fun w hw => hw _ (List.mem_singleton.2 rfl)) (rowP_stab _) ?_
  refine V.persAs [(10, true)] [rowP (rowT sx1 P0)] (rowP (rowT sx1 P0)) kq (fun k hk => ⟨_, List.mem_singleton.2 rfl, hk⟩) (fun w hw => hw _ (List.mem_singleton.2 rfl)) (rowP_stab _) ?_
  refine V.runT [⟨sSame2 sx1 IA0 P0 D0 sx1_okL, [17, 18, 19, 20, 21, 22, 14, 15, 16]⟩] [((false = false) → (([.agg (inV sx1 D0), .agg (inV sx1 IA0)] : List CV) = [.agg (inV sx1 D0), .agg (inV sx1 IA0)] ∨ ([.agg (inV sx1 D0), .agg (inV sx1 IA0)] : List CV) = [.agg (inV sx1 P0), .agg (inV sx1 IA0)])), ((false = false) → (([.agg (inV sx1 P0), .agg (inV sx1 IA0)] : List CV) = [.agg (inV sx1 D0), .agg (inV sx1 IA0)] ∨ ([.agg (inV sx1 P0), .agg (inV sx1 IA0)] : List CV) = [.agg (inV sx1 P0), .agg (inV sx1 IA0)]))] kq kq ⟨fun _ => .inl rfl, fun _ => .inr rfl⟩ ?_
  refine V.known 176 false false kq rfl ?_
  refine V.q ?_
  refine V.iter ?_
  refine V.ungrd ?_
  refine V.q ?_
  refine V.known 103 (decide ((1 : Int) < 4)) true kq (by decide) ?_
  refine V.runT [] [(0 : Int) ≤ 1 ∧ (1 : Int) < 4] kq kq ⟨by decide, by decide⟩ ?_
  refine V.callK [(22, false), (19, true), (18, true), (17, true)] (xEncode sx2 IA0 sx2_okL sx2_fine) kq kq kq (fun _ => kq) (fun qc1 _ => ?_)
  refine V.q ?_
  refine V.freeze 2 (rowL rlv (0, 0) [] qc1.1 qc1.2 62 2 true) kq kq ?_
  refine V.callK [(23, false), (0, true)] (xDecode [] ⟨[14, 0, 0, 1, 2], qc1.1, 0, qc1.2⟩ rfl (by decide) 0 ⟨by show 5 ≤ 1000000000; decide, Nat.zero_le _⟩ kq) kq kq kq (fun _ => kq) (fun yd1 hd1 => ?_)
  obtain ⟨d1, D1⟩ := yd1
  have ed1 : d1 = sx2 := hd1.trans (sx2_dec qc1.1 qc1.2)
  subst ed1
  refine V.q ?_
  refine V.callK [(26, false), (23, true), (22, true), (21, true)] (xText sx2 IA0 sx2_okL 14 kq kq kq sx2_fine) kq kq kq (fun _ => kq) (fun _ _ => ?_)
  refine V.q ?_
  refine V.callK [(26, false)] (xParse [74, 85, 77, 80, 32, 64, 50, 53, 56] [[74, 85, 77, 80], [64, 50, 53, 56]] sx2 kq (by decide) kq (by decide) (pok_of sx2_find sx2_pok) sx2_read) kq kq kq (fun _ => kq) (fun yp1 hp1 => ?_)
  obtain ⟨p1, P1⟩ := yp1
  have ep1 : p1 = sx2 := hp1
  subst ep1
  refine V.persAs [(26, true)] [rowP (rowF sx2 IA0)] (rowP (rowF sx2 IA0)) kq (fun k hk => ⟨_, List.mem_singleton.2 rfl, hk⟩) (fun w hw => hw _ (List.mem_singleton.2 rfl)) (rowP_stab _) ?_
  refine V.persAs [(26, true)] [rowP (rowI sx2 IA0)] (rowP (rowI sx2 IA0)) kq (fun k hk => ⟨_, List.mem_singleton.2 rfl, hk⟩) (fun w hw => hw _ (List.mem_singleton.2 rfl)) (rowP_stab _) ?_
  refine V.persAs [(26, true)] [rowP (rowT sx2 IA0)] (rowP (rowT sx2 IA0)) kq (fun k hk => ⟨_, List.mem_singleton.2 rfl, hk⟩) (fun w hw => hw _ (List.mem_singleton.2 rfl)) (rowP_stab _) ?_
  refine V.persAs [(6, true)] [rowP (rowF sx2 D1)] (rowP (rowF sx2 D1)) kq (fun k hk => ⟨_, List.mem_singleton.2 rfl, hk⟩) (fun w hw => hw _ (List.mem_singleton.2 rfl)) (rowP_stab _) ?_
  refine V.persAs [(8, true)] [rowP (rowI sx2 D1)] (rowP (rowI sx2 D1)) kq (fun k hk => ⟨_, List.mem_singleton.2 rfl, hk⟩) (fun w hw => hw _ (List.mem_singleton.2 rfl)) (rowP_stab _) ?_
  refine V.persAs [(10, true)] [rowP (rowT sx2 D1)] (rowP (rowT sx2 D1)) kq (fun k hk => ⟨_, List.mem_singleton.2 rfl, hk⟩) (fun w hw => hw _ (List.mem_singleton.2 rfl)) (rowP_stab _) ?_
  refine V.persAs [(6, true)] [rowP (rowF sx2 P1)] (rowP (rowF sx2 P1)) kq (fun k hk => ⟨_, List.mem_singleton.2 rfl, hk⟩) (fun w hw => hw _ (List.mem_singleton.2 rfl)) (rowP_stab _) ?_
  refine V.persAs [(8, true)] [rowP (rowI sx2 P1)] (rowP (rowI sx2 P1)) kq (fun k hk => ⟨_, List.mem_singleton.2 rfl, hk⟩) (fun w hw => hw _ (List.mem_singleton.2 rfl)) (rowP_stab _) ?_
  refine V.persAs [(10, true)] [rowP (rowT sx2 P1)] (rowP (rowT sx2 P1)) kq (fun k hk => ⟨_, List.mem_singleton.2 rfl, hk⟩) (fun w hw => hw _ (List.mem_singleton.2 rfl)) (rowP_stab _) ?_
  refine V.runT [⟨sSame2 sx2 IA0 P1 D1 sx2_okL, [33, 34, 35, 36, 37, 38, 30, 31, 32]⟩] [((false = false) → (([.agg (inV sx2 D1), .agg (inV sx2 IA0)] : List CV) = [.agg (inV sx2 D1), .agg (inV sx2 IA0)] ∨ ([.agg (inV sx2 D1), .agg (inV sx2 IA0)] : List CV) = [.agg (inV sx2 P1), .agg (inV sx2 IA0)])), ((false = false) → (([.agg (inV sx2 P1), .agg (inV sx2 IA0)] : List CV) = [.agg (inV sx2 D1), .agg (inV sx2 IA0)] ∨ ([.agg (inV sx2 P1), .agg (inV sx2 IA0)] : List CV) = [.agg (inV sx2 P1), .agg (inV sx2 IA0)]))] kq kq ⟨fun _ => .inl rfl, fun _ => .inr rfl⟩ ?_
  refine V.known 176 false false kq rfl ?_
  refine V.q ?_
  refine V.iter ?_
  refine V.ungrd ?_
  refine V.q ?_
  refine V.known 103 (decide ((2 : Int) < 4)) true kq (by decide) ?_
  refine V.runT [] [(0 : Int) ≤ 2 ∧ (2 : Int) < 4] kq kq ⟨by decide, by decide⟩ ?_
  refine V.callK [(38, false), (35, true), (34, true), (33, true)] (xEncode sx3 IA0 sx3_okL sx3_fine) kq kq kq (fun _ => kq) (fun qc2 _ => ?_)
  refine V.q ?_
  refine V.freeze 3 (rowL rlv (0, 0) [] qc2.1 qc2.2 62 2 true) kq kq ?_
  refine V.callK [(39, false), (0, true)] (xDecode [] ⟨[8, 2, 4, 4, 30, 0, 0, 0], qc2.1, 0, qc2.2⟩ rfl (by decide) 0 ⟨by show 8 ≤ 1000000000; decide, Nat.zero_le _⟩ kq) kq kq kq (fun _ => kq) (fun yd2 hd2 => ?_)
  obtain ⟨d2, D2⟩ := yd2
  have ed2 : d2 = sx3 := hd2.trans (sx3_dec qc2.1 qc2.2)
  subst ed2
  refine V.q ?_
  refine V.callK [(42, false), (39, true), (38, true), (37, true)] (xText sx3 IA0 sx3_okL 8 kq kq kq sx3_fine) kq kq kq (fun _ => kq) (fun _ _ => ?_)
  refine V.q ?_
  refine V.callK [(42, false)] (xParse [76, 79, 65, 68, 32, 114, 48, 32, 114, 49, 32, 50, 44, 49, 53, 44, 48, 44, 48, 44, 61] [[76, 79, 65, 68], [114, 48], [114, 49], [50, 44, 49, 53, 44, 48, 44, 48, 44, 61]] sx3 kq (by decide) kq (by decide) (pok_of sx3_find sx3_pok) sx3_read) kq kq kq (fun _ => kq) (fun yp2 hp2 => ?_)
  obtain ⟨p2, P2⟩ := yp2
  have ep2 : p2 = sx3 := hp2
  subst ep2
  refine V.persAs [(42, true)] [rowP (rowF sx3 IA0)] (rowP (rowF sx3 IA0)) kq (fun k hk => ⟨_, List.mem_singleton.2 rfl, hk⟩) (fun w hw => hw _ (List.mem_singleton.2 rfl)) (rowP_stab _) ?_
  refine V.persAs [(42, true)] [rowP (rowI sx3 IA0)] (rowP (rowI sx3 IA0)) kq (fun k hk => ⟨_, List.mem_singleton.2 rfl, hk⟩) (fun w hw => hw _ (List.mem_singleton.2 rfl)) (rowP_stab _) ?_
  refine V.persAs [(42, true)] [rowP (rowT sx3 IA0)] (rowP (rowT sx3 IA0)) kq (fun k hk => ⟨_, List.mem_singleton.2 rfl, hk⟩) (fun w hw => hw _ (List.mem_singleton.2 rfl)) (rowP_stab _) ?_
  refine V.persAs [(6, true)] [rowP (rowF sx3 D2)] (rowP (rowF sx3 D2)) kq (fun k hk => ⟨_, List.mem_singleton.2 rfl, hk⟩) (fun w hw => hw _ (List.mem_singleton.2 rfl)) (rowP_stab _) ?_
  refine V.persAs [(8, true)] [rowP (rowI sx3 D2)] (rowP (rowI sx3 D2)) kq (fun k hk => ⟨_, List.mem_singleton.2 rfl, hk⟩) (fun w hw => hw _ (List.mem_singleton.2 rfl)) (rowP_stab _) ?_
  refine V.persAs [(10, true)] [rowP (rowT sx3 D2)] (rowP (rowT sx3 D2)) kq (fun k hk => ⟨_, List.mem_singleton.2 rfl, hk⟩) (fun w hw => hw _ (List.mem_singleton.2 rfl)) (rowP_stab _) ?_
  refine V.persAs [(6, true)] [rowP (rowF sx3 P2)] (rowP (rowF sx3 P2)) kq (fun k hk => ⟨_, List.mem_singleton.2 rfl, hk⟩) (fun w hw => hw _ (List.mem_singleton.2 rfl)) (rowP_stab _) ?_
  refine V.persAs [(8, true)] [rowP (rowI sx3 P2)] (rowP (rowI sx3 P2)) kq (fun k hk => ⟨_, List.mem_singleton.2 rfl, hk⟩) (fun w hw => hw _ (List.mem_singleton.2 rfl)) (rowP_stab _) ?_
  refine V.persAs [(10, true)] [rowP (rowT sx3 P2)] (rowP (rowT sx3 P2)) kq (fun k hk => ⟨_, List.mem_singleton.2 rfl, hk⟩) (fun w hw => hw _ (List.mem_singleton.2 rfl)) (rowP_stab _) ?_
  refine V.runT [⟨sSame2 sx3 IA0 P2 D2 sx3_okL, [49, 50, 51, 52, 53, 54, 46, 47, 48]⟩] [((false = false) → (([.agg (inV sx3 D2), .agg (inV sx3 IA0)] : List CV) = [.agg (inV sx3 D2), .agg (inV sx3 IA0)] ∨ ([.agg (inV sx3 D2), .agg (inV sx3 IA0)] : List CV) = [.agg (inV sx3 P2), .agg (inV sx3 IA0)])), ((false = false) → (([.agg (inV sx3 P2), .agg (inV sx3 IA0)] : List CV) = [.agg (inV sx3 D2), .agg (inV sx3 IA0)] ∨ ([.agg (inV sx3 P2), .agg (inV sx3 IA0)] : List CV) = [.agg (inV sx3 P2), .agg (inV sx3 IA0)]))] kq kq ⟨fun _ => .inl rfl, fun _ => .inr rfl⟩ ?_
  refine V.known 176 false false kq rfl ?_
  refine V.q ?_
  refine V.iter ?_
  refine V.ungrd ?_
  refine V.q ?_
  refine V.known 103 (decide ((3 : Int) < 4)) true kq (by decide) ?_
  refine V.runT [] [(0 : Int) ≤ 3 ∧ (3 : Int) < 4] kq kq ⟨by decide, by decide⟩ ?_
  refine V.callK [(54, false), (51, true), (48, true), (49, true)] (xEncode sx4 (sA4 g) sx4_okL sx4_fine) kq kq kq (fun _ => kq) (fun qc3 _ => ?_)
  refine V.q ?_
  refine V.freeze 4 (rowL rlv (0, 0) [(2, 5)] qc3.1 qc3.2 62 2 true) kq kq ?_
  refine V.callK [(55, false), (0, true)] (xDecode [(2, 5)] ⟨[17, 0, 0, 0, 0, 0, 2, 6], qc3.1, 1, qc3.2⟩ rfl (by decide) 0 ⟨by show 8 ≤ 1000000000; decide, Nat.zero_le _⟩ kq) kq kq kq (fun _ => kq) (fun yd3 hd3 => ?_)
  obtain ⟨d3, D3⟩ := yd3
  have ed3 : d3 = sx4 := hd3.trans (sx4_dec qc3.1 qc3.2)
  subst ed3
  refine V.q ?_
  refine V.callK [(58, false), (55, true), (52, true), (53, true)] (xText sx4 (sA4 g) sx4_okL 17 kq kq kq sx4_fine) kq kq kq (fun _ => kq) (fun _ _ => ?_)
  refine V.q ?_
  refine V.callK [(58, false)] (xParse [67, 65, 76, 76, 32, 45, 32, 33, 53, 32, 91, 114, 50, 93] [[67, 65, 76, 76], [45], [33, 53], [91, 114, 50, 93]] sx4 kq (by decide) kq (by decide) (pok_of sx4_find sx4_pok) sx4_read) kq kq kq (fun _ => kq) (fun yp3 hp3 => ?_)
  obtain ⟨p3, P3⟩ := yp3
  have ep3 : p3 = sx4 := hp3
  subst ep3
  refine V.persAs [(58, true)] [rowP (rowF sx4 (sA4 g))] (rowP (rowF sx4 (sA4 g))) kq (fun k hk => ⟨_, List.mem_singleton.2 rfl, hk⟩) (fun w hw => hw _ (List.mem_singleton.2 rfl)) (rowP_stab _) ?_
  refine V.persAs [(56, true)] [rowP (rowI sx4 (sA4 g))] (rowP (rowI sx4 (sA4 g))) kq (fun k hk => ⟨_, List.mem_singleton.2 rfl, hk⟩) (fun w hw => hw _ (List.mem_singleton.2 rfl)) (rowP_stab _) ?_
  refine V.persAs [(58, true)] [rowP (rowT sx4 (sA4 g))] (rowP (rowT sx4 (sA4 g))) kq (fun k hk => ⟨_, List.mem_singleton.2 rfl, hk⟩) (fun w hw => hw _ (List.mem_singleton.2 rfl)) (rowP_stab _) ?_
  refine V.persAs [(6, true)] [rowP (rowF sx4 D3)] (rowP (rowF sx4 D3)) kq (fun k hk => ⟨_, List.mem_singleton.2 rfl, hk⟩) (fun w hw => hw _ (List.mem_singleton.2 rfl)) (rowP_stab _) ?_
  refine V.persAs [(8, true)] [rowP (rowI sx4 D3)] (rowP (rowI sx4 D3)) kq (fun k hk => ⟨_, List.mem_singleton.2 rfl, hk⟩) (fun w hw => hw _ (List.mem_singleton.2 rfl)) (rowP_stab _) ?_
  refine V.persAs [(10, true)] [rowP (rowT sx4 D3)] (rowP (rowT sx4 D3)) kq (fun k hk => ⟨_, List.mem_singleton.2 rfl, hk⟩) (fun w hw => hw _ (List.mem_singleton.2 rfl)) (rowP_stab _) ?_
  refine V.persAs [(6, true)] [rowP (rowF sx4 P3)] (rowP (rowF sx4 P3)) kq (fun k hk => ⟨_, List.mem_singleton.2 rfl, hk⟩) (fun w hw => hw _ (List.mem_singleton.2 rfl)) (rowP_stab _) ?_
  refine V.persAs [(8, true)] [rowP (rowI sx4 P3)] (rowP (rowI sx4 P3)) kq (fun k hk => ⟨_, List.mem_singleton.2 rfl, hk⟩) (fun w hw => hw _ (List.mem_singleton.2 rfl)) (rowP_stab _) ?_
  refine V.persAs [(10, true)] [rowP (rowT sx4 P3)] (rowP (rowT sx4 P3)) kq (fun k hk => ⟨_, List.mem_singleton.2 rfl, hk⟩) (fun w hw => hw _ (List.mem_singleton.2 rfl)) (rowP_stab _) ?_
  refine V.runT [⟨sSame2 sx4 (sA4 g) P3 D3 sx4_okL, [65, 66, 67, 68, 69, 70, 62, 63, 64]⟩] [((false = false) → (([.agg (inV sx4 D3), .agg (inV sx4 (sA4 g))] : List CV) = [.agg (inV sx4 D3), .agg (inV sx4 (sA4 g))] ∨ ([.agg (inV sx4 D3), .agg (inV sx4 (sA4 g))] : List CV) = [.agg (inV sx4 P3), .agg (inV sx4 (sA4 g))])), ((false = false) → (([.agg (inV sx4 P3), .agg (inV sx4 (sA4 g))] : List CV) = [.agg (inV sx4 D3), .agg (inV sx4 (sA4 g))] ∨ ([.agg (inV sx4 P3), .agg (inV sx4 (sA4 g))] : List CV) = [.agg (inV sx4 P3), .agg (inV sx4 (sA4 g))]))] kq kq ⟨fun _ => .inl rfl, fun _ => .inr rfl⟩ ?_
  refine V.known 176 false false kq rfl ?_
  refine V.q ?_
  refine V.iter ?_
  exact V.backK [11, 101, 102] [false, false, false, false, false, false, false, false, false, false, false, false, false, false, false, false, false, false, false, false, false, false, false, false, false, false, false, false, false, false, false, false, false, false, false, false, false, false, false, false, false, false, false, false, false, false, false, false, false, false, false, false, false, false, false, false, false, false, false, false, false, false, false, false, true, true, true, true, false, false, true] (sane_rest ρ0 w0 g) kq kq
 ·have hin := left_in' he
  have hlt := leftOf_push_lt he
  obtain ⟨p, hp, hkey, hval, hb⟩ := snL_mem hin
  obtain ⟨ek, ev, eb⟩ := e
  simp only at hkey hval hlt
  subst hkey hval
  refine V.q ?_
  refine V.entry it 0 gL 7 7 seen snEs _ kq kq (fun ρ a w hS => hS.objN (n0 := w0.heap.size) (S := touch ρ0 glbF) 0 kq) hin sn_nodup kq ?_
  refine V.q ?_
  refine V.slotAs 1 (.one (.val (.int .i64 p.1))) (.one (.int .i64 p.1)) kq kq (fun _ => rfl) ?_
  refine V.slotAs 46 (.one (.val (.int .i64 p.1))) (.one (.int .i64 p.1)) kq kq (fun _ => rfl) ?_
  refine V.slotAs 2 (.one (.val (.string ⟨p.2.toArray⟩))) (.one (.str p.2)) kq kq (fun _ => rfl) ?_
  refine V.q ?_
  refine V.callK [] (snN p hp) kq kq kq (fun _ => kq) (fun _ _ => ?_)
  refine V.q ?_
  refine V.callK [] (snR p hp) kq kq kq (fun _ => kq) (fun _ _ => ?_)
  refine V.q ?_
  refine V.known 77 (((((0 : Int) != 0 || !p.2 == p.2) || (0 : Int) != 0) || p.1 != p.1) || (p.2.length : Int) != (p.2.length : Int)) false kq (by simp) ?_
  refine V.q ?_
  refine V.iter ?_
  exact V.back [39] [] [0] [true, true] (ih (seen.push eb) trivial hlt) kq kq
theorem movedA0 (q : Option Addr) (sz c : Nat) : movedA q 0 sz c = q := by
 unfold movedA
 split
 ·rfl
 ·cases q <;> simp [Addr.add]
theorem rlv_len (x : Int × Int) : (rlv x).length = 2 := rfl
theorem cClone0 (q : Option Addr) (c : Nat) : CallsK Tryz.prog 82 [.one (.val (.slice q 0 c))] (psOf [rowP (relRow [] q c)]) (fun _ : Option Addr × Nat => True) (fun qc => .v (.one (.row 0 qc.1 0 qc.2))) (rsF []) := by
 refine CallsK.mk true Tryz.func82 kq kq (fun ρ w => ?_)
 refine V.q ?_
 refine V.branch 4 q.isNone kq (fun _ => ?_) (fun _ => ?_)
 ·refine V.q ?_
  refine V.nilL rlv (0, 0) 2 62 2 kq kq ?_
  exact V.retK ((none, 0) : Option Addr × Nat) [] kq kq kq trivial
 ·refine V.q ?_
  refine V.rowB rlv (0, 0) [] 62 2 0 kq rlv_len rlv_plain (by show 0 ≤ maxLen; decide) (fun g => kq) (fun g => ?_)
  refine V.slotRow 5 0 (rowL rlv (0, 0) [] (some ⟨g, 0, none⟩) 0 62 2 true) kq kq kq ?_
  refine V.asRow 6 0 (relRow [] q c) kq kq kq rfl ?_
  refine V.pushes rlv (0, 0) [] [] 0 (some ⟨g, 0, none⟩) 0 62 2 0 (relRow [] q c).get 16 kq rfl (by simp) (fun i hi => absurd hi (Nat.not_lt_zero i)) (fun _ _ => kq) (fun q' cap' => ?_)
  refine V.q ?_
  exact V.retK ((q', cap') : Option Addr × Nat) [] kq kq kq trivial
theorem cClone1 (e : Int × Int) (q : Option Addr) (c : Nat) : CallsK Tryz.prog 82 [.one (.val (.slice q 1 c))] (psOf [rowP (relRow [e] q c)]) (fun _ : Option Addr × Nat => True) (fun qc => .v (.one (.row 0 qc.1 1 qc.2))) (rsF [e]) := by
 refine CallsK.mk true Tryz.func82 kq kq (fun ρ w => ?_)
 refine V.q ?_
 refine V.asRow 3 0 (relRow [e] q c) kq kq kq rfl ?_
 refine V.rowAt 0 (relRow [e] q c) kq (by show 0 < 1; decide) (fun hq => ?_)
 refine V.branch 4 q.isNone kq (fun hh => ?_) (fun _ => ?_)
 ·exfalso
  obtain ⟨b, off, hq⟩ := hq
  have hq : q = some ⟨b, off, none⟩ := hq
  rw [hq] at hh
  cases hh
 ·refine V.q ?_
  refine V.rowB rlv (0, 0) [] 62 2 0 kq rlv_len rlv_plain (by show 0 ≤ maxLen; decide) (fun g => kq) (fun g => ?_)
  refine V.slotRow 5 1 (rowL rlv (0, 0) [] (some ⟨g, 0, none⟩) 0 62 2 true) kq kq kq ?_
  refine V.asRow 6 0 (relRow [e] q c) kq kq kq rfl ?_
  refine V.pushes rlv (0, 0) [] [e] 1 (some ⟨g, 0, none⟩) 0 62 2 1 (relRow [e] q c).get 16 kq rfl (by simp) (fun i _ => rfl) (fun _ _ => kq) (fun q' cap' => ?_)
  refine V.q ?_
  exact V.retK ((q', cap') : Option Addr × Nat) [] kq kq kq trivial
theorem cMoved0 (q : Option Addr) (c : Nat) (n : Int) : CallsK Tryz.prog 42 [.one (.val (.slice q 0 c)), .one (.int .i64 n)] (psOf [rowP (relRow [] q c)]) (fun _ : Option Addr × Nat => True) (fun qc => .v (.one (.row 0 qc.1 0 qc.2))) (rsF []) := by
 refine CallsK.mk true Tryz.func42 kq kq (fun ρ w => ?_)
 refine V.q ?_
 refine V.callK [(0, false)] (cClone0 q c) kq kq kq (fun _ => kq) (fun qc _ => ?_)
 obtain ⟨q', c'⟩ := qc
 refine V.q ?_
 refine V.iter ?_
 refine V.q ?_
 refine V.known 12 (decide ((0 : Int) < 0)) false kq (by decide) ?_
 refine V.q ?_
 exact V.retK ((q', c') : Option Addr × Nat) [] kq kq kq trivial
theorem cMoved1 (e : Int × Int) (q : Option Addr) (c : Nat) (n : Int) (he : IntKind.i64.wrap (e.1 + n) = e.1 + n) : CallsK Tryz.prog 42 [.one (.val (.slice q 1 c)), .one (.int .i64 n)] (psOf [rowP (relRow [e] q c)]) (fun _ : Option Addr × Nat => True) (fun qc => .v (.one (.row 0 qc.1 1 qc.2))) (rsF [(e.1 + n, e.2)]) := by
 refine CallsK.mk true Tryz.func42 kq kq (fun ρ w => ?_)
 refine V.q ?_
 refine V.callK [(0, false)] (cClone1 e q c) kq kq kq (fun _ => kq) (fun qc _ => ?_)
 obtain ⟨q', c'⟩ := qc
 refine V.q ?_
 refine V.iter ?_
 refine V.q ?_
 refine V.known 12 (decide ((0 : Int) < 1)) true kq (by decide) ?_
 refine V.runT [] [(0 : Int) ≤ 0 ∧ (0 : Int) < 1, (0 : Int) ≤ 0 ∧ (0 : Int) < 1] kq kq ⟨⟨by decide, by decide⟩, by decide, by decide⟩ ?_
 refine V.storeRow 0 (rowL rlv (0, 0) [e] q' c' 62 2 true) 0 0 [.int .i64 (IntKind.i64.wrap (e.1 + n))] (rowL rlv (0, 0) [(e.1 + n, e.2)] q' c' 62 2 true).get kq (fun k hk hk0 => by have : k < 1 := hk; omega) (fun _ => by
  show [SV.int .i64 (e.1 + n), SV.int .i64 e.2] = [SV.int .i64 (IntKind.i64.wrap (e.1 + n)), SV.int .i64 e.2]
  rw [he]) ?_
 refine V.q ?_
 refine V.iter ?_
 refine V.q ?_
 refine V.known 12 (decide (IntKind.i64.wrap ((0 : Int) + 1) < 1)) false kq (by decide) ?_
 refine V.q ?_
 exact V.retK ((q', c') : Option Addr × Nat) [] kq kq kq trivial
def mvS (n : Int) (e : Int × Int) : Int × Int := (e.1 + n, e.2)
theorem cMoved (rs : List (Int × Int)) (hl : rs.length ≤ 1) (q : Option Addr) (c : Nat) (n : Int) (he : ∀ e ∈ rs, IntKind.i64.wrap (e.1 + n) = e.1 + n) :
  CallsK Tryz.prog 42 [.one (.val (.slice q rs.length c)), .one (.int .i64 n)] (psOf [rowP (relRow rs q c)]) (fun _ : Option Addr × Nat => True) (fun qc => .v (.one (.row 0 qc.1 (rs.map (mvS n)).length qc.2))) (rsF (rs.map (mvS n))) := by
 rcases rs with _ | ⟨e, rs⟩
 ·exact cMoved0 q c n
 ·rcases rs with _ | ⟨e', rs⟩
  ·exact cMoved1 e q c n (he e (List.mem_singleton.2 rfl))
  ·simp at hl
end Go.Proofs
end
