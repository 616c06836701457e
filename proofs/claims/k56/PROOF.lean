import PyProof.Rows.All
import Wide.All
import OpenK.AllK
import Wide.FinOn
import HandS.ForMost
import HandS.IsInst
import HandS.Walk
import HandS.Style
import HandS.Flow
import HandS.TupAny
import HandS.Replace
import HandS.Deep
import HandS.Iter
import KE.GoesEnum
import KE.GoesMore
import KE.GoesZip
import HandS.WordsDict
import HandS.Sort
import HandS.Property
import HandS.MakeKwOnly
import HandS.Star
import HandS.RaiseMore
import HandS.Head2
import HandS.SetTxt0
import HandS.SetFor
import HandS.Set
import PyProof.Rows.SetFrom
import PyProof.Rows.SortShellK
import HandS.Small
import KE.KEqSeq
import HandS.Head0
import HandS.Head1
import HandS.HeadEnd
import HandS.HeadHook1
import HandS.HeadHook2
import PySem.Challenge.RW_cutfont_k56_texts_read_back
set_option Elab.async false
set_option linter.all false
set_option maxRecDepth 100000
set_option maxHeartbeats 4000000
/-! Layer, part A: deep data, environments, pure meanings; how they lie in the abstract heap. -/
namespace Py
open PySem L2

/-- deep data -/
inductive D where
  | non | bl (b : Bool) | int (i : Int) | str (s : PySem.Str)
  | tup (ds : List D) | lst (ds : List D) | dct (t : Bool) (kvs : List (D × D)) | ins (c : PySem.Str) (fs : List (PySem.Str × D))
  | scr (ns : List Int) | drw | obj (a : Addr) (c : PySem.Str) (fs : List (PySem.Str × D))
/-- what a name holds, what an expression gives: shared; own (new, or held by this name alone); lent (an own list of a name, read) -/
inductive B where
  | f (d : D) | o (d : D) | w (d : D)
def B.d : B → D
  | .f d => d | .o d => d | .w d => d
abbrev En := List (Option B)
/-- the state of the draws -/
structure DS where
  large : List Int
  cells : List Int
  rest : Int
  turn : Int
  mix : Int
/-- where things stand -/
structure Wd where
  K : PySem.W.Frag
  cls : PySem.Str → Option Addr
  on : Bool
  ad : Addr
  al : Addr
  ac : Addr

abbrev Me := En → DS → Option (B × DS)
abbrev MeL := En → DS → Option (List D × DS)
abbrev MeT := En → DS → Option (Bool × DS)

/-! ### data in the heap -/
def keyD : Key → D
  | .inl i => .int i
  | .inr s => .str s
mutual
inductive Rep (W : Wd) (F : Hp) : V → D → Prop
  | non : Rep W F .non .non
  | bl (b : Bool) : Rep W F (.bl b) (.bl b)
  | int (i : Int) : Rep W F (.int i) (.int i)
  | str (s : PySem.Str) : Rep W F (.str s) (.str s)
  | tup {a : Addr} {vs : List V} {ds : List D} : F a = some (.tup vs) → Reps W F vs ds → Rep W F (.ref a) (.tup ds)
  | lst {a : Addr} {vs : List V} {ds : List D} : F a = some (.lst vs) → Reps W F vs ds → Rep W F (.ref a) (.lst ds)
  | dK {a : Addr} {kvs : List (Key × V)} {ds : List D} : F a = some (.dK kvs) → Reps W F (kvs.map (·.2)) ds → Rep W F (.ref a) (.dct false ((kvs.map fun p => keyD p.1).zip ds))
  | dT {a : Addr} {kvs : List (List Key × V)} {ds : List D} : F a = some (.dT kvs) → Reps W F (kvs.map (·.2)) ds → Rep W F (.ref a) (.dct true ((kvs.map fun p => D.tup (p.1.map keyD)).zip ds))
  | ins {a C dx : Addr} {c : PySem.Str} {fs : List (PySem.Str × V)} {ds : List D} : W.cls c = some C → F a = some (.ins C dx fs) → Reps W F (fs.map (·.2)) ds → Rep W F (.ref a) (.ins c ((fs.map (·.1)).zip ds))
  | scr {a : Addr} {ns : List Int} : SqL W.K F a (ns.map V.int) → Rep W F (.ref a) (.scr ns)
  | drw : W.on = true → Rep W F (.ref W.ad) .drw
  | obj {a C dx : Addr} {c : PySem.Str} {fs : List (PySem.Str × V)} {ds : List D} : W.cls c = some C → F a = some (.ins C dx fs) → Reps W F (fs.map (·.2)) ds → Rep W F (.ref a) (.obj a c ((fs.map (·.1)).zip ds))
inductive Reps (W : Wd) (F : Hp) : List V → List D → Prop
  | nil : Reps W F [] []
  | cons {v : V} {vs : List V} {d : D} {ds : List D} : Rep W F v d → Reps W F vs ds → Reps W F (v :: vs) (d :: ds)
end
def Ext (F H : Hp) : Prop := ∀ a o, F a = some o → H a = some o
theorem Ext.refl {H : Hp} : Ext H H := fun _ _ h => h
theorem Ext.trans {F G H : Hp} (a : Ext F G) (b : Ext G H) : Ext F H := fun x o h => b x o (a x o h)
theorem tq {K : PySem.W.Frag} {F : Hp} {a : Addr} {xs : List V} (h : F a = some (.tup xs)) : SqT K F a xs := .inl (.inl h)
theorem rd_ext {F H : Hp} (e : Ext F H) {a : Addr} {u : HO} (h : Rd F a u) : Rd H a u := by
  rcases h with h | ⟨o, h⟩
  · exact .inl (e _ _ h)
  · exact .inr ⟨o, e _ _ h⟩
theorem sqt_ext {K : PySem.W.Frag} {F H : Hp} (e : Ext F H) {a : Addr} {xs : List V} (h : SqT K F a xs) : SqT K H a xs := by
  rcases h with h | h
  · exact .inl (rd_ext e h)
  · exact .inr h
theorem sql_ext {K : PySem.W.Frag} {F H : Hp} (e : Ext F H) {a : Addr} {xs : List V} (h : SqL K F a xs) : SqL K H a xs := by
  rcases h with h | h
  · exact .inl (rd_ext e h)
  · exact .inr h
mutual
theorem Rep.ext {W : Wd} {F H : Hp} (e : Ext F H) : ∀ {v : V} {d : D}, Rep W F v d → Rep W H v d
  | _, _, .non => .non
  | _, _, .bl b => .bl b
  | _, _, .int i => .int i
  | _, _, .str s => .str s
  | _, _, .tup h r => .tup (e _ _ h) (r.ext e)
  | _, _, .lst h r => .lst (e _ _ h) (r.ext e)
  | _, _, .dK h r => .dK (e _ _ h) (r.ext e)
  | _, _, .dT h r => .dT (e _ _ h) (r.ext e)
  | _, _, .ins c h r => .ins c (e _ _ h) (r.ext e)
  | _, _, .scr h => .scr (sql_ext e h)
  | _, _, .drw h => .drw h
  | _, _, .obj c h r => .obj c (e _ _ h) (r.ext e)
theorem Reps.ext {W : Wd} {F H : Hp} (e : Ext F H) : ∀ {vs : List V} {ds : List D}, Reps W F vs ds → Reps W H vs ds
  | _, _, .nil => .nil
  | _, _, .cons h r => .cons (h.ext e) (r.ext e)
end
theorem Reps.length {W : Wd} {F : Hp} : ∀ {vs : List V} {ds : List D}, Reps W F vs ds → vs.length = ds.length
  | _, _, .nil => rfl
  | _, _, .cons _ r => congrArg Nat.succ r.length
theorem Reps.get {W : Wd} {F : Hp} : ∀ {vs : List V} {ds : List D} {i : Nat} {v : V}, Reps W F vs ds → vs[i]? = some v → ∃ d, ds[i]? = some d ∧ Rep W F v d
  | _, _, _, _, .nil, e => by simp at e
  | _, _, 0, _, .cons h _, e => by simp at e; subst e; exact ⟨_, rfl, h⟩
  | _, _, i + 1, _, .cons _ r, e => by
    obtain ⟨d, h1, h2⟩ := r.get (i := i) (by simpa using e)
    exact ⟨d, by simpa using h1, h2⟩
theorem Reps.getD {W : Wd} {F : Hp} : ∀ {vs : List V} {ds : List D} {i : Nat} {d : D}, Reps W F vs ds → ds[i]? = some d → ∃ v, vs[i]? = some v ∧ Rep W F v d
  | _, _, _, _, .nil, e => by simp at e
  | _, _, 0, _, .cons h _, e => by simp at e; subst e; exact ⟨_, rfl, h⟩
  | _, _, i + 1, _, .cons _ r, e => by
    obtain ⟨d, h1, h2⟩ := r.getD (i := i) (by simpa using e)
    exact ⟨d, by simpa using h1, h2⟩
theorem Reps.append {W : Wd} {F : Hp} : ∀ {vs ws : List V} {ds es : List D}, Reps W F vs ds → Reps W F ws es → Reps W F (vs ++ ws) (ds ++ es)
  | _, _, _, _, .nil, s => s
  | _, _, _, _, .cons h r, s => .cons h (r.append s)
theorem Reps.take {W : Wd} {F : Hp} : ∀ {vs : List V} {ds : List D} (n : Nat), Reps W F vs ds → Reps W F (vs.take n) (ds.take n)
  | _, _, 0, _ => .nil
  | _, _, _ + 1, .nil => .nil
  | _, _, n + 1, .cons h r => .cons h (r.take n)
theorem Reps.drop {W : Wd} {F : Hp} : ∀ {vs : List V} {ds : List D} (n : Nat), Reps W F vs ds → Reps W F (vs.drop n) (ds.drop n)
  | _, _, 0, r => r
  | _, _, _ + 1, .nil => .nil
  | _, _, n + 1, .cons _ r => r.drop n
theorem Reps.set {W : Wd} {F : Hp} {v : V} {d : D} (h : Rep W F v d) : ∀ {vs : List V} {ds : List D} (n : Nat), Reps W F vs ds → Reps W F (vs.set n v) (ds.set n d)
  | _, _, _, .nil => .nil
  | _, _, 0, .cons _ r => .cons h r
  | _, _, n + 1, .cons q r => .cons q (r.set h n)
theorem Reps.eraseIdx {W : Wd} {F : Hp} : ∀ {vs : List V} {ds : List D} (n : Nat), Reps W F vs ds → Reps W F (vs.eraseIdx n) (ds.eraseIdx n)
  | _, _, _, .nil => .nil
  | _, _, 0, .cons _ r => r
  | _, _, n + 1, .cons q r => .cons q (r.eraseIdx n)
theorem Reps.mapInt {W : Wd} {F : Hp} : ∀ (ns : List Int), Reps W F (ns.map V.int) (ns.map D.int)
  | [] => .nil
  | n :: ns => .cons (.int n) (Reps.mapInt ns)

/-! ### states of the draws -/
def drawFs (W : Wd) (δ : DS) : List (Key × V) :=
  [(.inr "large", .ref W.al), (.inr "cells", .ref W.ac), (.inr "rest", .int δ.rest), (.inr "turn", .int δ.turn), (.inr "mix", .int δ.mix)]
structure DrawOk (W : Wd) (H : Hp) (δ : DS) : Prop where
  d : H W.ad = some (.dK (drawFs W δ))
  l : H W.al = some (.lst (δ.large.map V.int))
  c : H W.ac = some (.lst (δ.cells.map V.int))
  lc : δ.cells.length ≤ 63
  r0 : 0 ≤ δ.rest
  m0 : 0 ≤ δ.mix ∧ δ.mix < 2147483629
  lg : ∀ z ∈ δ.large, 0 ≤ z
  ne : W.al ≠ W.ac
/-- an address of the draws -/
def Wd.dr (W : Wd) (a : Addr) : Prop := W.on = true ∧ (a = W.ad ∨ a = W.al)
def Dr (W : Wd) (H : Hp) (δ : DS) : Prop := W.on = true → DrawOk W H δ
/-- from one point of a run to a later one: F what is fixed for good, H the heap -/
structure Go (W : Wd) (F H F' H' : Hp) (δ' : DS) : Prop where
  ff : Ext F F'
  fh : Ext F' H'
  hh : ∀ a o, H a = some o → ¬ W.dr a → H' a = some o
  nw : ∀ a o, F' a = some o → F a = some o ∨ H a = none
  dr : Dr W H' δ'
/-- what stands at an own address -/
def Own (W : Wd) (F H : Hp) (a : Addr) (d : D) : Prop := match d with
  | .lst ds => ∃ vs, H a = some (.lst vs) ∧ Reps W F vs ds
  | .dct false kvs => ∃ ks, H a = some (.dK ks) ∧ (kvs.map (·.1)) = (ks.map fun p => keyD p.1) ∧ Reps W F (ks.map (·.2)) (kvs.map (·.2))
  | .dct true kvs => ∃ ks, H a = some (.dT ks) ∧ (kvs.map (·.1)) = (ks.map fun p => D.tup (p.1.map keyD)) ∧ Reps W F (ks.map (·.2)) (kvs.map (·.2))
  | .obj a' c fs => a = a' ∧ ∃ C dx vs, W.cls c = some C ∧ H a = some (.ins C dx vs) ∧ (fs.map (·.1)) = (vs.map (·.1)) ∧ Reps W F (vs.map (·.2)) (fs.map (·.2))
  | _ => False
def Slt (W : Wd) (H₀ F H : Hp) (v : V) : B → Prop
  | .f d => Rep W F v d
  | .o d => ∃ a, v = .ref a ∧ F a = none ∧ H₀ a = none ∧ ¬ W.dr a ∧ Own W F H a d
  | .w _ => False
structure Good (W : Wd) (F₀ H₀ : Hp) (σ : L2.St) (ρ : En) (F H : Hp) (δ : DS) : Prop where
  go : Go W F₀ H₀ F H δ
  d0 : ∃ δ₀, Dr W H₀ δ₀
  f0 : ∀ a, W.dr a → F₀ a = none
  len : σ.length = ρ.length
  sl : ∀ (i : Nat) (b : B), ρ[i]? = some (some b) → ∃ v, σ[i]? = some (some v) ∧ Slt W H₀ F H v b
  sep : ∀ (i j : Nat) (a : Addr) (d e : D), ρ[i]? = some (some (.o d)) → ρ[j]? = some (some (.o e)) → σ[i]? = some (some (.ref a)) → σ[j]? = some (some (.ref a)) → i = j

theorem Dr.at {W : Wd} {H : Hp} {δ : DS} (h : Dr W H δ) {a : Addr} (ha : W.dr a) : ∃ o, H a = some o := by
  obtain ⟨on, e | e⟩ := ha
  · subst e; exact ⟨_, (h on).d⟩
  · subst e; exact ⟨_, (h on).l⟩
theorem Dr.not {W : Wd} {H : Hp} {δ : DS} (h : Dr W H δ) {a : Addr} (ha : H a = none) : ¬ W.dr a := fun z => by
  obtain ⟨o, e⟩ := h.at z
  rw [e] at ha; cases ha
theorem Go.refl {W : Wd} {F H : Hp} {δ : DS} (e : Ext F H) (d : Dr W H δ) : Go W F H F H δ := ⟨.refl, e, fun _ _ h _ => h, fun _ _ h => .inl h, d⟩
/-- what is free later was free before -/
theorem Go.free {W : Wd} {F H F' H' : Hp} {δ' : DS} (g : Go W F H F' H' δ') {a : Addr} (h : H' a = none) : H a = none := by
  cases e : H a with
  | none => rfl
  | some o => rw [g.hh a o e (g.dr.not h)] at h; cases h
theorem Go.trans {W : Wd} {F H F1 H1 F2 H2 : Hp} {δ1 δ2 : DS} (g : Go W F H F1 H1 δ1) (k : Go W F1 H1 F2 H2 δ2) : Go W F H F2 H2 δ2 where
  ff := g.ff.trans k.ff
  fh := k.fh
  hh := fun a o h n => k.hh a o (g.hh a o h n) n
  nw := fun a o h => by
    rcases k.nw a o h with h | h
    · exact g.nw a o h
    · exact .inr (g.free h)
  dr := k.dr
/-- a value that an expression gave: H the heap ahead of the expression, H₀ that at the def's entry -/
def Val (W : Wd) (H₀ H F' H' : Hp) (v : V) : B → Prop
  | .f d => Rep W F' v d
  | .o d => ∃ a, v = .ref a ∧ H a = none ∧ F' a = none ∧ ¬ W.dr a ∧ Own W F' H' a d
  | .w d => ∃ a, v = .ref a ∧ H₀ a = none ∧ F' a = none ∧ ¬ W.dr a ∧ Own W F' H' a d
/-- a value as it may be read -/
def Rv (W : Wd) (F H : Hp) (v : V) : B → Prop
  | .f d => Rep W F v d
  | .o d => ∃ a, v = .ref a ∧ Own W F H a d
  | .w d => ∃ a, v = .ref a ∧ Own W F H a d
theorem Val.rv {W : Wd} {H₀ H F' H' : Hp} {v : V} : ∀ {b : B}, Val W H₀ H F' H' v b → Rv W F' H' v b
  | .f _, h => h
  | .o _, ⟨a, e, _, _, _, h⟩ => ⟨a, e, h⟩
  | .w _, ⟨a, e, _, _, _, h⟩ => ⟨a, e, h⟩
theorem Own.some {W : Wd} {F H : Hp} {a : Addr} : ∀ {d : D}, Own W F H a d → ∃ o, H a = some o
  | .lst _, ⟨vs, h, _⟩ => ⟨_, h⟩
  | .dct false _, ⟨ks, h, _⟩ => ⟨_, h⟩
  | .dct true _, ⟨ks, h, _⟩ => ⟨_, h⟩
  | .obj _ _ _, ⟨_, _, _, _, _, h, _⟩ => ⟨_, h⟩
theorem Own.mono {W : Wd} {F H F' H' : Hp} {a : Addr} (e : Ext F F') (h : H' a = H a) : ∀ {d : D}, Own W F H a d → Own W F' H' a d
  | .lst _, ⟨vs, q, r⟩ => ⟨vs, h.trans q, r.ext e⟩
  | .dct false _, ⟨ks, q, k, r⟩ => ⟨ks, h.trans q, k, r.ext e⟩
  | .dct true _, ⟨ks, q, k, r⟩ => ⟨ks, h.trans q, k, r.ext e⟩
  | .obj _ _ _, ⟨z, C, dx, vs, c, q, k, r⟩ => ⟨z, C, dx, vs, c, h.trans q, k, r.ext e⟩
theorem Go.own {W : Wd} {F H F' H' : Hp} {δ' : DS} (g : Go W F H F' H' δ') {a : Addr} {d : D} (n : ¬ W.dr a) (fa : F a = none) (h : Own W F H a d) : F' a = none ∧ Own W F' H' a d := by
  obtain ⟨o, e⟩ := h.some
  refine ⟨?_, h.mono g.ff ((g.hh a o e n).trans e.symm)⟩
  cases q : F' a with
  | none => rfl
  | some u =>
    rcases g.nw a u q with z | z
    · rw [fa] at z; cases z
    · rw [e] at z; cases z
theorem Val.go {W : Wd} {H₀ H F1 H1 F2 H2 : Hp} {δ : DS} {v : V} (g : Go W F1 H1 F2 H2 δ) : ∀ {b : B}, Val W H₀ H F1 H1 v b → Val W H₀ H F2 H2 v b
  | .f _, h => Rep.ext g.ff h
  | .o _, ⟨a, e, n, f, nd, h⟩ => let ⟨f', h'⟩ := g.own nd f h; ⟨a, e, n, f', nd, h'⟩
  | .w _, ⟨a, e, n, f, nd, h⟩ => let ⟨f', h'⟩ := g.own nd f h; ⟨a, e, n, f', nd, h'⟩
theorem Val.back {W : Wd} {H₀ F H H1 F1 F2 H2 : Hp} {δ : DS} {v : V} (g : Go W F H F1 H1 δ) : ∀ {b : B}, Val W H₀ H1 F2 H2 v b → Val W H₀ H F2 H2 v b
  | .f _, h => h
  | .o _, ⟨a, e, n, f, nd, h⟩ => ⟨a, e, g.free n, f, nd, h⟩
  | .w _, h => h
theorem zip_pair {α β : Type} : ∀ l : List (α × β), (l.map (·.1)).zip (l.map (·.2)) = l
  | [] => rfl
  | _ :: l => congrArg _ (zip_pair l)
/-- read in the whole heap -/
theorem Own.rep {W : Wd} {F H : Hp} {a : Addr} (e : Ext F H) : ∀ {d : D}, Own W F H a d → Rep W H (.ref a) d
  | .lst _, ⟨vs, q, r⟩ => .lst q (r.ext e)
  | .dct false kvs, ⟨ks, q, k, r⟩ => by
    have z := Rep.dK q (r.ext e)
    rw [← k, zip_pair] at z
    exact z
  | .dct true kvs, ⟨ks, q, k, r⟩ => by
    have z := Rep.dT q (r.ext e)
    rw [← k, zip_pair] at z
    exact z
  | .obj _ c fs, ⟨e0, C, dx, vs, hc, q, k, r⟩ => by
    subst e0
    have z := Rep.obj hc q (r.ext e)
    rw [← k, zip_pair] at z
    exact z
theorem Rv.rep {W : Wd} {F H : Hp} {v : V} (e : Ext F H) : ∀ {b : B}, Rv W F H v b → Rep W H v b.d
  | .f _, h => Rep.ext e h
  | .o _, ⟨a, q, h⟩ => q ▸ h.rep e
  | .w _, ⟨a, q, h⟩ => q ▸ h.rep e
/-- an own object is fixed for good -/
theorem Own.fix {W : Wd} {F H F1 H1 : Hp} {δ : DS} {a : Addr} {d : D} (g : Go W F H F1 H1 δ) (n : H a = none) (f : F1 a = none) (h : Own W F1 H1 a d) : ∃ F2, Ext F1 F2 ∧ Go W F H F2 H1 δ ∧ Rep W F2 (.ref a) d := by
  obtain ⟨o, e⟩ := h.some
  have x : Ext F1 (upd F1 a o) := fun b u q => by rw [upd_ne (ne_of_none q f)]; exact q
  refine ⟨upd F1 a o, x, ⟨g.ff.trans x, fun b u q => ?_, g.hh, fun b u q => ?_, g.dr⟩, ?_⟩
  · by_cases hb : b = a
    · subst hb; rw [upd_same] at q; rw [← q]; exact e
    · rw [upd_ne hb] at q; exact g.fh b u q
  · by_cases hb : b = a
    · subst hb; exact .inr n
    · rw [upd_ne hb] at q; exact g.nw b u q
  · have h2 : Own W F1 (upd F1 a o) a d := h.mono .refl (by rw [upd_same, e])
    exact h2.rep x
def B.isW : B → Bool
  | .w _ => true
  | _ => false
theorem Val.fix {W : Wd} {H₀ F H F1 H1 : Hp} {δ : DS} {v : V} (g : Go W F H F1 H1 δ) : ∀ {b : B}, b.isW = false → Val W H₀ H F1 H1 v b → ∃ F2, Ext F1 F2 ∧ Go W F H F2 H1 δ ∧ Rep W F2 v b.d
  | .f _, _, h => ⟨F1, .refl, g, h⟩
  | .o _, _, ⟨a, q, n, f, _, h⟩ => by subst q; exact h.fix g n f
/-- at a later point -/
theorem Good.later {W : Wd} {F₀ H₀ F H F' H' : Hp} {σ : L2.St} {ρ : En} {δ δ' : DS} (G : Good W F₀ H₀ σ ρ F H δ) (g : Go W F H F' H' δ') : Good W F₀ H₀ σ ρ F' H' δ' where
  go := G.go.trans g
  d0 := G.d0
  f0 := G.f0
  len := G.len
  sl := fun i b e => by
    obtain ⟨v, hv, s⟩ := G.sl i b e
    refine ⟨v, hv, ?_⟩
    cases b with
    | f d => exact Rep.ext g.ff s
    | o d =>
      obtain ⟨a, q, f, n, nd, h⟩ := s
      obtain ⟨f', h'⟩ := g.own nd f h
      exact ⟨a, q, f', n, nd, h'⟩
    | w d => exact s
  sep := G.sep
theorem go_tup {W : Wd} {F H : Hp} {δ : DS} {p : Addr} {xs : List V} (e : Ext F H) (d : Dr W H δ) (hp : H p = none) : Go W F H (upd F p (.tup xs)) (upd H p (.tup xs)) δ where
  ff := fun a o h => by rw [upd_ne (ne_of_none (e a o h) hp)]; exact h
  fh := fun a o h => by
    by_cases ha : a = p
    · subst ha; rw [upd_same] at h ⊢; exact h
    · rw [upd_ne ha] at h ⊢; exact e a o h
  hh := fun a o h _ => by rw [upd_ne (ne_of_none h hp)]; exact h
  nw := fun a o h => by
    by_cases ha : a = p
    · subst ha; exact .inr hp
    · rw [upd_ne ha] at h; exact .inl h
  dr := fun on => by
    have q := d on
    exact ⟨by rw [upd_ne (ne_of_none q.d hp)]; exact q.d, by rw [upd_ne (ne_of_none q.l hp)]; exact q.l, by rw [upd_ne (ne_of_none q.c hp)]; exact q.c, q.lc, q.r0, q.m0, q.lg, q.ne⟩
theorem go_new {W : Wd} {F H : Hp} {δ : DS} {p : Addr} {o : HO} (e : Ext F H) (d : Dr W H δ) (hp : H p = none) : Go W F H F (upd H p o) δ where
  ff := .refl
  fh := fun a o h => by rw [upd_ne (ne_of_none (e a o h) hp)]; exact e a o h
  hh := fun a o h _ => by rw [upd_ne (ne_of_none h hp)]; exact h
  nw := fun a o h => .inl h
  dr := fun on => by
    have q := d on
    exact ⟨by rw [upd_ne (ne_of_none q.d hp)]; exact q.d, by rw [upd_ne (ne_of_none q.l hp)]; exact q.l, by rw [upd_ne (ne_of_none q.c hp)]; exact q.c, q.lc, q.r0, q.m0, q.lg, q.ne⟩
end Py
/-! Layer, part B: what is read off expressions. -/
namespace Py
open PySem L2

def tX (W : Wd) (m : Me) : TE := fun σ H Q => ∃ F₀ H₀ ρ F δ b δ', Good W F₀ H₀ σ ρ F H δ ∧ m ρ δ = some (b, δ') ∧ ∀ v F' H', Go W F H F' H' δ' → Val W H₀ H F' H' v b → Q v H'
def tXT (W : Wd) (m : MeT) : TT := fun σ H Q => ∃ F₀ H₀ ρ F δ c δ', Good W F₀ H₀ σ ρ F H δ ∧ m ρ δ = some (c, δ') ∧ ∀ F' H', Go W F H F' H' δ' → Q c H'
def tXA (W : Wd) (m : MeL) : TA := fun σ H Q => ∃ F₀ H₀ ρ F δ ds δ', Good W F₀ H₀ σ ρ F H δ ∧ m ρ δ = some (ds, δ') ∧ ∀ vs F' H', Go W F H F' H' δ' → Reps W F' vs ds → Q vs H'

structure Cok (W : Wd) (n : Nat) (X : Cx) : Prop where
  k : X.K = W.K
  calm : X.calm = true
  room : Room n X.A
  nd : X.N.Nodup
  px : PassesOwn (model X.prog X.w) X.A X.env X.xe
section
variable {X : Cx} {W : Wd} {n : Nat} {e a b c : Expr} {es : List Expr} {t t' : TE} {ma mb mc : Me} {pos p p2 : Pos}
theorem peImp (h : PE X e t) (i : ∀ σ H Q, t' σ H Q → t σ H Q) : PE X e t' := ⟨fun pins s σ H Q I q => h.run pins s σ H Q I (i σ H Q q)⟩
theorem ptImp {t t' : TT} (h : PT X e t) (i : ∀ σ H Q, t' σ H Q → t σ H Q) : PT X e t' := ⟨fun pins s σ H Q I q => h.run pins s σ H Q I (i σ H Q q)⟩
theorem pwImp {t t' : TT} (h : PW X e t) (i : ∀ σ H Q, t' σ H Q → t σ H Q) : PW X e t' := ⟨fun wh pins s σ H Q I q => h.run wh pins s σ H Q I (i σ H Q q)⟩
theorem paImp {t t' : TA} (h : PA X es t) (i : ∀ σ H Q, t' σ H Q → t σ H Q) : PA X es t' := ⟨fun pos pins s σ H Q I q => h.run pos pins s σ H Q I (i σ H Q q)⟩
theorem units1 (C : Cok W n X) : X.A.units + 64 < cLine := C.room.units

/-! ### names, constants -/
def sVar (i : Nat) : Me := fun ρ δ => match ρ[i]? with
  | some (some (.f d)) => some (.f d, δ)
  | some (some (.o d)) => some (.w d, δ)
  | _ => none
theorem lkVar (i : Nat) {x : PySem.Str} (hN : X.N[i]? = some x := by rfl) (hv : Vis X.env.scope x := by first | exact Or.inl rfl | exact Or.inr (Or.inl rfl) | exact Or.inr (Or.inr rfl)) (hd : (x == ("__debug__" : PySem.Str)) = false := by decide)
    (hcd : (x == ("__classdict__" : PySem.Str)) = false := by decide) : PE X (.Name x pos) (tX W (sVar i)) := by
  refine peImp (pe_var hN hv hd hcd) fun σ H Q ⟨F₀, H₀, ρ, F, δ, b, δ', G, hm, k⟩ => ?_
  unfold sVar at hm
  split at hm
  · next d e =>
    cases hm
    obtain ⟨v, hv, s⟩ := G.sl i _ e
    exact ⟨v, hv, k v F H (.refl G.go.fh G.go.dr) s⟩
  · next d e =>
    cases hm
    obtain ⟨v, hv, a, q, f, n, nd, h⟩ := G.sl i _ e
    exact ⟨v, hv, k v F H (.refl G.go.fh G.go.dr) ⟨a, q, n, f, nd, h⟩⟩
  · cases hm
def sC (d : D) : Me := fun _ δ => some (.f d, δ)
theorem lkC {v : V} {d : D} (h : PE X e (tC v)) (r : ∀ F, Rep W F v d) : PE X e (tX W (sC d)) := by
  refine peImp h fun σ H Q ⟨F₀, H₀, ρ, F, δ, b, δ', G, hm, k⟩ => ?_
  cases hm
  exact k v F H (.refl G.go.fh G.go.dr) (r F)
theorem lkInt {i : Int} {j : Nat} : PE X (.Constant (.int i) j pos) (tX W (sC (.int i))) := lkC pe_int fun _ => .int i
theorem lkBl {i : Bool} {j : Nat} : PE X (.Constant (.bool i) j pos) (tX W (sC (.bl i))) := lkC pe_bl fun _ => .bl i
theorem lkNon {j : Nat} : PE X (.Constant .none j pos) (tX W (sC .non)) := lkC pe_non fun _ => .non
theorem lkStr {x : PySem.Str} {j : Nat} : PE X (.Constant (.str x) j pos) (tX W (sC (.str x))) := lkC pe_str fun _ => .str x
/-- a constant of the module -/
theorem lkGlob {x : PySem.Str} {u : Value} {v : V} {d : D} (hm : X.mg x = some u) (r : RelV v u) (rd : ∀ F, Rep W F v d) (hg : Gl X x := by rfl) (hd : (x == ("__debug__" : PySem.Str)) = false := by decide) : PE X (.Name x pos) (tX W (sC d)) := lkC (pe_glob hg hm r hd) rd

/-! ### operations on two values -/
def s2 (g : B → B → Option B) (ma mb : Me) : Me := fun ρ δ => (ma ρ δ).bind fun p => (mb ρ p.2).bind fun q => (g p.1 q.1).bind fun z => some (z, q.2)
def Op2 (W : Wd) (r : R2) (g : B → B → Option B) : Prop := ∀ F H δ x y b1 b2 b, Ext F H → Dr W H δ → Rv W F H x b1 → Rv W F H y b2 → g b1 b2 = some b → ∀ H₀ (Q : VK), (∀ v F' H', Go W F H F' H' δ → Val W H₀ H F' H' v b → Q v H') → r x y H Q
theorem s2_run {r : R2} {g : B → B → Option B} (hr : Op2 W r g) : ∀ σ H Q, tX W (s2 g ma mb) σ H Q → tOp r (tX W ma) (tX W mb) σ H Q := fun σ H Q ⟨F₀, H₀, ρ, F, δ, b, δ', G, hm, k⟩ => by
  obtain ⟨⟨b1, δ1⟩, h1, hm⟩ := Option.bind_eq_some_iff.mp hm
  obtain ⟨⟨b2, δ2⟩, h2, hm⟩ := Option.bind_eq_some_iff.mp hm
  obtain ⟨z, h3, hm⟩ := Option.bind_eq_some_iff.mp hm
  cases hm
  exact ⟨F₀, H₀, ρ, F, δ, b1, δ1, G, h1, fun x F1 H1 g1 v1 => ⟨F₀, H₀, ρ, F1, δ1, b2, δ2, G.later g1, h2, fun y F2 H2 g2 v2 =>
    hr F2 H2 δ2 x y b1 b2 b g2.fh g2.dr (v1.go g2).rv v2.rv h3 H₀ Q fun v F3 H3 g3 v3 => k v F3 H3 ((g1.trans g2).trans g3) (v3.back (g1.trans g2))⟩⟩
theorem lkBin {op : Operator} {r : R2} {g : B → B → Option B} (ho : OpR X (binaryOp op) r) (hr : Op2 W r g) (ha : PE X a (tX W ma)) (hb : PE X b (tX W mb)) : PE X (.BinOp a op b pos) (tX W (s2 g ma mb)) := peImp (pe_op ho ha hb) (s2_run hr)
theorem lkCmp {op : CmpOp} {r : R2} {g : B → B → Option B} (ho : OpR X (compareOp op) r) (hr : Op2 W r g) (ha : PE X a (tX W ma)) (hb : PE X b (tX W mb)) (hm : behindInMarks op b = false := by first | exact nomark _ (by decide) (by decide) | rfl) :
    PE X (.Compare a [op] [b] pos) (tX W (s2 g ma mb)) := peImp (pe_cmpR ho ha hb hm) (s2_run hr)
theorem lkIx {r : R2} {g : B → B → Option B} (ho : IxR X r) (hr : Op2 W r g) (ha : PE X a (tX W ma)) (hb : PE X b (tX W mb)) (hp : PlainIx b := by exact fun _ _ => rfl) : PE X (.Subscript a b pos) (tX W (s2 g ma mb)) := peImp (pe_ix ho ha hb hp) (s2_run hr)

/-! ### one value -/
def s1 (g : B → Option B) (ma : Me) : Me := fun ρ δ => (ma ρ δ).bind fun p => (g p.1).bind fun z => some (z, p.2)
def Op1 (W : Wd) (r : V → Hp → VK → Prop) (g : B → Option B) : Prop := ∀ F H δ x b1 b, Ext F H → Dr W H δ → Rv W F H x b1 → g b1 = some b → ∀ H₀ (Q : VK), (∀ v F' H', Go W F H F' H' δ → Val W H₀ H F' H' v b → Q v H') → r x H Q
theorem s1_run {r : V → Hp → VK → Prop} {g : B → Option B} (hr : Op1 W r g) : ∀ σ H Q, tX W (s1 g ma) σ H Q → tX W ma σ H (fun x H1 => r x H1 Q) := fun σ H Q ⟨F₀, H₀, ρ, F, δ, b, δ', G, hm, k⟩ => by
  obtain ⟨⟨b1, δ1⟩, h1, hm⟩ := Option.bind_eq_some_iff.mp hm
  obtain ⟨z, h3, hm⟩ := Option.bind_eq_some_iff.mp hm
  cases hm
  exact ⟨F₀, H₀, ρ, F, δ, b1, δ1, G, h1, fun x F1 H1 g1 v1 => hr F1 H1 δ1 x b1 b g1.fh g1.dr v1.rv h3 H₀ Q fun v F3 H3 g3 v3 => k v F3 H3 (g1.trans g3) (v3.back g1)⟩

/-! ### argument lists, displays -/
def aNil : MeL := fun _ δ => some ([], δ)
def aCons (m : Me) (ms : MeL) : MeL := fun ρ δ => (m ρ δ).bind fun p => if p.1.isW then none else (ms ρ p.2).bind fun q => some (p.1.d :: q.1, q.2)
theorem lkNil : PA X [] (tXA W aNil) := by
  refine paImp pa_nil fun σ H Q ⟨F₀, H₀, ρ, F, δ, ds, δ', G, hm, k⟩ => ?_
  cases hm
  exact k [] F H (.refl G.go.fh G.go.dr) .nil
theorem lkCons {ms : MeL} (ha : PE X e (tX W ma)) (hr : PA X es (tXA W ms)) (hs : starEach (e :: es) X.env = (false, eval e X.env) :: starEach es X.env := by rfl) : PA X (e :: es) (tXA W (aCons ma ms)) := by
  refine paImp (pa_cons ha hr hs) fun σ H Q ⟨F₀, H₀, ρ, F, δ, ds, δ', G, hm, k⟩ => ?_
  obtain ⟨⟨b1, δ1⟩, h1, hm⟩ := Option.bind_eq_some_iff.mp hm
  cases hw : b1.isW with
  | true => simp [hw] at hm
  | false =>
    simp only [hw] at hm
    obtain ⟨⟨es', δ2⟩, h2, hm⟩ := Option.bind_eq_some_iff.mp (show _ = _ from hm)
    cases hm
    refine ⟨F₀, H₀, ρ, F, δ, b1, δ1, G, h1, fun x F1 H1 g1 v1 => ?_⟩
    obtain ⟨F2, x2, g2, r2⟩ := v1.fix g1 hw
    exact ⟨F₀, H₀, ρ, F2, δ1, es', _, G.later g2, h2, fun vs F3 H3 g3 r3 => k _ F3 H3 (g2.trans g3) (.cons (r2.ext g3.ff) r3)⟩
def cap : Nat := 1000000
theorem cap_le {n : Nat} (h : n ≤ cap) : n ≤ sizeLine := Nat.le_trans h (by decide)
theorem cap_lt {n : Nat} (h : n ≤ cap) : n < sizeLine := Nat.lt_of_le_of_lt h (by decide)
def sTup (ms : MeL) : Me := fun ρ δ => (ms ρ δ).bind fun p => if p.1.length ≤ cap then some (.f (.tup p.1), p.2) else none
def sLst (ms : MeL) : Me := fun ρ δ => (ms ρ δ).bind fun p => if p.1.length ≤ cap then some (.o (.lst p.1), p.2) else none
theorem lkTup {ms : MeL} {x1 : Nat} (h : PA X es (tXA W ms)) : PE X (.Tuple es x1 pos) (tX W (sTup ms)) := by
  refine peImp (pe_tup h) fun σ H Q ⟨F₀, H₀, ρ, F, δ, b, δ', G, hm, k⟩ => ?_
  obtain ⟨⟨ds, δ1⟩, h1, hm⟩ := Option.bind_eq_some_iff.mp hm
  split at hm
  · next hl =>
    cases hm
    refine ⟨F₀, H₀, ρ, F, δ, ds, δ1, G, h1, fun vs F1 H1 g1 r1 => ⟨cap_le (by rw [r1.length]; exact hl), fun p hp => ?_⟩⟩
    exact k _ _ _ (g1.trans (go_tup g1.fh g1.dr hp)) (Rep.tup upd_same (r1.ext (go_tup g1.fh g1.dr hp (xs := vs)).ff))
  · cases hm
theorem lkLst {ms : MeL} (h : PA X es (tXA W ms)) : PE X (.List es pos) (tX W (sLst ms)) := by
  refine peImp (pe_lst h) fun σ H Q ⟨F₀, H₀, ρ, F, δ, b, δ', G, hm, k⟩ => ?_
  obtain ⟨⟨ds, δ1⟩, h1, hm⟩ := Option.bind_eq_some_iff.mp hm
  split at hm
  · next hl =>
    cases hm
    refine ⟨F₀, H₀, ρ, F, δ, ds, δ1, G, h1, fun vs F1 H1 g1 r1 => ⟨cap_le (by rw [r1.length]; exact hl), fun p hp => ?_⟩⟩
    refine k _ F1 _ (g1.trans (go_new g1.fh g1.dr hp)) ⟨p, rfl, g1.free hp, ?_, g1.dr.not hp, vs, upd_same, r1⟩
    cases q : F1 p with
    | none => rfl
    | some o => rw [g1.fh p o q] at hp; cases hp
  · cases hm

/-! ### tests -/
def sTest (m : Me) : MeT := fun ρ δ => (m ρ δ).bind fun p => match p.1 with
  | .f (.bl c) => some (c, p.2)
  | _ => none
theorem sTest_run : ∀ σ H (Q : Bool → Hp → Prop), tXT W (sTest ma) σ H Q → tX W ma σ H (fun x H1 => ∃ k, x = .bl k ∧ Q k H1) := fun σ H Q ⟨F₀, H₀, ρ, F, δ, c, δ', G, hm, k⟩ => by
  obtain ⟨⟨b1, δ1⟩, h1, hm⟩ := Option.bind_eq_some_iff.mp hm
  refine ⟨F₀, H₀, ρ, F, δ, b1, δ1, G, h1, fun x F1 H1 g1 v1 => ?_⟩
  cases b1 with
  | f d =>
    cases d with
    | bl c' =>
      cases hm
      cases v1
      exact ⟨_, rfl, k F1 H1 g1⟩
    | _ => cases hm
  | _ => cases hm
theorem lkTCmp {op : CmpOp} {r : R2} {g : B → B → Option B} (ho : OpR X (compareOp op) r) (hr : Op2 W r g) (ha : PE X a (tX W ma)) (hb : PE X b (tX W mb)) (hm : behindInMarks op b = false := by first | exact nomark _ (by decide) (by decide) | rfl) :
    PT X (.Compare a [op] [b] pos) (tXT W (sTest (s2 g ma mb))) := by
  refine ptImp (pt_cmpR ho ha hb hm) fun σ H Q h => ?_
  exact s2_run hr σ H _ (sTest_run σ H Q h)
/-- a call, a name, a subscript, an attribute, by its value (a bool) -/
theorem lkTVal (h : PE X e (tX W ma)) (he : ∀ whole, isTrue e X.env whole = (do let v ← whole; standAt e.pos; holding [v] (truthy v)) := by intro _; rfl) : PT X e (tXT W (sTest ma)) := ptImp (pt_val h he) sTest_run
def tNotM (m : MeT) : MeT := fun ρ δ => (m ρ δ).bind fun p => some (!p.1, p.2)
theorem lkTNot {m : MeT} (h : PT X a (tXT W m)) : PT X (.UnaryOp .Not a pos) (tXT W (tNotM m)) := by
  refine ptImp (pt_not h) fun σ H Q ⟨F₀, H₀, ρ, F, δ, c, δ', G, hm, k⟩ => ?_
  obtain ⟨⟨b1, δ1⟩, h1, hm⟩ := Option.bind_eq_some_iff.mp hm
  cases hm
  exact ⟨F₀, H₀, ρ, F, δ, b1, _, G, h1, k⟩
def tAndM (m m' : MeT) : MeT := fun ρ δ => (m ρ δ).bind fun p => if p.1 then m' ρ p.2 else some (false, p.2)
def tOrM (m m' : MeT) : MeT := fun ρ δ => (m ρ δ).bind fun p => if p.1 then some (true, p.2) else m' ρ p.2
section
variable {m m' : MeT}
theorem and_run : ∀ σ H Q, tXT W (tAndM m m') σ H Q → tAnd (tXT W m) (tXT W m') σ H Q := fun σ H Q ⟨F₀, H₀, ρ, F, δ, c, δ', G, hm, k⟩ => by
  obtain ⟨⟨b1, δ1⟩, h1, hm⟩ := Option.bind_eq_some_iff.mp hm
  refine ⟨F₀, H₀, ρ, F, δ, b1, δ1, G, h1, fun F1 H1 g1 => ?_⟩
  cases b1 with
  | true => exact iteT ⟨F₀, H₀, ρ, F1, δ1, c, δ', G.later g1, hm, fun F2 H2 g2 => k F2 H2 (g1.trans g2)⟩
  | false => cases hm; exact iteF (k F1 H1 g1)
theorem or_run : ∀ σ H Q, tXT W (tOrM m m') σ H Q → tOr (tXT W m) (tXT W m') σ H Q := fun σ H Q ⟨F₀, H₀, ρ, F, δ, c, δ', G, hm, k⟩ => by
  obtain ⟨⟨b1, δ1⟩, h1, hm⟩ := Option.bind_eq_some_iff.mp hm
  refine ⟨F₀, H₀, ρ, F, δ, b1, δ1, G, h1, fun F1 H1 g1 => ?_⟩
  cases b1 with
  | true => cases hm; exact iteT (k F1 H1 g1)
  | false => exact iteF ⟨F₀, H₀, ρ, F1, δ1, c, δ', G.later g1, hm, fun F2 H2 g2 => k F2 H2 (g1.trans g2)⟩
theorem lkWAnd1 (h : PT X a (tXT W m)) : PW X (.BoolOp .And [a] pos) (tXT W m) := pw_and1 h
theorem lkWOr1 (h : PT X a (tXT W m)) : PW X (.BoolOp .Or [a] pos) (tXT W m) := pw_or1 h
theorem lkWAnd {rest : List Expr} (h : PT X a (tXT W m)) (hb : PW X (.BoolOp .And (b :: rest) pos) (tXT W m')) : PW X (.BoolOp .And (a :: b :: rest) pos) (tXT W (tAndM m m')) := pwImp (pw_and h hb) and_run
theorem lkWOr {rest : List Expr} (h : PT X a (tXT W m)) (hb : PW X (.BoolOp .Or (b :: rest) pos) (tXT W m')) : PW X (.BoolOp .Or (a :: b :: rest) pos) (tXT W (tOrM m m')) := pwImp (pw_or h hb) or_run
end
/-! .. as values -/
def sAnd (ma mb : Me) : Me := fun ρ δ => (ma ρ δ).bind fun p => match p.1 with
  | .f (.bl true) => mb ρ p.2
  | .f (.bl false) => some (.f (.bl false), p.2)
  | _ => none
def sOr (ma mb : Me) : Me := fun ρ δ => (ma ρ δ).bind fun p => match p.1 with
  | .f (.bl true) => some (.f (.bl true), p.2)
  | .f (.bl false) => mb ρ p.2
  | _ => none
def sNot (ma : Me) : Me := fun ρ δ => (ma ρ δ).bind fun p => match p.1 with
  | .f (.bl c) => some (.f (.bl (!c)), p.2)
  | _ => none
theorem lkAnd {rest : List Expr} (ha : PE X a (tX W ma)) (hb : PE X (.BoolOp .And (b :: rest) pos) (tX W mb)) : PE X (.BoolOp .And (a :: b :: rest) pos) (tX W (sAnd ma mb)) := by
  refine peImp (pe_and ha hb) fun σ H Q ⟨F₀, H₀, ρ, F, δ, r, δ', G, hm, k⟩ => ?_
  obtain ⟨⟨b1, δ1⟩, h1, hm⟩ := Option.bind_eq_some_iff.mp hm
  refine ⟨F₀, H₀, ρ, F, δ, b1, δ1, G, h1, fun x F1 H1 g1 v1 => ?_⟩
  cases b1 with
  | f d =>
    cases d with
    | bl c' =>
      cases v1
      refine ⟨c', rfl, ?_⟩
      cases c' with
      | true => exact iteT ⟨F₀, H₀, ρ, F1, δ1, r, δ', G.later g1, hm, fun v F2 H2 g2 v2 => k v F2 H2 (g1.trans g2) (v2.back g1)⟩
      | false => cases hm; exact iteF (k _ F1 H1 g1 (.bl false))
    | _ => cases hm
  | _ => cases hm
theorem lkOr {rest : List Expr} (ha : PE X a (tX W ma)) (hb : PE X (.BoolOp .Or (b :: rest) pos) (tX W mb)) : PE X (.BoolOp .Or (a :: b :: rest) pos) (tX W (sOr ma mb)) := by
  refine peImp (pe_or ha hb) fun σ H Q ⟨F₀, H₀, ρ, F, δ, r, δ', G, hm, k⟩ => ?_
  obtain ⟨⟨b1, δ1⟩, h1, hm⟩ := Option.bind_eq_some_iff.mp hm
  refine ⟨F₀, H₀, ρ, F, δ, b1, δ1, G, h1, fun x F1 H1 g1 v1 => ?_⟩
  cases b1 with
  | f d =>
    cases d with
    | bl c' =>
      cases v1
      refine ⟨c', rfl, ?_⟩
      cases c' with
      | true => cases hm; exact iteT (k _ F1 H1 g1 (.bl true))
      | false => exact iteF ⟨F₀, H₀, ρ, F1, δ1, r, δ', G.later g1, hm, fun v F2 H2 g2 v2 => k v F2 H2 (g1.trans g2) (v2.back g1)⟩
    | _ => cases hm
  | _ => cases hm
theorem lkBool1 {op : BoolOp} (ha : PE X a (tX W ma)) : PE X (.BoolOp op [a] pos) (tX W ma) := pe_one ha
theorem lkNot (ha : PE X a (tX W ma)) : PE X (.UnaryOp .Not a pos) (tX W (sNot ma)) := by
  refine peImp (pe_not ha) fun σ H Q ⟨F₀, H₀, ρ, F, δ, r, δ', G, hm, k⟩ => ?_
  obtain ⟨⟨b1, δ1⟩, h1, hm⟩ := Option.bind_eq_some_iff.mp hm
  refine ⟨F₀, H₀, ρ, F, δ, b1, δ1, G, h1, fun x F1 H1 g1 v1 => ?_⟩
  cases b1 with
  | f d =>
    cases d with
    | bl c' =>
      cases v1
      cases hm
      exact ⟨c', rfl, k _ F1 H1 g1 (.bl _)⟩
    | _ => cases hm
  | _ => cases hm
def sIf (m : MeT) (ma mb : Me) : Me := fun ρ δ => (m ρ δ).bind fun p => if p.1 then ma ρ p.2 else mb ρ p.2
theorem lkIf {m : MeT} (hc : PT X c (tXT W m)) (ha : PE X a (tX W ma)) (hb : PE X b (tX W mb)) : PE X (.IfExp c a b pos) (tX W (sIf m ma mb)) := by
  refine peImp (pe_ifExp hc ha hb) fun σ H Q ⟨F₀, H₀, ρ, F, δ, r, δ', G, hm, k⟩ => ?_
  obtain ⟨⟨b1, δ1⟩, h1, hm⟩ := Option.bind_eq_some_iff.mp hm
  refine ⟨F₀, H₀, ρ, F, δ, b1, δ1, G, h1, fun F1 H1 g1 => ?_⟩
  cases b1 with
  | true => exact iteT ⟨F₀, H₀, ρ, F1, δ1, r, δ', G.later g1, hm, fun v F2 H2 g2 v2 => k v F2 H2 (g1.trans g2) (v2.back g1)⟩
  | false => exact iteF ⟨F₀, H₀, ρ, F1, δ1, r, δ', G.later g1, hm, fun v F2 H2 g2 v2 => k v F2 H2 (g1.trans g2) (v2.back g1)⟩
end
end Py
/-! Layer, part C: promises and calls of defs; what is walked; targets; list comprehensions. -/
namespace Py
open PySem L2

/-! ### promises -/
abbrev Fn := List D → DS → Option (B × DS)
def spF (W : Wd) (n : Nat) (m : Fn) : Sp := fun vs H Q _ => ∃ F δ ds b δ', ds.length = n ∧ Ext F H ∧ Dr W H δ ∧ (∀ a, W.dr a → F a = none) ∧ Reps W F vs ds ∧ b.isW = false ∧ m ds δ = some (b, δ') ∧
  ∀ v F' H', Go W F H F' H' δ' → Val W H H F' H' v b → Q v H'
theorem spF_len {W : Wd} {n : Nat} {m : Fn} {ps : List PySem.Str} (h : n = ps.length) : ∀ vs H Q E, spF W n m vs H Q E → vs.length = ps.length := fun vs H Q E ⟨F, δ, ds, b, δ', hl, _, _, _, r, _⟩ => by
  rw [r.length, hl, h]
theorem Good.dn {W : Wd} {F₀ H₀ F H : Hp} {σ : L2.St} {ρ : En} {δ : DS} (G : Good W F₀ H₀ σ ρ F H δ) : ∀ a, W.dr a → F a = none := fun a ha => by
  cases q : F a with
  | none => rfl
  | some o =>
    obtain ⟨δ₀, hd⟩ := G.d0
    obtain ⟨u, hu⟩ := hd.at ha
    have hf := G.f0 a ha
    rcases G.go.nw a o q with z | z
    · rw [hf] at z; cases z
    · rw [hu] at z; cases z
def sCall (f : Fn) (ms : MeL) : Me := fun ρ δ => (ms ρ δ).bind fun p => (f p.1 p.2).bind fun q => if q.1.isW then none else some q
theorem Val.h0 {W : Wd} {H₀ H₁ H F' H' : Hp} {v : V} : ∀ {b : B}, b.isW = false → Val W H₀ H F' H' v b → Val W H₁ H F' H' v b
  | .f _, _, h => h
  | .o _, _, h => h
/-- what a callee asks and gives, in a caller -/
theorem sCall_run {W : Wd} {f : Fn} {n : Nat} {ms : MeL} {E : XK} (hn : ∀ ρ δ ds δ', ms ρ δ = some (ds, δ') → ds.length = n) : ∀ σ H Q, tX W (sCall f ms) σ H Q → tCall (spF W n f) [] E (tXA W ms) σ H Q := fun σ H Q ⟨F₀, H₀, ρ, F, δ, b, δ', G, hm, k⟩ => by
  obtain ⟨⟨ds, δ1⟩, h1, hm⟩ := Option.bind_eq_some_iff.mp hm
  obtain ⟨⟨b1, δ2⟩, h2, hm⟩ := Option.bind_eq_some_iff.mp hm
  cases hw : b1.isW with
  | true => simp [hw] at hm
  | false =>
    simp only [hw] at hm
    cases hm
    refine ⟨F₀, H₀, ρ, F, δ, ds, δ1, G, h1, fun vs F1 H1 g1 r1 => ⟨F1, δ1, ds, b, _, hn _ _ _ _ h1, g1.fh, g1.dr, (G.later g1).dn, by rw [List.append_nil]; exact r1, hw, h2, fun v F2 H2 g2 v2 => ?_⟩⟩
    exact k v F2 H2 (g1.trans g2) ((v2.h0 hw).back g1)
theorem aNil_len : ∀ (ρ : En) (δ : DS) (ds : List D) (δ' : DS), aNil ρ δ = some (ds, δ') → ds.length = 0 := fun _ _ _ _ h => by cases h; rfl
theorem aCons_len {m : Me} {ms : MeL} {n : Nat} (h : ∀ ρ δ ds δ', ms ρ δ = some (ds, δ') → ds.length = n) : ∀ (ρ : En) (δ : DS) (ds : List D) (δ' : DS), aCons m ms ρ δ = some (ds, δ') → ds.length = n + 1 := fun ρ δ ds δ' hm => by
  obtain ⟨⟨b1, δ1⟩, h1, hm⟩ := Option.bind_eq_some_iff.mp hm
  cases hw : b1.isW with
  | true => simp [hw] at hm
  | false =>
    simp only [hw] at hm
    obtain ⟨⟨es', δ2⟩, h2, hm⟩ := Option.bind_eq_some_iff.mp (show _ = _ from hm)
    cases hm
    exact congrArg Nat.succ (h _ _ _ _ h2)
/-- a def that keeps its promise, as a caller wants it -/
structure Fk (P : Program) (w : World) (mg : PySem.Str → Option Value) (base : Heap) (W : Wd) (k : Nat) (x : PySem.Str) (n : Nat) (m : Fn) : Prop where
  ex : ∃ f fd ps, FnOk P w W.K mg base CX0 k f fd ps (spF W n m) ∧ mg x = some (.ref f) ∧ PySem.W.keepIn W.K (.ref f) = true ∧ Binds W.K fd ps []
section
variable {X : Cx} {W : Wd} {n k : Nat} {x : PySem.Str} {f : Fn} {e : Expr} {es : List Expr} {ms : MeL} {p pos : Pos}
theorem lkCall (C : Cok W n X) (F : Fk X.prog X.w X.mg X.base W k x (es.length + 1) f) (ha : PA X (e :: es) (tXA W ms)) (hn : ∀ ρ δ ds δ', ms ρ δ = some (ds, δ') → ds.length = es.length + 1) (hk : k ≤ n) (hg : Gl X x := by rfl) (hdb : (x == ("__debug__" : PySem.Str)) = false := by decide)
    (he : starEach (e :: es) X.env = (false, eval e X.env) :: starEach es X.env := by rfl) (hpl : (backTo pos (starEach es X.env)).any (·.1) = false := by rfl) : PE X (.Call (.Name x p) (e :: es) [] pos) (tX W (sCall f ms)) := by
  obtain ⟨fa, fd, ps, F1, hm, hkp, hb⟩ := F.ex
  rw [← C.k] at F1 hkp hb
  exact peImp (pe_call F1 (C.room.mono hk) hg hm hkp hb .nil pass0 ha hdb he hpl) (sCall_run hn)
end

/-! ### what is walked -/
/-- may the heap be so behind the iterator's making: for lent sources only as expressions go on; else whatever keeps what is fixed -/
def Wt (W : Wd) (F' H' : Hp) (lent : Bool) (F2 H2 : Hp) (δ2 : DS) : Prop := if lent then Go W F' H' F2 H2 δ2 else Ext F' F2 ∧ Ext F2 H2 ∧ Dr W H2 δ2
theorem Wt.of {W : Wd} {F' H' F2 H2 : Hp} {δ2 : DS} (g : Go W F' H' F2 H2 δ2) (l : Bool) : Wt W F' H' l F2 H2 δ2 := by
  unfold Wt
  cases l with
  | true => exact iteT g
  | false => exact iteF ⟨g.ff, g.fh, g.dr⟩
structure Wlk (W : Wd) (J : It) (ds : List D) (lent : Bool) (F' H' : Hp) : Prop where
  ex : ∃ G Y, Walk J ds.length G Y ∧ (∀ F2 H2 δ2, Wt W F' H' lent F2 H2 δ2 → G H2) ∧
    ∀ i H2 x H3 F2 δ2, i < ds.length → Wt W F' H' lent F2 H2 δ2 → Y i H2 x H3 → ∃ F3 d, Go W F2 H2 F3 H3 δ2 ∧ ds[i]? = some d ∧ Rep W F3 x d
abbrev MeI := En → DS → Option ((List D × Bool) × DS)
def iX (W : Wd) (m : MeI) : TI := fun σ H R => ∃ F₀ H₀ ρ F δ r δ', Good W F₀ H₀ σ ρ F H δ ∧ m ρ δ = some (r, δ') ∧ ∀ J F' H', Go W F H F' H' δ' → Wlk W J r.1 r.2 F' H' → R J H'
theorem piImp {X : Cx} {tg it : Expr} {t t' : TI} (h : PI X tg it t) (i : ∀ σ H R, t' σ H R → t σ H R) : PI X tg it t' := ⟨fun pins s σ H R I q => h.run pins s σ H R I (i σ H R q)⟩

/-! ### targets -/
def wipeE (ρ : En) : List Nat → En
  | [] => ρ
  | v :: vs => (wipeE ρ vs).set v none
abbrev MeG := D → En → Option En
/-- a target stores data at the slots is -/
def gX (W : Wd) (is : List Nat) (m : MeG) : TG := fun v σ H Q => ∃ F₀ H₀ ρ F δ d ρ', Good W F₀ H₀ σ ρ F H δ ∧ Rep W F v d ∧ m d ρ = some ρ' ∧
  ∀ σ', Good W F₀ H₀ σ' ρ' F H δ → (∀ vs, (∀ i ∈ is, i ∈ vs) → wipe σ' vs = wipe σ vs) → Q σ' H
def gXs (W : Wd) (is : List Nat) (m : List D → En → Option En) : TGs := fun vs σ H Q => ∃ F₀ H₀ ρ F δ ds ρ', Good W F₀ H₀ σ ρ F H δ ∧ Reps W F vs ds ∧ m ds ρ = some ρ' ∧
  ∀ σ', Good W F₀ H₀ σ' ρ' F H δ → (∀ vs, (∀ i ∈ is, i ∈ vs) → wipe σ' vs = wipe σ vs) → Q σ' H
theorem pgImp {X : Cx} {e : Expr} {t t' : TG} (h : PG X e t) (i : ∀ v σ H Q, t' v σ H Q → t v σ H Q) : PG X e t' := ⟨fun pins s σ H x v Q I r q => h.run pins s σ H x v Q I r (i x σ H Q q)⟩
theorem pgsImp {X : Cx} {es : List Expr} {t t' : TGs} (h : PGs X es t) (i : ∀ v σ H Q, t' v σ H Q → t v σ H Q) : PGs X es t' := ⟨fun pins s σ H x v Q I r q => h.run pins s σ H x v Q I r (i x σ H Q q)⟩
theorem wipe_get {σ : L2.St} : ∀ {vs : List Nat} {i : Nat}, i ∉ vs → (wipe σ vs)[i]? = σ[i]?
  | [], _, _ => rfl
  | v :: vs, i, h => by
    simp only [List.mem_cons, not_or] at h
    unfold wipe
    rw [List.getElem?_set_ne (fun e => h.1 e.symm), wipe_get h.2]
theorem wipe_in {σ : L2.St} : ∀ {vs : List Nat} {i : Nat}, i ∈ vs → i < σ.length → (wipe σ vs)[i]? = some none
  | v :: vs, i, h, hl => by
    unfold wipe
    by_cases e : v = i
    · subst e; exact List.getElem?_set_self (by rw [wipe_length]; exact hl)
    · rw [List.getElem?_set_ne e]
      exact wipe_in ((List.mem_cons.mp h).resolve_left fun q => e q.symm) hl
theorem wipe_set {σ : L2.St} {i : Nat} {x : Option V} {vs : List Nat} (h : i ∈ vs) : wipe (σ.set i x) vs = wipe σ vs := by
  apply List.ext_getElem?
  intro j
  by_cases hj : j ∈ vs
  · by_cases hl : j < σ.length
    · rw [wipe_in hj (by rw [List.length_set]; exact hl), wipe_in hj hl]
    · rw [List.getElem?_eq_none (by rw [wipe_length, List.length_set]; omega), List.getElem?_eq_none (by rw [wipe_length]; omega)]
  · rw [wipe_get hj, wipe_get hj, List.getElem?_set_ne (fun e => hj (by rw [← e]; exact h))]
/-- a slot stored: shared data -/
theorem Good.setF {W : Wd} {F₀ H₀ F H : Hp} {σ : L2.St} {ρ : En} {δ : DS} (G : Good W F₀ H₀ σ ρ F H δ) (i : Nat) {v : V} {d : D} (r : Rep W F v d) : Good W F₀ H₀ (σ.set i (some v)) (ρ.set i (some (.f d))) F H δ where
  go := G.go
  d0 := G.d0
  f0 := G.f0
  len := by rw [List.length_set, List.length_set]; exact G.len
  sl := fun j b e => by
    by_cases hj : i = j
    · subst hj
      have hl : i < ρ.length := by
        have := List.getElem?_eq_some_iff.mp e
        obtain ⟨h, _⟩ := this
        rw [List.length_set] at h; exact h
      rw [List.getElem?_set_self hl] at e
      cases e
      exact ⟨v, List.getElem?_set_self (by rw [G.len]; exact hl), r⟩
    · rw [List.getElem?_set_ne hj] at e ⊢
      exact G.sl j b e
  sep := fun j k a d e h1 h2 h3 h4 => by
    by_cases hj : i = j
    · subst hj
      have hl : i < ρ.length := by
        obtain ⟨h, _⟩ := List.getElem?_eq_some_iff.mp h1
        rw [List.length_set] at h; exact h
      rw [List.getElem?_set_self hl] at h1; cases h1
    · by_cases hk : i = k
      · subst hk
        have hl : i < ρ.length := by
          obtain ⟨h, _⟩ := List.getElem?_eq_some_iff.mp h2
          rw [List.length_set] at h; exact h
        rw [List.getElem?_set_self hl] at h2; cases h2
      · rw [List.getElem?_set_ne hj] at h1 h3
        rw [List.getElem?_set_ne hk] at h2 h4
        exact G.sep j k a d e h1 h2 h3 h4
/-- a slot forgotten -/
theorem Good.unset {W : Wd} {F₀ H₀ F H : Hp} {σ : L2.St} {ρ : En} {δ : DS} (G : Good W F₀ H₀ σ ρ F H δ) (i : Nat) (x : Option V) : Good W F₀ H₀ (σ.set i x) (ρ.set i none) F H δ where
  go := G.go
  d0 := G.d0
  f0 := G.f0
  len := by rw [List.length_set, List.length_set]; exact G.len
  sl := fun j b e => by
    by_cases hj : i = j
    · subst hj
      by_cases hl : i < ρ.length
      · rw [List.getElem?_set_self hl] at e; cases e
      · rw [List.getElem?_eq_none (by rw [List.length_set]; omega)] at e; cases e
    · rw [List.getElem?_set_ne hj] at e ⊢
      exact G.sl j b e
  sep := fun j k a d e h1 h2 h3 h4 => by
    by_cases hj : i = j
    · subst hj
      by_cases hl : i < ρ.length
      · rw [List.getElem?_set_self hl] at h1; cases h1
      · rw [List.getElem?_eq_none (by rw [List.length_set]; omega)] at h1; cases h1
    · by_cases hk : i = k
      · subst hk
        by_cases hl : i < ρ.length
        · rw [List.getElem?_set_self hl] at h2; cases h2
        · rw [List.getElem?_eq_none (by rw [List.length_set]; omega)] at h2; cases h2
      · rw [List.getElem?_set_ne hj] at h1 h3
        rw [List.getElem?_set_ne hk] at h2 h4
        exact G.sep j k a d e h1 h2 h3 h4
theorem Good.wipe {W : Wd} {F₀ H₀ F H : Hp} {σ : L2.St} {ρ : En} {δ : DS} (G : Good W F₀ H₀ σ ρ F H δ) : ∀ vs : List Nat, Good W F₀ H₀ (wipe σ vs) (wipeE ρ vs) F H δ
  | [] => G
  | v :: vs => (G.wipe vs).unset v none
def gNm (i : Nat) : MeG := fun d ρ => some (ρ.set i (some (.f d)))
def gNl : List D → En → Option En := fun ds ρ => match ds with
  | [] => some ρ
  | _ => none
def gCn (m : MeG) (ms : List D → En → Option En) : List D → En → Option En := fun ds ρ => match ds with
  | d :: r => (m d ρ).bind fun ρ1 => ms r ρ1
  | [] => none
def gTp (ms : List D → En → Option En) : MeG := fun d ρ => match d with
  | .tup ds => ms ds ρ
  | _ => none
section
variable {X : Cx} {W : Wd} {e : Expr} {es : List Expr} {pos : Pos} {is js : List Nat} {m : MeG} {ms : List D → En → Option En}
theorem lkGNm {i : Nat} {x : PySem.Str} (hN : X.N.Nodup) (hi : X.N[i]? = some x) (hx : Loc X.env.scope x) (hf : X.fn x = true ∨ X.env.scope.names.lookup x = some .local := by first | exact .inl rfl | exact .inr rfl | assumption) : PG X (.Name x pos) (gX W [i] (gNm i)) :=
  pgImp (pg_name hN hi hx hf) fun v σ H Q ⟨F₀, H₀, ρ, F, δ, d, ρ', G, r, hm, k⟩ => by
    cases hm
    exact k _ (G.setF i r) fun vs hv => wipe_set (hv i (List.mem_singleton.mpr rfl))
theorem lkGNil : PGs X [] (gXs W [] gNl) := pgsImp pgs_nil fun v σ H Q ⟨F₀, H₀, ρ, F, δ, ds, ρ', G, r, hm, k⟩ => by
  cases r with
  | nil => cases hm; exact ⟨rfl, k _ G fun _ _ => rfl⟩
  | cons _ _ => cases hm
theorem lkGCons (h1 : PG X e (gX W is m)) (h2 : PGs X es (gXs W js ms)) (hs : (assignEach (e :: es) X.env).map (·.2) = assign e X.env :: (assignEach es X.env).map (·.2) := by rfl) : PGs X (e :: es) (gXs W (is ++ js) (gCn m ms)) := pgsImp (pgs_cons h1 h2 hs) fun v σ H Q ⟨F₀, H₀, ρ, F, δ, ds, ρ', G, r, hm, k⟩ => by
  cases r with
  | nil => cases hm
  | cons r rs =>
    obtain ⟨ρ1, h1, h2⟩ := Option.bind_eq_some_iff.mp hm
    exact ⟨_, _, rfl, F₀, H₀, ρ, F, δ, _, ρ1, G, r, h1, fun σ1 G1 w1 => ⟨F₀, H₀, ρ1, F, δ, _, ρ', G1, rs, h2, fun σ2 G2 w2 => k σ2 G2 fun vs hv =>
      (w2 vs fun i hi => hv i (List.mem_append_right _ hi)).trans (w1 vs fun i hi => hv i (List.mem_append_left _ hi))⟩⟩
theorem gLen_nil : ∀ ds ρ ρ', gNl ds ρ = some ρ' → ds.length = 0 := fun ds ρ ρ' h => by cases ds with
  | nil => rfl
  | cons _ _ => cases h
theorem gLen_cons {n : Nat} (h : ∀ ds ρ ρ', ms ds ρ = some ρ' → ds.length = n) : ∀ ds ρ ρ', gCn m ms ds ρ = some ρ' → ds.length = n + 1 := fun ds ρ ρ' q => by
  cases ds with
  | nil => cases q
  | cons d r =>
    obtain ⟨ρ1, h1, h2⟩ := Option.bind_eq_some_iff.mp (show (m d ρ).bind _ = _ from q)
    exact congrArg Nat.succ (h _ _ _ h2)
theorem lkGTup {k n : Nat} (hc : X.calm = true) (h : PGs X es (gXs W is ms)) (hl : ∀ ds ρ ρ', ms ds ρ = some ρ' → ds.length = n) (hn : (assignEach es X.env).length = n := by rfl) (hst : (assignEach es X.env).findIdx? (·.1) = none := by rfl) (hK : X.K = W.K) :
    PG X (.Tuple es k pos) (gX W is (gTp ms)) := pgImp (pg_tup hc h hn hst) fun v σ H Q ⟨F₀, H₀, ρ, F, δ, d, ρ', G, r, hm, k⟩ => by
  cases d with
  | tup ds =>
    cases r with
    | tup hs rs => exact ⟨_, _, rfl, by rw [hK]; exact tq (G.go.fh _ _ hs), by rw [rs.length]; exact hl _ _ _ hm, F₀, H₀, ρ, F, δ, ds, ρ', G, rs, hm, k⟩
  | _ => cases hm
end
end Py
/-! Layer, part D: list comprehensions; statements. -/
namespace Py
open PySem L2

/-! ### list comprehensions -/
def lcF (mg : MeG) (mt : MeT) (me : Me) (ρ : En) : List D → DS → Option (List D × DS)
  | [], δ => some ([], δ)
  | d :: ds, δ => (mg d ρ).bind fun ρ1 => (mt ρ1 δ).bind fun p => if p.1 then (me ρ1 p.2).bind fun q => if q.1.isW then none else (lcF mg mt me ρ ds q.2).bind fun r => some (q.1.d :: r.1, r.2)
      else lcF mg mt me ρ ds p.2
def sLc (mi : MeI) (mg : MeG) (mt : MeT) (me : Me) (own : List Nat) : Me := fun ρ δ => (mi ρ δ).bind fun p => if p.1.1.length ≤ cap then (lcF mg mt me (wipeE ρ own) p.1.1 p.2).bind fun q => some (.o (.lst q.1), q.2) else none
theorem wipe_wipe {σ : L2.St} : ∀ {vs : List Nat}, wipe (wipe σ vs) vs = wipe σ vs := fun {vs} => by
  apply List.ext_getElem?
  intro j
  by_cases hj : j ∈ vs
  · by_cases hl : j < σ.length
    · rw [wipe_in hj (by rw [wipe_length]; exact hl), wipe_in hj hl]
    · rw [List.getElem?_eq_none (by rw [wipe_length, wipe_length]; omega), List.getElem?_eq_none (by rw [wipe_length]; omega)]
  · rw [wipe_get hj]
theorem Go.updN {W : Wd} {F H F' H' : Hp} {δ : DS} {p : Addr} {o : HO} (g : Go W F H F' H' δ) (d : ∃ δ₀, Dr W H δ₀) (hp : H p = none) (fp : F' p = none) : Go W F H F' (upd H' p o) δ where
  ff := g.ff
  fh := fun a u h => by rw [upd_ne (ne_of_none h fp)]; exact g.fh a u h
  hh := fun a u h n => by rw [upd_ne (ne_of_none h hp)]; exact g.hh a u h n
  nw := g.nw
  dr := fun on => by
    have q := g.dr on
    obtain ⟨δ₀, d⟩ := d
    have q0 := d on
    exact ⟨by rw [upd_ne (ne_of_none q0.d hp)]; exact q.d, by rw [upd_ne (ne_of_none q0.l hp)]; exact q.l, by rw [upd_ne (ne_of_none q0.c hp)]; exact q.c, q.lc, q.r0, q.m0, q.lg, q.ne⟩
theorem Go.notF {W : Wd} {F H F' H' : Hp} {δ : DS} {p : Addr} {o : HO} (g : Go W F H F' H' δ) (hp : H p = some o) (fp : F p = none) : F' p = none := by
  cases q : F' p with
  | none => rfl
  | some u =>
    rcases g.nw p u q with z | z
    · rw [fp] at z; cases z
    · rw [hp] at z; cases z
section
variable {X : Cx} {W : Wd} {mi : MeI} {mg : MeG} {mt : MeT} {me : Me} {own is : List Nat}
theorem lc_run (his : ∀ i ∈ is, i ∈ own) : ∀ σ H Q, tX W (sLc mi mg mt me own) σ H Q → tLc (iX W mi) (gX W is mg) (tXT W mt) (tX W me) own σ H Q := fun σ H Q ⟨F₀, H₀, ρ, F, δ, b, δ', G, hm, k⟩ => by
  obtain ⟨⟨⟨ds, l⟩, δ1⟩, h1, hm⟩ := Option.bind_eq_some_iff.mp hm
  by_cases hcap : ds.length ≤ cap
  case neg => simp only [if_neg hcap] at hm; cases hm
  rw [if_pos hcap] at hm
  obtain ⟨⟨tot, δ2⟩, h2, hm⟩ := Option.bind_eq_some_iff.mp hm
  cases hm
  refine ⟨F₀, H₀, ρ, F, δ, (ds, l), δ1, G, h1, fun J F1 H1 g1 wl D hD => ?_⟩
  obtain ⟨Gp, Y, w, st, yl⟩ := wl.ex
  refine lc_it w (fun i H' => ∃ F2 δ3 vs acc rest, Go W F1 H1 F2 H' δ3 ∧ F2 D = none ∧ H' D = some (.lst vs) ∧ Reps W F2 vs acc ∧ lcF mg mt me (wipeE ρ own) (ds.drop i) δ3 = some (rest, δ2) ∧ acc ++ rest = tot ∧ acc.length ≤ i) ?_ ?_ ?_ ?_
  · refine ⟨F1, δ1, [], [], tot, (Go.refl g1.fh g1.dr).updN ⟨_, g1.dr⟩ hD ?_, ?_, upd_same, .nil, h2, rfl, Nat.le_refl _⟩
    all_goals
      cases q : F1 D with
      | none => rfl
      | some o => rw [g1.fh D o q] at hD; cases hD
  · intro i H' hi ⟨F2, δ3, vs, acc, rest, g2, f2, e2, r2, hl, ht, hai⟩
    exact st F2 H' δ3 (Wt.of g2 l)
  · intro i x H2 H3 hi ⟨F2, δ3, vs, acc, rest, g2, f2, e2, r2, hl, ht, hai⟩ y
    obtain ⟨F3, d, g3, hd, rd⟩ := yl i H2 x H3 F2 δ3 hi (Wt.of g2 l) y
    have hdr : ds.drop i = d :: ds.drop (i + 1) := by
      obtain ⟨hlt, e⟩ := List.getElem?_eq_some_iff.mp hd
      rw [List.drop_eq_getElem_cons hlt, e]
    rw [hdr] at hl
    obtain ⟨ρ1, hg, hl⟩ := Option.bind_eq_some_iff.mp (show (mg d (wipeE ρ own)).bind _ = _ from hl)
    obtain ⟨⟨c, δ4⟩, hc, hl⟩ := Option.bind_eq_some_iff.mp hl
    have g13 := g2.trans g3
    have GW : Good W F₀ H₀ (wipe σ own) (wipeE ρ own) F3 H3 δ3 := (G.later (g1.trans g13)).wipe own
    refine ⟨F₀, H₀, wipeE ρ own, F3, δ3, d, ρ1, GW, rd, hg, fun σ' G' hw => ⟨(hw own his).trans wipe_wipe, ?_⟩⟩
    have nD : ¬ W.dr D := g1.dr.not hD
    refine ⟨F₀, H₀, ρ1, F3, δ3, c, δ4, G', hc, fun F4 H4 g4 => ?_⟩
    have g14 := g13.trans g4
    have e4 : H4 D = some (.lst vs) := g4.hh D _ (g3.hh D _ e2 nD) nD
    have f4 : F4 D = none := g4.notF (g3.hh D _ e2 nD) (g3.notF e2 f2)
    cases c with
    | false =>
      refine iteF ⟨F4, δ4, vs, acc, rest, g14, f4, e4, r2.ext (g3.ff.trans g4.ff), hl, ht, by omega⟩
    | true =>
      obtain ⟨⟨bb, δ5⟩, he, hl⟩ := Option.bind_eq_some_iff.mp (show (me ρ1 δ4).bind _ = _ from hl)
      cases hbw : bb.isW with
      | true => simp [hbw] at hl
      | false =>
        simp only [hbw] at hl
        obtain ⟨⟨rr, δ6⟩, hr, hl⟩ := Option.bind_eq_some_iff.mp (show _ = _ from hl)
        cases hl
        refine iteT ⟨F₀, H₀, ρ1, F4, δ4, bb, δ5, G'.later g4, he, fun v F5 H5 g5 v5 => ?_⟩
        obtain ⟨F6, x6, g6, r6⟩ := v5.fix g5 hbw
        have e5 : H5 D = some (.lst vs) := g6.hh D _ e4 nD
        have f6 : F6 D = none := g6.notF e4 f4
        refine ⟨vs, e5, cap_lt (by rw [r2.length]; have hi' : i < ds.length := hi; omega), F6, δ5, vs ++ [v], acc ++ [bb.d], rr, (g14.trans g6).updN ⟨_, g1.dr⟩ hD f6, f6, upd_same, ?_, hr, ?_, ?_⟩
        · exact (r2.ext ((g3.ff.trans g4.ff).trans g6.ff)).append (.cons r6 .nil)
        · rw [List.append_assoc]; exact ht
        · rw [List.length_append, List.length_singleton]; omega
  · intro H' ⟨F2, δ3, vs, acc, rest, g2, f2, e2, r2, hl, ht, hai⟩
    rw [List.drop_length] at hl
    cases hl
    rw [List.append_nil] at ht
    subst ht
    exact k _ F2 H' (g1.trans g2) ⟨D, rfl, g1.free hD, f2, g1.dr.not hD, vs, e2, r2⟩
def tYesM : MeT := fun _ δ => some (true, δ)
theorem ptsImp {ifs : List Expr} {t t' : TT} (h : PTs X ifs t) (i : ∀ σ H Q, t' σ H Q → t σ H Q) : PTs X ifs t' := ⟨fun pins s σ H Q I q => h.run pins s σ H Q I (i σ H Q q)⟩
theorem lkIfs0 : PTs X [] (tXT W tYesM) := ptsImp pts_nil fun σ H Q ⟨F₀, H₀, ρ, F, δ, c, δ', G, hm, k⟩ => by
  cases hm
  exact k F H (.refl G.go.fh G.go.dr)
theorem lkIfs1 {c : Expr} {m : MeT} (h : PT X c (tXT W m)) : PTs X [c] (tXT W m) := pts_one h
theorem lkLc {elt tg iter : Expr} {ifs : List Expr} {scope : Scope} {ow : List (PySem.Str × Nat)} {pos : Pos} {n : Nat} (C : Cok W n X) (hi : PI X tg iter (iX W mi)) (ok : blkC X.N X.env.scope scope ow = true)
    (hg : ∀ (s : Shared) (H : Hp) (c : Addr) (cl : List (PySem.Str × Addr)) (fp : List Addr), Cok W n (X.blk s H scope (compEnvC scope cl c X.env) fp) → PG (X.blk s H scope (compEnvC scope cl c X.env) fp) tg (gX W is mg))
    (ht : ∀ (s : Shared) (H : Hp) (c : Addr) (cl : List (PySem.Str × Addr)) (fp : List Addr), Cok W n (X.blk s H scope (compEnvC scope cl c X.env) fp) → PTs (X.blk s H scope (compEnvC scope cl c X.env) fp) ifs (tXT W mt))
    (he : ∀ (s : Shared) (H : Hp) (c : Addr) (cl : List (PySem.Str × Addr)) (fp : List Addr), Cok W n (X.blk s H scope (compEnvC scope cl c X.env) fp) → PE (X.blk s H scope (compEnvC scope cl c X.env) fp) elt (tX W me))
    (his : ∀ i ∈ is, i ∈ ow.map (·.2)) (hs : ∀ x, foldedSetIterable iter X.env x = pure x := by intro _; rfl) : PE X (.ListComp elt [⟨tg, iter, ifs, 0⟩] scope pos) (tX W (sLc mi mg mt me (ow.map (·.2)))) :=
  have c : ∀ s H cc cl fp, Cok W n (X.blk s H scope (compEnvC scope cl cc X.env) fp) := fun _ _ _ _ _ => ⟨C.k, C.calm, C.room, C.nd, PassesOwn.never⟩
  peImp (pe_lc C.calm C.nd hi (blkOk_by ok) (fun s H cc cl fp => hg s H cc cl fp (c s H cc cl fp)) (fun s H cc cl fp => ht s H cc cl fp (c s H cc cl fp)) (fun s H cc cl fp => he s H cc cl fp (c s H cc cl fp)) hs) (lc_run his)
end

/-! ### statements -/
inductive Out where
  | nx (ρ : En) (δ : DS) | rt (b : B) (δ : DS) | bk (ρ : En) (δ : DS) | ct (ρ : En) (δ : DS)
abbrev MeS := En → DS → Option Out
def OutOk (W : Wd) (F₀ H₀ F : Hp) (D : Ends) : Out → Prop
  | .nx ρ δ => ∀ σ F' H, Ext F F' → Good W F₀ H₀ σ ρ F' H δ → D.nx σ H
  | .rt b δ => b.isW = false ∧ ∀ v F' H, Go W F₀ H₀ F' H δ → Val W H₀ H₀ F' H v b → D.rt v H
  | .bk ρ δ => ∀ σ F' H, Ext F F' → Good W F₀ H₀ σ ρ F' H δ → D.bk σ H
  | .ct ρ δ => ∀ σ F' H, Ext F F' → Good W F₀ H₀ σ ρ F' H δ → D.ct σ H
theorem OutOk.mono {W : Wd} {F₀ H₀ F F1 : Hp} {D : Ends} (e : Ext F F1) : ∀ {r : Out}, OutOk W F₀ H₀ F D r → OutOk W F₀ H₀ F1 D r
  | .nx _ _, k => fun σ F' H x G => k σ F' H (e.trans x) G
  | .rt _ _, k => k
  | .bk _ _, k => fun σ F' H x G => k σ F' H (e.trans x) G
  | .ct _ _, k => fun σ F' H x G => k σ F' H (e.trans x) G
def tS (W : Wd) (m : MeS) : TS := fun D σ H => ∃ F₀ H₀ ρ F δ r, Good W F₀ H₀ σ ρ F H δ ∧ m ρ δ = some r ∧ OutOk W F₀ H₀ F D r
section
variable {X : Cx} {st : Stmt} {rest sts : List Stmt} {t t' : TS}
theorem psImp (h : PS X st t) (i : ∀ D σ H, t' D σ H → t D σ H) : PS X st t' := ⟨fun pins s σ H D I q => h.run pins s σ H D I (i D σ H q)⟩
theorem pssImp (h : PSs X sts t) (i : ∀ D σ H, t' D σ H → t D σ H) : PSs X sts t' := ⟨fun pins s σ H D I q => h.run pins s σ H D I (i D σ H q)⟩
end
def sNop : MeS := fun ρ δ => some (.nx ρ δ)
def sSeq (m m' : MeS) : MeS := fun ρ δ => (m ρ δ).bind fun r => match r with
  | .nx ρ1 δ1 => m' ρ1 δ1
  | r => some r
section
variable {X : Cx} {W : Wd} {n : Nat} {st : Stmt} {rest a b : List Stmt} {m m' : MeS} {e c : Expr} {me : Me} {mt : MeT} {pos : Pos}
theorem lkSNil : PSs X [] (tS W sNop) := pssImp pss_nil fun D σ H ⟨F₀, H₀, ρ, F, δ, r, G, hm, k⟩ => by
  cases hm
  exact k σ F H .refl G
theorem lkSeq (h1 : PS X st (tS W m)) (h2 : PSs X rest (tS W m')) : PSs X (st :: rest) (tS W (sSeq m m')) := pssImp (pss_cons h1 h2) fun D σ H ⟨F₀, H₀, ρ, F, δ, r, G, hm, k⟩ => by
  obtain ⟨r1, h1, hm⟩ := Option.bind_eq_some_iff.mp hm
  refine ⟨F₀, H₀, ρ, F, δ, r1, G, h1, ?_⟩
  cases r1 with
  | nx ρ1 δ1 => exact fun σ1 F1 H1 x1 G1 => ⟨F₀, H₀, ρ1, F1, δ1, r, G1, hm, k.mono x1⟩
  | rt b δ1 => cases hm; exact k
  | bk ρ1 δ1 => cases hm; exact k
  | ct ρ1 δ1 => cases hm; exact k
theorem lkS1 (h1 : PS X st (tS W m)) : PSs X [st] (tS W m) := pss_one h1
def sIfS (mt : MeT) (m m' : MeS) : MeS := fun ρ δ => (mt ρ δ).bind fun p => if p.1 then m ρ p.2 else m' ρ p.2
theorem lkIfS (hc : PT X c (tXT W mt)) (ha : PSs X a (tS W m)) (hb : PSs X b (tS W m')) : PS X (.If c a b pos) (tS W (sIfS mt m m')) := psImp (ps_if hc ha hb) fun D σ H ⟨F₀, H₀, ρ, F, δ, r, G, hm, k⟩ => by
  obtain ⟨⟨c1, δ1⟩, h1, hm⟩ := Option.bind_eq_some_iff.mp hm
  refine ⟨F₀, H₀, ρ, F, δ, c1, δ1, G, h1, fun F1 H1 g1 => ?_⟩
  cases c1 with
  | true => exact iteT ⟨F₀, H₀, ρ, F1, δ1, r, G.later g1, hm, k.mono g1.ff⟩
  | false => exact iteF ⟨F₀, H₀, ρ, F1, δ1, r, G.later g1, hm, k.mono g1.ff⟩
/-- no way comes here -/
def sNo : MeS := fun _ _ => none
theorem lkNo : PS X st (tS W sNo) := psImp ps_never fun D σ H ⟨F₀, H₀, ρ, F, δ, r, G, hm, k⟩ => by cases hm
theorem lkNos : PSs X rest (tS W sNo) := pssImp pss_never fun D σ H ⟨F₀, H₀, ρ, F, δ, r, G, hm, k⟩ => by cases hm
theorem lkPass : PS X (.Pass pos) (tS W sNop) := psImp ps_pass fun D σ H ⟨F₀, H₀, ρ, F, δ, r, G, hm, k⟩ => by
  cases hm
  exact k σ F H .refl G
def sBrk : MeS := fun ρ δ => some (.bk ρ δ)
def sCnt : MeS := fun ρ δ => some (.ct ρ δ)
theorem lkBrk : PS X (.Break pos) (tS W sBrk) := psImp ps_break fun D σ H ⟨F₀, H₀, ρ, F, δ, r, G, hm, k⟩ => by
  cases hm
  exact k σ F H .refl G
theorem lkCnt : PS X (.Continue pos) (tS W sCnt) := psImp ps_continue fun D σ H ⟨F₀, H₀, ρ, F, δ, r, G, hm, k⟩ => by
  cases hm
  exact k σ F H .refl G
def B.up : B → B
  | .w d => .o d
  | b => b
theorem B.up_w : ∀ b : B, b.up.isW = false
  | .f _ => rfl
  | .o _ => rfl
  | .w _ => rfl
def sRet (me : Me) : MeS := fun ρ δ => (me ρ δ).bind fun p => some (.rt p.1.up p.2)
theorem lkRet (he : PE X e (tX W me)) : PS X (.Return (some e) pos) (tS W (sRet me)) := psImp (ps_ret he) fun D σ H ⟨F₀, H₀, ρ, F, δ, r, G, hm, k⟩ => by
  obtain ⟨⟨b1, δ1⟩, h1, hm⟩ := Option.bind_eq_some_iff.mp hm
  cases hm
  refine ⟨F₀, H₀, ρ, F, δ, b1, δ1, G, h1, fun v F1 H1 g1 v1 => k.2 v F1 H1 (G.go.trans g1) ?_⟩
  cases b1 with
  | f d => exact v1
  | o d => exact v1.back G.go
  | w d =>
    obtain ⟨a, q, n, f, nd, h⟩ := v1
    exact ⟨a, q, n, f, nd, h⟩
def sRetN : MeS := fun _ δ => some (.rt (.f .non) δ)
theorem lkRetN : PS X (.Return none pos) (tS W sRetN) := psImp ps_retN fun D σ H ⟨F₀, H₀, ρ, F, δ, r, G, hm, k⟩ => by
  cases hm
  exact k.2 .non F H G.go .non
def sDrop (me : Me) : MeS := fun ρ δ => (me ρ δ).bind fun p => some (.nx ρ p.2)
theorem lkDrop (he : PE X e (tX W me)) (hs : swapsWith e none pos.line X.env = pure false := by rfl) : PS X (.Expr e pos) (tS W (sDrop me)) := psImp (ps_expr he hs) fun D σ H ⟨F₀, H₀, ρ, F, δ, r, G, hm, k⟩ => by
  obtain ⟨⟨b1, δ1⟩, h1, hm⟩ := Option.bind_eq_some_iff.mp hm
  cases hm
  exact ⟨F₀, H₀, ρ, F, δ, b1, δ1, G, h1, fun v F1 H1 g1 v1 => k σ F1 H1 g1.ff (G.later g1)⟩
theorem lkDoc {x : PySem.Str} {j : Nat} {pos' : Pos} : PS X (.Expr (.Constant (.str x) j pos) pos') (tS W sNop) := psImp ps_doc fun D σ H ⟨F₀, H₀, ρ, F, δ, r, G, hm, k⟩ => by
  cases hm
  exact k σ F H .refl G
end

/-! ### stores -/
theorem Good.setO {W : Wd} {F₀ H₀ F H : Hp} {σ : L2.St} {ρ : En} {δ : DS} (G : Good W F₀ H₀ σ ρ F H δ) (i : Nat) {a : Addr} {d : D} (f : F a = none) (n : H₀ a = none) (nd : ¬ W.dr a) (h : Own W F H a d)
    (ds : ∀ j e, ρ[j]? = some (some (.o e)) → σ[j]? = some (some (.ref a)) → j = i) : Good W F₀ H₀ (σ.set i (some (.ref a))) (ρ.set i (some (.o d))) F H δ where
  go := G.go
  d0 := G.d0
  f0 := G.f0
  len := by rw [List.length_set, List.length_set]; exact G.len
  sl := fun j b e => by
    by_cases hj : i = j
    · subst hj
      have hl : i < ρ.length := by
        obtain ⟨h, _⟩ := List.getElem?_eq_some_iff.mp e
        rw [List.length_set] at h; exact h
      rw [List.getElem?_set_self hl] at e
      cases e
      exact ⟨_, List.getElem?_set_self (by rw [G.len]; exact hl), a, rfl, f, n, nd, h⟩
    · rw [List.getElem?_set_ne hj] at e ⊢
      exact G.sl j b e
  sep := fun j k c e1 e2 h1 h2 h3 h4 => by
    by_cases hj : i = j
    · by_cases hk : i = k
      · exact hj.symm.trans hk
      · subst hj
        have hl : i < ρ.length := by
          obtain ⟨h, _⟩ := List.getElem?_eq_some_iff.mp h1
          rw [List.length_set] at h; exact h
        rw [List.getElem?_set_self (by rw [G.len]; exact hl)] at h3
        cases h3
        rw [List.getElem?_set_ne hk] at h2 h4
        exact (ds k e2 h2 h4).symm
    · by_cases hk : i = k
      · subst hk
        have hl : i < ρ.length := by
          obtain ⟨h, _⟩ := List.getElem?_eq_some_iff.mp h2
          rw [List.length_set] at h; exact h
        rw [List.getElem?_set_self (by rw [G.len]; exact hl)] at h4
        cases h4
        rw [List.getElem?_set_ne hj] at h1 h3
        exact ds j e1 h1 h3
      · rw [List.getElem?_set_ne hj] at h1 h3
        rw [List.getElem?_set_ne hk] at h2 h4
        exact G.sep j k c e1 e2 h1 h2 h3 h4
/-- what stands at the own names stands in the heap -/
theorem Good.own_at {W : Wd} {F₀ H₀ F H : Hp} {σ : L2.St} {ρ : En} {δ : DS} (G : Good W F₀ H₀ σ ρ F H δ) {i : Nat} {a : Addr} {d : D} (h : ρ[i]? = some (some (.o d))) (h' : σ[i]? = some (some (.ref a))) : (∃ o, H a = some o) ∧ F a = none ∧ H₀ a = none ∧ ¬ W.dr a ∧ Own W F H a d := by
  obtain ⟨v, hv, a', q, f, n, nd, ow⟩ := G.sl i _ h
  rw [h'] at hv
  cases hv
  cases q
  exact ⟨ow.some, f, n, nd, ow⟩
/-- a value stored at a slot: H the heap ahead of the expression -/
theorem Good.setV {W : Wd} {F₀ H₀ F H F1 H1 : Hp} {σ : L2.St} {ρ : En} {δ δ1 : DS} (G : Good W F₀ H₀ σ ρ F H δ) (g : Go W F H F1 H1 δ1) (i : Nat) {v : V} : ∀ {b : B}, b.isW = false → Val W H₀ H F1 H1 v b → Good W F₀ H₀ (σ.set i (some v)) (ρ.set i (some b)) F1 H1 δ1
  | .f d, _, r => (G.later g).setF i r
  | .o d, _, ⟨a, q, n, f, nd, h⟩ => by
    subst q
    refine (G.later g).setO i f (G.go.free n) nd h fun j e h1 h2 => ?_
    obtain ⟨⟨o, z⟩, _⟩ := G.own_at h1 h2
    rw [n] at z; cases z
def sAsg (i : Nat) (me : Me) : MeS := fun ρ δ => (me ρ δ).bind fun p => if p.1.isW then none else some (.nx (ρ.set i (some p.1)) p.2)
section
variable {X : Cx} {W : Wd} {n i : Nat} {x : PySem.Str} {e : Expr} {me : Me} {pos pos' : Pos}
theorem asg_run : ∀ D σ H, tS W (sAsg i me) D σ H → tAsg (tX W me) (gName i) D σ H := fun D σ H ⟨F₀, H₀, ρ, F, δ, r, G, hm, k⟩ => by
  obtain ⟨⟨b1, δ1⟩, h1, hm⟩ := Option.bind_eq_some_iff.mp hm
  cases hw : b1.isW with
  | true => simp [hw] at hm
  | false =>
    simp only [hw] at hm
    cases hm
    exact ⟨F₀, H₀, ρ, F, δ, b1, δ1, G, h1, fun v F1 H1 g1 v1 => k _ F1 H1 g1.ff (G.setV g1 i hw v1)⟩
theorem lkAsg (C : Cok W n X) (hi : X.N[i]? = some x) (hx : Loc X.env.scope x) (he : PE X e (tX W me)) (hs : swapsWith e (some (.Name x pos')) pos.line X.env = pure false := by rfl) (hf : X.fn x = true ∨ X.env.scope.names.lookup x = some .local := by first | exact .inl rfl | exact .inr rfl | assumption) :
    PS X (.Assign [.Name x pos'] e pos) (tS W (sAsg i me)) := psImp (ps_set C.nd hi hx he hs hf) asg_run
/-- targets that take a tuple apart -/
def sAsgT (mg : MeG) (me : Me) : MeS := fun ρ δ => (me ρ δ).bind fun p => if p.1.isW then none else (mg p.1.d ρ).bind fun ρ1 => some (.nx ρ1 p.2)
theorem asgT_run {is : List Nat} {mg : MeG} : ∀ D σ H, tS W (sAsgT mg me) D σ H → tAsg (tX W me) (gX W is mg) D σ H := fun D σ H ⟨F₀, H₀, ρ, F, δ, r, G, hm, k⟩ => by
  obtain ⟨⟨b1, δ1⟩, h1, hm⟩ := Option.bind_eq_some_iff.mp hm
  cases hw : b1.isW with
  | true => simp [hw] at hm
  | false =>
    simp only [hw] at hm
    obtain ⟨ρ1, h2, hm⟩ := Option.bind_eq_some_iff.mp (show _ = _ from hm)
    cases hm
    refine ⟨F₀, H₀, ρ, F, δ, b1, δ1, G, h1, fun v F1 H1 g1 v1 => ?_⟩
    obtain ⟨F2, x2, g2, r2⟩ := v1.fix g1 hw
    exact ⟨F₀, H₀, ρ, F2, δ1, _, ρ1, G.later g2, r2, h2, fun σ' G' _ => k σ' F2 H1 g2.ff G'⟩
theorem lkAsgT {tg : Expr} {is : List Nat} {mg : MeG} (he : PE X e (tX W me)) (hg : PG X tg (gX W is mg)) (hs : swapsWithSole [tg] e pos.line X.env = pure false := by rfl) (hw : swappedStores [tg] e X.env = pure none := by rfl) (h1 : (assignEach [tg] X.env).map (·.2) = [assign tg X.env] := by rfl) :
    PS X (.Assign [tg] e pos) (tS W (sAsgT mg me)) := psImp (ps_asg he hg hs hw h1) asgT_run
end
end Py
/-! Layer, part E: several names at once; loops; lists that change. -/
namespace Py
open PySem L2

/-! ### several values at once, own ones kept own -/
abbrev MeB := En → DS → Option (List B × DS)
def VB (W : Wd) (H₀ F' H' : Hp) : Hp → List V → List B → Prop
  | _, [], [] => True
  | H, v :: vs, b :: bs => Val W H₀ H F' H' v b ∧ ∃ H1, (∀ a, H1 a = none → H a = none) ∧ (∀ d a, b = .o d → v = .ref a → ∃ o, H1 a = some o) ∧ VB W H₀ F' H' H1 vs bs
  | _, _, _ => False
theorem VB.go {W : Wd} {H₀ F1 H1 F2 H2 : Hp} {δ : DS} (g : Go W F1 H1 F2 H2 δ) : ∀ {vs : List V} {bs : List B} {H : Hp}, VB W H₀ F1 H1 H vs bs → VB W H₀ F2 H2 H vs bs
  | [], [], _, _ => True.intro
  | _ :: _, _ :: _, _, ⟨h1, K1, h2, h3, h4⟩ => ⟨h1.go g, K1, h2, h3, h4.go g⟩
def tXB (W : Wd) (m : MeB) : TA := fun σ H Q => ∃ F₀ H₀ ρ F δ bs δ', Good W F₀ H₀ σ ρ F H δ ∧ m ρ δ = some (bs, δ') ∧ ∀ vs F' H', Go W F H F' H' δ' → VB W H₀ F' H' H vs bs → Q vs H'
def bNil : MeB := fun _ δ => some ([], δ)
def bCons (m : Me) (ms : MeB) : MeB := fun ρ δ => (m ρ δ).bind fun p => if p.1.isW then none else (ms ρ p.2).bind fun q => some (p.1 :: q.1, q.2)
def setsB (ρ : En) : List Nat → List B → En
  | i :: is, b :: bs => setsB (ρ.set i (some b)) is bs
  | _, _ => ρ
def setsV (σ : L2.St) : List Nat → List V → L2.St
  | i :: is, v :: vs => setsV (σ.set i (some v)) is vs
  | _, _ => σ
section
variable {X : Cx} {W : Wd} {n : Nat} {e : Expr} {es : List Expr} {me : Me} {ms : MeB} {pos : Pos}
theorem lkBNil : PA X [] (tXB W bNil) := paImp pa_nil fun σ H Q ⟨F₀, H₀, ρ, F, δ, bs, δ', G, hm, k⟩ => by
  cases hm
  exact k [] F H (.refl G.go.fh G.go.dr) True.intro
theorem lkBCons (ha : PE X e (tX W me)) (hr : PA X es (tXB W ms)) (hs : starEach (e :: es) X.env = (false, eval e X.env) :: starEach es X.env := by rfl) : PA X (e :: es) (tXB W (bCons me ms)) :=
  paImp (pa_cons ha hr hs) fun σ H Q ⟨F₀, H₀, ρ, F, δ, bs, δ', G, hm, k⟩ => by
    obtain ⟨⟨b1, δ1⟩, h1, hm⟩ := Option.bind_eq_some_iff.mp hm
    cases hw : b1.isW with
    | true => simp [hw] at hm
    | false =>
      simp only [hw] at hm
      obtain ⟨⟨bs', δ2⟩, h2, hm⟩ := Option.bind_eq_some_iff.mp (show _ = _ from hm)
      cases hm
      refine ⟨F₀, H₀, ρ, F, δ, b1, δ1, G, h1, fun x F1 H1 g1 v1 => ⟨F₀, H₀, ρ, F1, δ1, bs', _, G.later g1, h2, fun vs F2 H2 g2 v2 => k _ F2 H2 (g1.trans g2) ⟨v1.go g2, H1, fun a ha => g1.free ha, fun d a hb hv => ?_, v2⟩⟩⟩
      subst hb
      obtain ⟨a', q, _, _, _, ow⟩ := v1
      rw [hv] at q
      cases q
      exact ow.some
theorem sets_good {F₀ H₀ F H : Hp} {δ : DS} : ∀ {vs : List V} {bs : List B} {is : List Nat} {σ : L2.St} {ρ : En} {Hs : Hp}, Good W F₀ H₀ σ ρ F H δ → (∀ b ∈ bs, b.isW = false) → (∀ a, Hs a = none → H₀ a = none) →
    (∀ (j : Nat) (a : Addr) (d : D), ρ[j]? = some (some (.o d)) → σ[j]? = some (some (.ref a)) → ∃ o, Hs a = some o) → VB W H₀ F H Hs vs bs → Good W F₀ H₀ (setsV σ is vs) (setsB ρ is bs) F H δ
  | [], [], is, σ, ρ, Hs, G, _, _, _, _ => by cases is <;> exact G
  | v :: vs, b :: bs, [], σ, ρ, Hs, G, _, _, _, _ => G
  | v :: vs, b :: bs, i :: is, σ, ρ, Hs, G, hw, h0, hs, ⟨v1, H1, m1, o1, v2⟩ => by
    have hb : b.isW = false := hw b (List.mem_cons_self ..)
    refine sets_good (is := is) (σ := σ.set i (some v)) (ρ := ρ.set i (some b)) (Hs := H1) ?_ (fun c hc => hw c (List.mem_cons_of_mem _ hc)) (fun a ha => h0 a (m1 a ha)) (fun j a d e1 e2 => ?_) v2
    · cases b with
      | f d => exact G.setF i v1
      | o d =>
        obtain ⟨a, q, n, f, nd, ow⟩ := v1
        subst q
        refine G.setO i f (h0 a n) nd ow fun j e e1 e2 => ?_
        obtain ⟨o, z⟩ := hs j a e e1 e2
        rw [n] at z; cases z
      | w d => cases hb
    · by_cases hj : i = j
      · subst hj
        have hl : i < ρ.length := by
          obtain ⟨h, _⟩ := List.getElem?_eq_some_iff.mp e1
          rw [List.length_set] at h; exact h
        rw [List.getElem?_set_self hl] at e1
        rw [List.getElem?_set_self (by rw [G.len]; exact hl)] at e2
        cases e1
        cases e2
        exact o1 d a rfl rfl
      · rw [List.getElem?_set_ne hj] at e1 e2
        obtain ⟨o, z⟩ := hs j a d e1 e2
        cases q : H1 a with
        | none => rw [m1 a q] at z; cases z
        | some u => exact ⟨u, rfl⟩
def sPar (is : List Nat) (ms : MeB) : MeS := fun ρ δ => (ms ρ δ).bind fun p => if p.1.all (fun b => !b.isW) then some (.nx (setsB ρ is p.1) p.2) else none
theorem par_run {is : List Nat} {D : Ends} {σ : L2.St} {H : Hp} (h : tS W (sPar is ms) D σ H) : tXB W ms σ H fun vs H1 => ∃ bs F' H₀ Hs, VB W H₀ F' H1 Hs vs bs ∧ D.nx (setsV σ is vs) H1 := by
  obtain ⟨F₀, H₀, ρ, F, δ, r, G, hm, k⟩ := h
  obtain ⟨⟨bs, δ1⟩, h1, hm⟩ := Option.bind_eq_some_iff.mp hm
  split at hm
  · next hall =>
    cases hm
    refine ⟨F₀, H₀, ρ, F, δ, bs, δ1, G, h1, fun vs F1 H1 g1 vb => ⟨bs, F1, H₀, H, vb, k _ F1 H1 g1.ff (sets_good (G.later g1) (fun b hb => ?_) (fun a ha => G.go.free ha) (fun j a d e1 e2 => (G.own_at e1 e2).1) vb)⟩⟩
    have := List.all_eq_true.mp hall b hb
    simpa using this
  · cases hm
theorem VB.len {W : Wd} {H₀ F' H' : Hp} : ∀ {vs : List V} {bs : List B} {H : Hp}, VB W H₀ F' H' H vs bs → vs.length = bs.length
  | [], [], _, _ => rfl
  | _ :: _, _ :: _, _, ⟨_, _, _, _, h⟩ => congrArg Nat.succ h.len
theorem bNil_len : ∀ (ρ : En) (δ : DS) (ds : List B) (δ' : DS), bNil ρ δ = some (ds, δ') → ds.length = 0 := fun _ _ _ _ h => by cases h; rfl
theorem bCons_len {m : Me} {k : Nat} (h : ∀ ρ δ ds δ', ms ρ δ = some (ds, δ') → ds.length = k) : ∀ (ρ : En) (δ : DS) (ds : List B) (δ' : DS), bCons m ms ρ δ = some (ds, δ') → ds.length = k + 1 := fun ρ δ ds δ' hm => by
  obtain ⟨⟨b1, δ1⟩, h1, hm⟩ := Option.bind_eq_some_iff.mp hm
  cases hw : b1.isW with
  | true => simp [hw] at hm
  | false =>
    simp only [hw] at hm
    obtain ⟨⟨es', δ2⟩, h2, hm⟩ := Option.bind_eq_some_iff.mp (show _ = _ from hm)
    cases hm
    exact congrArg Nat.succ (h _ _ _ _ h2)
theorem tXB_len {k : Nat} (h : ∀ ρ δ ds δ', ms ρ δ = some (ds, δ') → ds.length = k) {σ : L2.St} {H : Hp} {Q : List V → Hp → Prop} (q : tXB W ms σ H Q) : tXB W ms σ H fun vs H1 => vs.length = k ∧ Q vs H1 := by
  obtain ⟨F₀, H₀, ρ, F, δ, bs, δ1, G, h1, hk⟩ := q
  exact ⟨F₀, H₀, ρ, F, δ, bs, δ1, G, h1, fun vs F1 H1 g1 vb => ⟨vb.len.trans (h _ _ _ _ h1), hk vs F1 H1 g1 vb⟩⟩
/-- a, b = x, y with plain local names -/
theorem lkPar2 {i j : Nat} {x y : PySem.Str} {a b : Expr} {px py pt : Pos} {kt k2 : Nat} {pt2 : Pos} (C : Cok W n X) (hi : X.N[i]? = some x) (hj : X.N[j]? = some y) (hij : i ≠ j)
    (hx : X.env.scope.names.lookup x = some .local) (hy : X.env.scope.names.lookup y = some .local) (ha : PA X [a, b] (tXB W ms)) (hn : ∀ ρ δ ds δ', ms ρ δ = some (ds, δ') → ds.length = 2)
    (hw : swappedStores [.Tuple [.Name x px, .Name y py] kt pt] (.Tuple [a, b] k2 pt2) X.env = pure (some [x, y]))
    (hs : swapsWithSole [.Tuple [.Name x px, .Name y py] kt pt] (.Tuple [a, b] k2 pt2) pos.line X.env = pure false := by rfl) :
    PS X (.Assign [.Tuple [.Name x px, .Name y py] kt pt] (.Tuple [a, b] k2 pt2) pos) (tS W (sPar [i, j] ms)) :=
  psImp (ps_par C.calm C.nd hi hj hij hx hy ha hw hs) fun D σ H h => by
    have q := tXB_len hn (par_run h)
    obtain ⟨F₀, H₀, ρ, F, δ, bs, δ1, G, h1, hk⟩ := q
    refine ⟨F₀, H₀, ρ, F, δ, bs, δ1, G, h1, fun vs F1 H1 g1 vb => ?_⟩
    obtain ⟨hl, _, _, _, _, _, hd⟩ := hk vs F1 H1 g1 vb
    match vs, hl with
    | [v, w], _ => exact ⟨v, w, rfl, hd⟩
theorem lkPar3 {i j l : Nat} {x y z : PySem.Str} {a b c : Expr} {px py pz pt : Pos} {kt k2 : Nat} {pt2 : Pos} (C : Cok W n X) (hi : X.N[i]? = some x) (hj : X.N[j]? = some y) (hl : X.N[l]? = some z) (hij : i ≠ j) (hil : i ≠ l) (hjl : j ≠ l)
    (hx : X.env.scope.names.lookup x = some .local) (hy : X.env.scope.names.lookup y = some .local) (hz : X.env.scope.names.lookup z = some .local) (ha : PA X [a, b, c] (tXB W ms)) (hn : ∀ ρ δ ds δ', ms ρ δ = some (ds, δ') → ds.length = 3)
    (hw : swappedStores [.Tuple [.Name x px, .Name y py, .Name z pz] kt pt] (.Tuple [a, b, c] k2 pt2) X.env = pure (some [x, y, z]))
    (hs : swapsWithSole [.Tuple [.Name x px, .Name y py, .Name z pz] kt pt] (.Tuple [a, b, c] k2 pt2) pos.line X.env = pure false := by rfl) :
    PS X (.Assign [.Tuple [.Name x px, .Name y py, .Name z pz] kt pt] (.Tuple [a, b, c] k2 pt2) pos) (tS W (sPar [i, j, l] ms)) :=
  psImp (ps_par3 C.calm C.nd hi hj hl hij hil hjl hx hy hz ha hw hs) fun D σ H h => by
    have q := tXB_len hn (par_run h)
    obtain ⟨F₀, H₀, ρ, F, δ, bs, δ1, G, h1, hk⟩ := q
    refine ⟨F₀, H₀, ρ, F, δ, bs, δ1, G, h1, fun vs F1 H1 g1 vb => ?_⟩
    obtain ⟨hl, _, _, _, _, _, hd⟩ := hk vs F1 H1 g1 vb
    match vs, hl with
    | [u, v, w], _ => exact ⟨u, v, w, rfl, hd⟩
/-- plain names as targets of a tuple that is made and taken apart -/
inductive Nms (X : Cx) : List Expr → List Nat → TGs → Prop
  | nil : Nms X [] [] gNil
  | cons {x : PySem.Str} {i : Nat} {p : Pos} {es : List Expr} {is : List Nat} {t : TGs} (hi : X.N[i]? = some x) (hx : Loc X.env.scope x) (hf : X.fn x = true ∨ X.env.scope.names.lookup x = some .local) (r : Nms X es is t) : Nms X (.Name x p :: es) (i :: is) (gCons (gName i) t)
theorem Nms.pg (hN : X.N.Nodup) : ∀ {es : List Expr} {is : List Nat} {t : TGs}, Nms X es is t → PGs X es t
  | _, _, _, .nil => pgs_nil
  | _, _, _, .cons hi hx hf r => pgs_cons (pg_name hN hi hx hf) (r.pg hN)
theorem Nms.run : ∀ {es : List Expr} {is : List Nat} {t : TGs}, Nms X es is t → ∀ {vs : List V} {σ : L2.St} {H : Hp} {Q : L2.St → Hp → Prop}, vs.length = is.length → Q (setsV σ is vs) H → t vs σ H Q
  | _, _, _, .nil, [], _, _, _, _, q => ⟨rfl, q⟩
  | _, _, _, .cons hi hx hf r, v :: vs, _, _, _, hl, q => ⟨v, vs, rfl, r.run (by simpa using hl) q⟩
theorem lkParT {ts vs : List Expr} {is : List Nat} {t : TGs} {kt k2 : Nat} {pt pt2 : Pos} (C : Cok W n X) (hg : Nms X ts is t) (ha : PA X vs (tXB W ms)) (hn : ∀ ρ δ ds δ', ms ρ δ = some (ds, δ') → ds.length = is.length) (hc : is.length ≤ 1000)
    (hw : swappedStores [.Tuple ts kt pt] (.Tuple vs k2 pt2) X.env = pure none := by rfl) (hs : swapsWithSole [.Tuple ts kt pt] (.Tuple vs k2 pt2) pos.line X.env = pure false := by rfl)
    (hal : (assignEach ts X.env).length = is.length := by rfl) (hst : (assignEach ts X.env).findIdx? (·.1) = none := by rfl) :
    PS X (.Assign [.Tuple ts kt pt] (.Tuple vs k2 pt2) pos) (tS W (sPar is ms)) :=
  psImp (ps_asg (pe_tup ha) (pg_tup C.calm (hg.pg C.nd) hal hst) hs hw) fun D σ H h => by
    obtain ⟨F₀, H₀, ρ, F, δ, bs, G, h1, hk⟩ := h
    obtain ⟨⟨bs, δ1⟩, h2, hm⟩ := Option.bind_eq_some_iff.mp h1
    split at hm
    · next hall =>
      cases hm
      refine ⟨F₀, H₀, ρ, F, δ, bs, δ1, G, h2, fun vs F1 H1 g1 vb => ⟨?_, fun p hp => ?_⟩⟩
      · rw [vb.len, hn _ _ _ _ h2]
        exact Nat.le_trans hc (by decide)
      · have g2 := go_new (o := .tup vs) g1.fh g1.dr hp
        refine ⟨p, vs, rfl, .inl (.inl upd_same), vb.len.trans (hn _ _ _ _ h2), hg.run (vb.len.trans (hn _ _ _ _ h2)) (hk _ F1 _ (g1.trans g2).ff (sets_good (G.later (g1.trans g2)) (fun b hb => ?_) (fun a ha => G.go.free ha) (fun j a d e1 e2 => (G.own_at e1 e2).1) (vb.go g2)))⟩
        have := List.all_eq_true.mp hall b hb
        simpa using this
    · cases hm
end

/-! ### loops -/
def lpN (go : En → DS → Option Out) : Out → Option Out
  | .nx ρ δ => go ρ δ
  | .ct ρ δ => go ρ δ
  | .bk ρ δ => some (.nx ρ δ)
  | .rt b δ => some (.rt b δ)
def forF (mg : MeG) (m : MeS) : List D → En → DS → Option Out
  | [], ρ, δ => some (.nx ρ δ)
  | d :: ds, ρ, δ => (mg d ρ).bind fun ρ1 => (m ρ1 δ).bind (lpN (forF mg m ds))
def sFor (mi : MeI) (mg : MeG) (m : MeS) : MeS := fun ρ δ => (mi ρ δ).bind fun p => if p.1.2 then none else forF mg m p.1.1 ρ p.2
theorem Good.wt {W : Wd} {F₀ H₀ F H F' H' : Hp} {σ : L2.St} {ρ : En} {δ : DS} (G : Good W F₀ H₀ σ ρ F H δ) (e : Ext F' F) : Wt W F' H' false F H δ := ⟨e, G.go.fh, G.go.dr⟩
section
variable {X : Cx} {W : Wd} {n : Nat} {tg iter : Expr} {body : List Stmt} {mi : MeI} {mg : MeG} {m : MeS} {is : List Nat} {pos : Pos}
theorem for_run : ∀ D σ H, tS W (sFor mi mg m) D σ H → tFor (iX W mi) (gX W is mg) (tS W m) D σ H := fun D σ H ⟨F₀, H₀, ρ, F, δ, r, G, hm, k⟩ => by
  obtain ⟨⟨⟨ds, l⟩, δ1⟩, h1, hm⟩ := Option.bind_eq_some_iff.mp hm
  cases l with
  | true => simp at hm
  | false =>
    have hm : forF mg m ds ρ δ1 = some r := hm
    refine ⟨F₀, H₀, ρ, F, δ, (ds, false), δ1, G, h1, fun J F1 H1 g1 wl => ?_⟩
    obtain ⟨Gp, Y, w, st, yl⟩ := wl.ex
    refine for_it w (fun i σ' H' => ∃ F2 ρ2 δ2, Ext F1 F2 ∧ Good W F₀ H₀ σ' ρ2 F2 H' δ2 ∧ forF mg m (ds.drop i) ρ2 δ2 = some r) ⟨F1, ρ, δ1, .refl, G.later g1, hm⟩ ?_ ?_ ?_
    · intro i σ' H' _ ⟨F2, ρ2, δ2, e2, G2, _⟩
      exact st F2 H' δ2 (G2.wt e2)
    · intro i x σ2 H2 H3 hi ⟨F2, ρ2, δ2, e2, G2, h2⟩ y
      obtain ⟨F3, d, g3, hd, rd⟩ := yl i H2 x H3 F2 δ2 hi (G2.wt e2) y
      have hdr : ds.drop i = d :: ds.drop (i + 1) := by
        obtain ⟨hlt, e⟩ := List.getElem?_eq_some_iff.mp hd
        rw [List.drop_eq_getElem_cons hlt, e]
      rw [hdr] at h2
      obtain ⟨ρ3, hg, h2⟩ := Option.bind_eq_some_iff.mp (show (mg d ρ2).bind _ = _ from h2)
      obtain ⟨r1, hb, h2⟩ := Option.bind_eq_some_iff.mp h2
      refine ⟨F₀, H₀, ρ2, F3, δ2, d, ρ3, G2.later g3, rd, hg, fun σ3 G3 _ => ⟨F₀, H₀, ρ3, F3, δ2, r1, G3, hb, ?_⟩⟩
      cases r1 with
      | nx ρ4 δ4 => exact fun σ4 F4 H4 x4 G4 => ⟨F4, ρ4, δ4, (e2.trans g3.ff).trans x4, G4, h2⟩
      | ct ρ4 δ4 => exact fun σ4 F4 H4 x4 G4 => ⟨F4, ρ4, δ4, (e2.trans g3.ff).trans x4, G4, h2⟩
      | bk ρ4 δ4 => cases h2; exact fun σ4 F4 H4 x4 G4 => k σ4 F4 H4 (((g1.ff.trans e2).trans g3.ff).trans x4) G4
      | rt b δ4 => cases h2; exact k
    · intro σ' H' ⟨F2, ρ2, δ2, e2, G2, h2⟩
      rw [List.drop_length] at h2
      cases h2
      exact k σ' F2 H' (g1.ff.trans e2) G2
end
end Py
/-! Layer, part F: for, while; own lists and names that change; what is walked. -/
namespace Py
open PySem L2

section
variable {X : Cx} {W : Wd} {n : Nat} {tg iter c e : Expr} {body : List Stmt} {mi : MeI} {mg : MeG} {m : MeS} {mt : MeT} {me : Me} {ms : MeL} {is : List Nat} {pos : Pos}
theorem lkFor (C : Cok W n X) (hi : PI X tg iter (iX W mi)) (hg : PG X tg (gX W is mg)) (hb : PSs X body (tS W m)) (hs : ∀ x, foldedSetIterable iter X.env x = pure x := by intro _; rfl) : PS X (.For tg iter body [] pos) (tS W (sFor mi mg m)) :=
  psImp (ps_for C.px C.calm hi hg hb hs) for_run

/-! ### while -/
def whN (mt : MeT) (m : MeS) : Nat → En → DS → Option Out
  | 0, _, _ => none
  | k + 1, ρ, δ => (mt ρ δ).bind fun p => if p.1 then (m ρ p.2).bind (lpN (whN mt m k)) else some (.nx ρ p.2)
theorem whN_succ : ∀ {k : Nat} {ρ : En} {δ : DS} {r : Out}, whN mt m k ρ δ = some r → whN mt m (k + 1) ρ δ = some r
  | k + 1, ρ, δ, r, h => by
    unfold whN at h ⊢
    obtain ⟨p, h1, h⟩ := Option.bind_eq_some_iff.mp h
    rw [h1]
    show (if p.1 = true then _ else _) = _
    by_cases hp : p.1 = true
    · rw [if_pos hp] at h ⊢
      obtain ⟨r1, h2, h⟩ := Option.bind_eq_some_iff.mp h
      rw [h2]
      cases r1 with
      | nx ρ2 δ2 => exact whN_succ h
      | ct ρ2 δ2 => exact whN_succ h
      | bk ρ2 δ2 => exact h
      | rt b δ2 => exact h
    · rw [if_neg hp] at h ⊢
      exact h
theorem whN_le {j k : Nat} (h : j ≤ k) {ρ : En} {δ : DS} {r : Out} (q : whN mt m j ρ δ = some r) : whN mt m k ρ δ = some r := by
  induction h with
  | refl => exact q
  | step _ ih => exact whN_succ ih
open Classical in
noncomputable def sWh (mt : MeT) (m : MeS) : MeS := fun ρ δ => if h : ∃ k r, whN mt m k ρ δ = some r then some h.choose_spec.choose else none
theorem sWh_of {k : Nat} {ρ : En} {δ : DS} {r : Out} (h : whN mt m k ρ δ = some r) : sWh mt m ρ δ = some r := by
  unfold sWh
  have hx : ∃ k r, whN mt m k ρ δ = some r := ⟨k, r, h⟩
  rw [dif_pos hx]
  have q := hx.choose_spec.choose_spec
  have q1 := whN_le (Nat.le_max_left k hx.choose) h
  have q2 := whN_le (Nat.le_max_right k hx.choose) q
  rw [q1] at q2
  exact q2.symm
theorem sWh_ex {ρ : En} {δ : DS} {r : Out} (h : sWh mt m ρ δ = some r) : ∃ k, whN mt m k ρ δ = some r := by
  unfold sWh at h
  split at h
  · next hx => cases h; exact ⟨_, hx.choose_spec.choose_spec⟩
  · cases h
/-- one turn -/
theorem sWh_eq (ρ : En) (δ : DS) : sWh mt m ρ δ = (mt ρ δ).bind fun p => if p.1 then (m ρ p.2).bind (lpN (sWh mt m)) else some (.nx ρ p.2) := by
  cases h1 : mt ρ δ with
  | none =>
    cases q : sWh mt m ρ δ with
    | none => rfl
    | some r =>
      obtain ⟨k, z⟩ := sWh_ex q
      cases k with
      | zero => cases z
      | succ k => unfold whN at z; rw [h1] at z; cases z
  | some p =>
    show _ = (if p.1 = true then _ else _)
    by_cases hp : p.1 = true
    · rw [if_pos hp]
      cases h2 : m ρ p.2 with
      | none =>
        cases q : sWh mt m ρ δ with
        | none => rfl
        | some r =>
          obtain ⟨k, z⟩ := sWh_ex q
          cases k with
          | zero => cases z
          | succ k =>
            unfold whN at z
            rw [h1] at z
            have z : (if p.1 = true then _ else _) = _ := z
            rw [if_pos hp, h2] at z
            cases z
      | some r1 =>
        have go : ∀ {ρ2 : En} {δ2 : DS}, (∀ k, whN mt m (k + 1) ρ δ = whN mt m k ρ2 δ2) → sWh mt m ρ δ = sWh mt m ρ2 δ2 := fun {ρ2 δ2} hk => by
          cases q : sWh mt m ρ2 δ2 with
          | some r =>
            obtain ⟨k, z⟩ := sWh_ex q
            exact sWh_of (k := k + 1) ((hk k).trans z)
          | none =>
            cases q2 : sWh mt m ρ δ with
            | none => rfl
            | some r =>
              obtain ⟨k, z⟩ := sWh_ex q2
              have z2 := whN_succ z
              rw [hk k] at z2
              rw [sWh_of z2] at q
              cases q
        have un : ∀ k, whN mt m (k + 1) ρ δ = lpN (whN mt m k) r1 := fun k => by
          show (mt ρ δ).bind _ = _
          rw [h1]
          show (if p.1 = true then _ else _) = _
          rw [if_pos hp, h2]
          rfl
        cases r1 with
        | nx ρ2 δ2 => exact go un
        | ct ρ2 δ2 => exact go un
        | bk ρ2 δ2 => exact sWh_of (k := 1) (un 0)
        | rt b δ2 => exact sWh_of (k := 1) (un 0)
    · rw [if_neg hp]
      refine sWh_of (k := 1) ?_
      show (mt ρ δ).bind _ = _
      rw [h1]
      show (if p.1 = true then _ else _) = _
      rw [if_neg hp]
theorem while_run : ∀ D σ H, tS W (sWh mt m) D σ H → tWhile (tXT W mt) (tS W m) D σ H := fun D σ H ⟨F₀, H₀, ρ, F, δ, r, G, hm, k⟩ => by
  obtain ⟨N, hm⟩ := sWh_ex hm
  refine ⟨fun j σ' H' => ∃ F2 ρ2 δ2, Ext F F2 ∧ Good W F₀ H₀ σ' ρ2 F2 H' δ2 ∧ whN mt m j ρ2 δ2 = some r, ⟨N, F, ρ, δ, .refl, G, hm⟩, fun j σ' H' ⟨F2, ρ2, δ2, e2, G2, h2⟩ => ?_⟩
  cases j with
  | zero => cases h2
  | succ j =>
    unfold whN at h2
    obtain ⟨⟨c1, δ3⟩, h3, h2⟩ := Option.bind_eq_some_iff.mp h2
    refine ⟨F₀, H₀, ρ2, F2, δ2, c1, δ3, G2, h3, fun F3 H3 g3 => ?_⟩
    cases c1 with
    | false => cases h2; exact iteF (k σ' F3 H3 (e2.trans g3.ff) (G2.later g3))
    | true =>
      obtain ⟨r1, h4, h2⟩ := Option.bind_eq_some_iff.mp (show (m ρ2 δ3).bind _ = _ from h2)
      refine iteT ⟨fun σ4 H4 => ∃ F4 ρ4 δ4, Ext F F4 ∧ Good W F₀ H₀ σ4 ρ4 F4 H4 δ4 ∧ whN mt m j ρ4 δ4 = some r, fun σ4 H4 h => ⟨j, Nat.lt_succ_self j, h⟩, F₀, H₀, ρ2, F3, δ3, r1, G2.later g3, h4, ?_⟩
      cases r1 with
      | nx ρ4 δ4 => exact fun σ4 F4 H4 x4 G4 => ⟨F4, ρ4, δ4, (e2.trans g3.ff).trans x4, G4, h2⟩
      | ct ρ4 δ4 => exact fun σ4 F4 H4 x4 G4 => ⟨F4, ρ4, δ4, (e2.trans g3.ff).trans x4, G4, h2⟩
      | bk ρ4 δ4 => cases h2; exact fun σ4 F4 H4 x4 G4 => k σ4 F4 H4 ((e2.trans g3.ff).trans x4) G4
      | rt b δ4 => cases h2; exact k
theorem lkWh (C : Cok W n X) (hc : PT X c (tXT W mt)) (hb : PSs X body (tS W m)) : PS X (.While c body [] pos) (tS W (sWh mt m)) := psImp (ps_while C.px hc hb) while_run

/-! ### an own object is written -/
theorem Good.write {F₀ H₀ F H : Hp} {σ : L2.St} {ρ : En} {δ : DS} (G : Good W F₀ H₀ σ ρ F H δ) {i : Nat} {a : Addr} {d d' : D} {o' : HO} (hi : ρ[i]? = some (some (.o d))) (hs : σ[i]? = some (some (.ref a))) (ow : Own W F (upd H a o') a d') :
    Good W F₀ H₀ σ (ρ.set i (some (.o d'))) F (upd H a o') δ := by
  obtain ⟨_, f, n, nd, _⟩ := G.own_at hi hs
  exact {
    go := G.go.updN G.d0 n f
    d0 := G.d0
    f0 := G.f0
    len := by rw [List.length_set]; exact G.len
    sl := fun j b e => by
      by_cases hj : i = j
      · subst hj
        have hl : i < ρ.length := (List.getElem?_eq_some_iff.mp hi).1
        rw [List.getElem?_set_self hl] at e
        cases e
        exact ⟨_, hs, a, rfl, f, n, nd, ow⟩
      · rw [List.getElem?_set_ne hj] at e
        obtain ⟨v, hv, s⟩ := G.sl j b e
        refine ⟨v, hv, ?_⟩
        cases b with
        | f e => exact s
        | w e => exact s
        | o e' =>
          obtain ⟨a2, q, f2, n2, nd2, ow2⟩ := s
          subst q
          have ne : a2 ≠ a := fun z => by
            subst z
            exact hj (G.sep i j a2 d e' hi e hs hv)
          exact ⟨a2, rfl, f2, n2, nd2, ow2.mono .refl (upd_ne ne)⟩
    sep := fun j k c e1 e2 h1 h2 h3 h4 => by
      have at' : ∀ {q : Nat} {e : D}, (ρ.set i (some (B.o d')))[q]? = some (some (.o e)) → ∃ e', ρ[q]? = some (some (.o e')) := fun {q e} h => by
        by_cases hq : i = q
        · subst hq; exact ⟨d, hi⟩
        · rw [List.getElem?_set_ne hq] at h; exact ⟨e, h⟩
      obtain ⟨e1', h1⟩ := at' h1
      obtain ⟨e2', h2⟩ := at' h2
      exact G.sep j k c e1' e2' h1 h2 h3 h4 }
def B.lst? : B → Option (List D)
  | .o (.lst ds) => some ds
  | _ => none
def ownL (ρ : En) (i : Nat) : Option (List D) := match ρ[i]? with
  | some (some (.o (.lst ds))) => some ds
  | _ => none
theorem ownL_at {ρ : En} {i : Nat} {ds : List D} (h : ownL ρ i = some ds) : ρ[i]? = some (some (.o (.lst ds))) := by
  unfold ownL at h
  split at h
  · next e => cases h; exact e
  · cases h
/-- x.append(e) -/
def sApp (i : Nat) (ms : MeL) : MeS := fun ρ δ => (ownL ρ i).bind fun ds => (ms ρ δ).bind fun p => match p.1 with
  | [d] => if ds.length ≤ cap then some (.nx (ρ.set i (some (.o (.lst (ds ++ [d]))))) p.2) else none
  | _ => none
theorem lkApp (i : Nat) {x : PySem.Str} {px pa pos' : Pos} (C : Cok W n X) (ha : PA X [e] (tXA W ms)) (hN : X.N[i]? = some x) (hv : Vis X.env.scope x) (hd : (x == ("__debug__" : PySem.Str)) = false := by decide) (hcd : (x == ("__classdict__" : PySem.Str)) = false := by decide)
    (h1 : PE X (.Call (.Attribute (.Name x px) "append" pa) [e] [] pos) (tBM X.K "list" rAppend (tVar i) (tXA W ms))) (hs : swapsWith (.Call (.Attribute (.Name x px) "append" pa) [e] [] pos) none pos'.line X.env = pure false := by rfl) :
    PS X (.Expr (.Call (.Attribute (.Name x px) "append" pa) [e] [] pos) pos') (tS W (sApp i ms)) :=
  psImp (ps_expr h1 hs) fun D σ H ⟨F₀, H₀, ρ, F, δ, r, G, hm, k⟩ => by
    obtain ⟨ds, h2, hm⟩ := Option.bind_eq_some_iff.mp hm
    obtain ⟨⟨es, δ1⟩, h3, hm⟩ := Option.bind_eq_some_iff.mp hm
    have hi := ownL_at h2
    obtain ⟨v, hv, a, q, f, n0, nd, vs, hh, rr⟩ := G.sl i _ hi
    subst q
    match es, hm with
    | [d], hm =>
      have hm : (if ds.length ≤ cap then _ else _) = _ := hm
      by_cases hc : ds.length ≤ cap
      · rw [if_pos hc] at hm
        cases hm
        refine ⟨_, hv, .inl ⟨rfl, _, .inl (.inl hh)⟩, F₀, H₀, ρ, F, δ, [d], δ1, G, h3, fun ys F1 H1 g1 r1 => ?_⟩
        cases r1 with
        | cons ry rn =>
          cases rn
          have e1 : H1 a = some (.lst vs) := g1.hh a _ hh nd
          refine ⟨a, vs, _, rfl, rfl, e1, cap_lt (by rw [rr.length]; exact hc), k σ F1 _ g1.ff ((G.later g1).write hi hv ⟨_, upd_same, (rr.ext g1.ff).append (.cons ry .nil)⟩)⟩
      · rw [if_neg hc] at hm; cases hm
/-- x.extend(e) -/
def sExt (i : Nat) (ms : MeL) : MeS := fun ρ δ => (ownL ρ i).bind fun ds => (ms ρ δ).bind fun p => match p.1 with
  | [.lst es] => if ds.length + es.length ≤ cap then some (.nx (ρ.set i (some (.o (.lst (ds ++ es))))) p.2) else none
  | _ => none
theorem lkExt (i : Nat) {x : PySem.Str} {px pa pos' : Pos} (h1 : PE X (.Call (.Attribute (.Name x px) "extend" pa) [e] [] pos) (tBM X.K "list" rExtend (tVar i) (tXA W ms))) (hs : swapsWith (.Call (.Attribute (.Name x px) "extend" pa) [e] [] pos) none pos'.line X.env = pure false := by rfl) :
    PS X (.Expr (.Call (.Attribute (.Name x px) "extend" pa) [e] [] pos) pos') (tS W (sExt i ms)) :=
  psImp (ps_expr h1 hs) fun D σ H ⟨F₀, H₀, ρ, F, δ, r, G, hm, k⟩ => by
    obtain ⟨ds, h2, hm⟩ := Option.bind_eq_some_iff.mp hm
    obtain ⟨⟨es, δ1⟩, h3, hm⟩ := Option.bind_eq_some_iff.mp hm
    have hi := ownL_at h2
    obtain ⟨v, hv, a, q, f, n0, nd, vs, hh, rr⟩ := G.sl i _ hi
    subst q
    match es, hm with
    | [.lst zs], hm =>
      have hm : (if ds.length + zs.length ≤ cap then _ else _) = _ := hm
      by_cases hc : ds.length + zs.length ≤ cap
      · rw [if_pos hc] at hm
        cases hm
        refine ⟨_, hv, .inl ⟨rfl, _, .inl (.inl hh)⟩, F₀, H₀, ρ, F, δ, [.lst zs], δ1, G, h3, fun ys F1 H1 g1 r1 => ?_⟩
        cases r1 with
        | cons ry rn =>
          cases rn
          cases ry with
          | lst hb rb =>
            have e1 : H1 a = some (.lst vs) := g1.hh a _ hh nd
            refine ⟨a, _, vs, _, rfl, rfl, e1, g1.fh _ _ hb, cap_le (by rw [rr.length, rb.length]; exact hc), k σ F1 _ g1.ff ((G.later g1).write hi hv ⟨_, upd_same, (rr.ext g1.ff).append rb⟩)⟩
      · rw [if_neg hc] at hm; cases hm
/-- target = x.pop() -/
def sPopE (i : Nat) (mg : MeG) : MeS := fun ρ δ => (ownL ρ i).bind fun ds => (ds[ds.length - 1]?).bind fun d => (mg d (ρ.set i (some (.o (.lst ds.dropLast))))).bind fun ρ1 => some (.nx ρ1 δ)
theorem Reps.dropLast {F : Hp} {vs : List V} {ds : List D} (r : Reps W F vs ds) : Reps W F vs.dropLast ds.dropLast := by
  rw [List.dropLast_eq_take, List.dropLast_eq_take, r.length]
  exact r.take _
theorem popE_run {i : Nat} : ∀ D σ H, tS W (sPopE i mg) D σ H → tAsg (tBM0 X.K "list" rPop (tVar i)) (gX W is mg) D σ H := fun D σ H ⟨F₀, H₀, ρ, F, δ, r, G, hm, k⟩ => by
  obtain ⟨ds, h2, hm⟩ := Option.bind_eq_some_iff.mp hm
  obtain ⟨d, h3, hm⟩ := Option.bind_eq_some_iff.mp hm
  obtain ⟨ρ1, h4, hm⟩ := Option.bind_eq_some_iff.mp hm
  cases hm
  have hi := ownL_at h2
  obtain ⟨v, hv, a, q, f, n0, nd, vs, hh, rr⟩ := G.sl i _ hi
  subst q
  obtain ⟨y, hy, ry⟩ := rr.getD h3
  refine ⟨_, hv, .inl ⟨rfl, _, .inl (.inl hh)⟩, a, vs, y, rfl, rfl, hh, by rw [rr.length]; exact hy, F₀, H₀, _, F, δ, d, ρ1, G.write (d' := .lst ds.dropLast) hi hv ⟨_, upd_same, rr.dropLast⟩, ry, h4, fun σ' G' _ => k σ' F _ .refl G'⟩
theorem six0 (k : Nat) : seqIndex? 0 (k + 1) = some 0 := by
  have h : ixN (k + 1) 0 = some 0 := by
    unfold ixN
    rw [if_pos (Int.le_refl 0), if_pos (by omega)]
    rfl
  exact (ixN_seq h).1
/-- target = x.pop(0) -/
def sPop0 (i : Nat) (mg : MeG) : MeS := fun ρ δ => (ownL ρ i).bind fun ds => match ds with
  | d :: r => if ds.length ≤ cap then (mg d (ρ.set i (some (.o (.lst r))))).bind fun ρ1 => some (.nx ρ1 δ) else none
  | [] => none
theorem pop0_run {i : Nat} : ∀ D σ H, tS W (sPop0 i mg) D σ H → tAsg (tBM X.K "list" rPopAt (tVar i) (tCons (tC (.int 0)) tNil)) (gX W is mg) D σ H := fun D σ H ⟨F₀, H₀, ρ, F, δ, r, G, hm, k⟩ => by
  obtain ⟨ds, h2, hm⟩ := Option.bind_eq_some_iff.mp hm
  match ds, h2, hm with
  | d :: ds', h2, hm =>
    have hm : (if (d :: ds').length ≤ cap then _ else _) = _ := hm
    by_cases hc : (d :: ds').length ≤ cap
    · rw [if_pos hc] at hm
      obtain ⟨ρ1, h4, hm⟩ := Option.bind_eq_some_iff.mp hm
      cases hm
      have hi := ownL_at h2
      obtain ⟨v, hv, a, q, f, n0, nd, vs, hh, rr⟩ := G.sl i _ hi
      subst q
      cases rr with
      | cons ry rs =>
        refine ⟨_, hv, .inl ⟨rfl, _, .inl (.inl hh)⟩, a, _, 0, 0, _, rfl, rfl, hh, by decide, by decide, ?_, rfl, F₀, H₀, _, F, δ, d, ρ1, G.write (d' := .lst ds') hi hv ⟨_, upd_same, rs⟩, ry, h4, fun σ' G' _ => k σ' F _ .refl G'⟩
        exact six0 _
    · rw [if_neg hc] at hm; cases hm
/-- x[k] = e, x an own list -/
def sSetL (i : Nat) (mk me : Me) : MeS := fun ρ δ => (me ρ δ).bind fun p => if p.1.isW then none else (mk ρ p.2).bind fun q => (ownL ρ i).bind fun ds => match q.1 with
  | .f (.int j) => (ixN ds.length j).bind fun l => some (.nx (ρ.set i (some (.o (.lst (ds.set l p.1.d))))) q.2)
  | _ => none
theorem setL_run {i : Nat} {mk : Me} : ∀ D σ H, tS W (sSetL i mk me) D σ H → tAsg (tX W me) (gSub (tVar i) (tX W mk) rSetL) D σ H := fun D σ H ⟨F₀, H₀, ρ, F, δ, r, G, hm, k⟩ => by
  obtain ⟨⟨b1, δ1⟩, h1, hm⟩ := Option.bind_eq_some_iff.mp hm
  cases hw : b1.isW with
  | true => simp [hw] at hm
  | false =>
    simp only [hw] at hm
    obtain ⟨⟨b2, δ2⟩, h2, hm⟩ := Option.bind_eq_some_iff.mp (show _ = _ from hm)
    obtain ⟨ds, h3, hm⟩ := Option.bind_eq_some_iff.mp hm
    have hi := ownL_at h3
    refine ⟨F₀, H₀, ρ, F, δ, b1, δ1, G, h1, fun v F1 H1 g1 v1 => ?_⟩
    obtain ⟨F2, x2, g2, r2⟩ := v1.fix g1 hw
    have G2 := G.later g2
    obtain ⟨v', hv, a, q, f, n0, nd, vs, hh, rr⟩ := G2.sl i _ hi
    subst q
    refine ⟨_, hv, F₀, H₀, ρ, F2, δ1, b2, δ2, G2, h2, fun w F3 H3 g3 w3 => ?_⟩
    match b2, hm with
    | .f (.int j), hm =>
      obtain ⟨l, h4, hm⟩ := Option.bind_eq_some_iff.mp (show (ixN ds.length j).bind _ = _ from hm)
      cases hm
      cases w3
      have e3 : H3 a = some (.lst vs) := g3.hh a _ hh nd
      exact ⟨a, vs, j, l, rfl, rfl, e3, by rw [rr.length]; exact h4, k σ F3 _ (g2.ff.trans g3.ff) ((G2.later g3).write hi hv ⟨_, upd_same, (rr.ext g3.ff).set (r2.ext g3.ff) l⟩)⟩
end
end Py
/-! Layer, part G: the operations. -/
namespace Py
open PySem L2

/-! ### data without dicts and objects -/
mutual
def toPy : D → Option PyData
  | .non => some .none
  | .bl b => some (.bool b)
  | .int i => some (.int i)
  | .str s => some (.str s)
  | .tup ds => (toPys ds).bind fun l => some (.tuple l)
  | .lst ds => (toPys ds).bind fun l => some (.list l)
  | _ => none
def toPys : List D → Option (List PyData)
  | [] => some []
  | d :: ds => (toPy d).bind fun x => (toPys ds).bind fun l => some (x :: l)
end
mutual
theorem Rep.dp {W : Wd} {H : Hp} : ∀ {v : V} {d : D} {p : PyData}, Rep W H v d → toPy d = some p → Dp W.K H v p
  | _, .non, _, .non, h => by simp only [toPy] at h; cases h; exact .non
  | _, .bl b, _, .bl _, h => by simp only [toPy] at h; cases h; exact .bl b
  | _, .int i, _, .int _, h => by simp only [toPy] at h; cases h; exact .int i
  | _, .str s, _, .str _, h => by simp only [toPy] at h; cases h; exact .str s
  | _, .tup ds, _, .tup q r, h => by
    simp only [toPy] at h
    obtain ⟨l, h1, h⟩ := Option.bind_eq_some_iff.mp h
    cases h
    exact .tup (tq q) (Reps.dp r h1)
  | _, .lst ds, _, .lst q r, h => by
    simp only [toPy] at h
    obtain ⟨l, h1, h⟩ := Option.bind_eq_some_iff.mp h
    cases h
    exact .lst (.inl (.inl q)) (Reps.dp r h1)
  | _, .dct _ _, _, _, h => by simp only [toPy] at h; cases h
  | _, .ins _ _, _, _, h => by simp only [toPy] at h; cases h
  | _, .scr _, _, _, h => by simp only [toPy] at h; cases h
  | _, .drw, _, _, h => by simp only [toPy] at h; cases h
  | _, .obj _ _ _, _, _, h => by simp only [toPy] at h; cases h
theorem Reps.dp {W : Wd} {H : Hp} : ∀ {vs : List V} {ds : List D} {l : List PyData}, Reps W H vs ds → toPys ds = some l → DpAll W.K H vs l
  | _, [], _, .nil, h => by simp only [toPys] at h; cases h; exact .nil
  | _, d :: ds, _, .cons a r, h => by
    simp only [toPys] at h
    obtain ⟨x, h1, h⟩ := Option.bind_eq_some_iff.mp h
    obtain ⟨l, h2, h⟩ := Option.bind_eq_some_iff.mp h
    cases h
    exact .cons (a.dp h1) (r.dp h2)
end
/-- == -/
def eqD (neg : Bool) (a b : B) : Option B := (toPy a.d).bind fun x => (toPy b.d).bind fun y => if SeqAt.shaped x && SeqAt.shaped y then some (.f (.bl (PyData.eqv x y != neg))) else none
theorem ba {a b : Bool} (h : (a && b) = true) : a = true ∧ b = true := Bool.and_eq_true_iff.mp h
section
variable {X : Cx} {W : Wd} {n : Nat}
theorem fin {F H : Hp} {δ : DS} {v : V} {d : D} {H₀ : Hp} {Q : VK} (e : Ext F H) (dr : Dr W H δ) (r : Rep W F v d) (k : ∀ v F' H', Go W F H F' H' δ → Val W H₀ H F' H' v (.f d) → Q v H') : Q v H := k v F H (.refl e dr) r
theorem op2_eq : Op2 W (rEqD W.K) (eqD false) := fun F H δ x y b1 b2 b e dr r1 r2 hg H₀ Q k => by
  obtain ⟨p, h1, hg⟩ := Option.bind_eq_some_iff.mp hg
  obtain ⟨q, h2, hg⟩ := Option.bind_eq_some_iff.mp hg
  split at hg
  · next hs =>
    cases hg
    obtain ⟨s1, s2⟩ := ba hs
    rw [Bool.bne_false] at k
    exact ⟨p, q, (r1.rep e).dp h1, (r2.rep e).dp h2, s1, s2, fin e dr (.bl _) k⟩
  · cases hg
theorem op2_ne : Op2 W (rNeD W.K) (eqD true) := fun F H δ x y b1 b2 b e dr r1 r2 hg H₀ Q k => by
  obtain ⟨p, h1, hg⟩ := Option.bind_eq_some_iff.mp hg
  obtain ⟨q, h2, hg⟩ := Option.bind_eq_some_iff.mp hg
  split at hg
  · next hs =>
    cases hg
    obtain ⟨s1, s2⟩ := ba hs
    rw [Bool.bne_true] at k
    exact ⟨p, q, (r1.rep e).dp h1, (r2.rep e).dp h2, s1, s2, fin e dr (.bl _) k⟩
  · cases hg
variable {a b c e : Expr} {ma mb mc : Me} {pos p p2 : Pos}
theorem lkEq (C : Cok W n X) (ha : PE X a (tX W ma)) (hb : PE X b (tX W mb)) : PE X (.Compare a [.Eq] [b] pos) (tX W (s2 (eqD false) ma mb)) := lkCmp (op_eqD C.room.units) (by rw [C.k]; exact op2_eq) ha hb (nomark _)
theorem lkNe (C : Cok W n X) (ha : PE X a (tX W ma)) (hb : PE X b (tX W mb)) : PE X (.Compare a [.NotEq] [b] pos) (tX W (s2 (eqD true) ma mb)) := lkCmp (op_neD C.room.units) (by rw [C.k]; exact op2_ne) ha hb (nomark _)
theorem lkTEq (C : Cok W n X) (ha : PE X a (tX W ma)) (hb : PE X b (tX W mb)) : PT X (.Compare a [.Eq] [b] pos) (tXT W (sTest (s2 (eqD false) ma mb))) := lkTCmp (op_eqD C.room.units) (by rw [C.k]; exact op2_eq) ha hb (nomark _)
theorem lkTNe (C : Cok W n X) (ha : PE X a (tX W ma)) (hb : PE X b (tX W mb)) : PT X (.Compare a [.NotEq] [b] pos) (tXT W (sTest (s2 (eqD true) ma mb))) := lkTCmp (op_neD C.room.units) (by rw [C.k]; exact op2_ne) ha hb (nomark _)

/-! ### ints -/
def iiB (g : Int → Int → D) (a b : B) : Option B := match a, b with
  | .f (.int i), .f (.int j) => some (.f (g i j))
  | _, _ => none
def sc : D → V
  | .bl b => .bl b
  | .int i => .int i
  | .str s => .str s
  | _ => .non
theorem op2_I0 {g : Int → Int → D} {gv : Int → Int → V} (h : ∀ i j F, Rep W F (gv i j) (g i j)) : Op2 W (rI0 gv) (iiB g) := fun F H δ x y b1 b2 b e dr r1 r2 hg H₀ Q k => by
  unfold iiB at hg
  split at hg
  · cases hg
    cases r1
    cases r2
    exact ⟨_, _, rfl, rfl, fin e dr (h _ _ F) k⟩
  · cases hg
def iiC (c : Int → Int → Bool) (g : Int → Int → D) (a b : B) : Option B := match a, b with
  | .f (.int i), .f (.int j) => if c i j then some (.f (g i j)) else none
  | _, _ => none
theorem op2_I {C : Int → Int → Prop} {c : Int → Int → Bool} {g : Int → Int → D} {gv : Int → Int → V} (hc : ∀ i j, c i j = true → C i j) (h : ∀ i j F, Rep W F (gv i j) (g i j)) : Op2 W (rI C gv) (iiC c g) := fun F H δ x y b1 b2 b e dr r1 r2 hg H₀ Q k => by
  unfold iiC at hg
  split at hg
  · split at hg
    · next hh =>
      cases hg
      cases r1
      cases r2
      exact ⟨_, _, rfl, rfl, hc _ _ hh, fin e dr (h _ _ F) k⟩
    · cases hg
  · cases hg
theorem Op2.or {r r' : R2} {g g' : B → B → Option B} (h : Op2 W r g) (h' : Op2 W r' g') : Op2 W (fun x y H Q => r x y H Q ∨ r' x y H Q) (fun a b => match g a b with
    | some z => some z
    | none => g' a b) := fun F H δ x y b1 b2 b e dr r1 r2 hg H₀ Q k => by
  cases q : g b1 b2 with
  | some z =>
    simp only [q] at hg
    cases hg
    exact .inl (h F H δ x y b1 b2 _ e dr r1 r2 q H₀ Q k)
  | none =>
    simp only [q] at hg
    exact .inr (h' F H δ x y b1 b2 _ e dr r1 r2 hg H₀ Q k)

/-! ### + -/
def addStr (a b : B) : Option B := match a, b with
  | .f (.str x), .f (.str y) => if x.length + y.length ≤ cap then some (.f (.str (x ++ y))) else none
  | _, _ => none
theorem op2_addStr : Op2 W (fun x y H Q => ∃ i j, x = .str i ∧ y = .str j ∧ i.length + j.length ≤ sizeLine ∧ Q (.str (i ++ j)) H) addStr := fun F H δ x y b1 b2 b e dr r1 r2 hg H₀ Q k => by
  unfold addStr at hg
  split at hg
  · split at hg
    · next hh =>
      cases hg
      cases r1
      cases r2
      exact ⟨_, _, rfl, rfl, cap_le hh, fin e dr (.str _) k⟩
    · cases hg
  · cases hg
def addTup (a b : B) : Option B := match a, b with
  | .f (.tup x), .f (.tup y) => if x.length + y.length ≤ cap then some (.f (.tup (x ++ y))) else none
  | _, _ => none
theorem op2_addTup : Op2 W (rCatA W.K) addTup := fun F H δ x y b1 b2 b e dr r1 r2 hg H₀ Q k => by
  unfold addTup at hg
  split at hg
  · split at hg
    · next hh =>
      cases hg
      cases r1 with
      | tup q1 rs1 =>
        cases r2 with
        | tup q2 rs2 =>
          refine ⟨_, _, _, _, rfl, rfl, tq (e _ _ q1), tq (e _ _ q2), cap_le (by rw [rs1.length, rs2.length]; exact hh), fun z => ?_, fun _ z => ?_, fun _ _ p hp => ?_⟩
          · subst z
            cases rs1
            exact fin e dr (Rep.tup q2 rs2) k
          · subst z
            cases rs2
            rw [List.append_nil] at k
            exact fin e dr (Rep.tup q1 rs1) k
          · exact k _ _ _ (go_tup e dr hp) (Rep.tup upd_same ((rs1.append rs2).ext (go_tup e dr hp (xs := _)).ff))
    · cases hg
  · cases hg
def listOf : B → Option (List D)
  | .f (.lst ds) => some ds
  | .o (.lst ds) => some ds
  | .w (.lst ds) => some ds
  | _ => none
theorem Rv.lst {F H : Hp} {v : V} (e : Ext F H) {b : B} {ds : List D} (r : Rv W F H v b) (h : listOf b = some ds) : ∃ a vs, v = .ref a ∧ H a = some (.lst vs) ∧ Reps W F vs ds := by
  unfold listOf at h
  split at h
  · cases h
    have r : Rep W F v (.lst ds) := r
    cases r with
    | lst q r => exact ⟨_, _, rfl, e _ _ q, r⟩
  · cases h
    obtain ⟨a, z, vs, q, r⟩ := r
    exact ⟨a, vs, z, q, r⟩
  · cases h
    obtain ⟨a, z, vs, q, r⟩ := r
    exact ⟨a, vs, z, q, r⟩
  · cases h
theorem newL {F H H₀ : Hp} {δ : DS} {Q : VK} {vs : List V} {ds : List D} {p : Addr} (e : Ext F H) (dr : Dr W H δ) (hp : H p = none) (r : Reps W F vs ds) (k : ∀ v F' H', Go W F H F' H' δ → Val W H₀ H F' H' v (.o (.lst ds)) → Q v H') : Q (.ref p) (upd H p (.lst vs)) := by
  refine k _ F _ (go_new e dr hp) ⟨p, rfl, hp, ?_, dr.not hp, vs, upd_same, r⟩
  cases q : F p with
  | none => rfl
  | some o => rw [e p o q] at hp; cases hp
def addLst (a b : B) : Option B := (listOf a).bind fun x => (listOf b).bind fun y => if x.length + y.length ≤ cap then some (.o (.lst (x ++ y))) else none
theorem op2_addLst : Op2 W rCat addLst := fun F H δ x y b1 b2 b e dr r1 r2 hg H₀ Q k => by
  obtain ⟨xs, h1, hg⟩ := Option.bind_eq_some_iff.mp hg
  obtain ⟨ys, h2, hg⟩ := Option.bind_eq_some_iff.mp hg
  split at hg
  · next hh =>
    cases hg
    obtain ⟨a1, vs, rfl, q1, rs1⟩ := r1.lst e h1
    obtain ⟨a2, ws, rfl, q2, rs2⟩ := r2.lst e h2
    exact ⟨a1, a2, vs, ws, rfl, rfl, q1, q2, cap_le (by rw [rs1.length, rs2.length]; exact hh), fun p hp => newL e dr hp (rs1.append rs2) k⟩
  · cases hg
def addI : B → B → Option B := iiB fun i j => .int (i + j)
def subI : B → B → Option B := iiB fun i j => .int (i - j)
theorem lkAddI (ha : PE X a (tX W ma)) (hb : PE X b (tX W mb)) : PE X (.BinOp a .Add b pos) (tX W (s2 addI ma mb)) := lkBin op_add (op2_I0 fun _ _ _ => .int _) ha hb
theorem lkSubI (ha : PE X a (tX W ma)) (hb : PE X b (tX W mb)) : PE X (.BinOp a .Sub b pos) (tX W (s2 subI ma mb)) := lkBin op_sub (op2_I0 fun _ _ _ => .int _) ha hb
theorem lkAddS (ha : PE X a (tX W ma)) (hb : PE X b (tX W mb)) : PE X (.BinOp a .Add b pos) (tX W (s2 addStr ma mb)) := lkBin op_add_str op2_addStr ha hb
theorem lkAddT (C : Cok W n X) (ha : PE X a (tX W ma)) (hb : PE X b (tX W mb)) : PE X (.BinOp a .Add b pos) (tX W (s2 addTup ma mb)) := lkBin op_catA (by rw [C.k]; exact op2_addTup) ha hb
theorem lkAddL (ha : PE X a (tX W ma)) (hb : PE X b (tX W mb)) : PE X (.BinOp a .Add b pos) (tX W (s2 addLst ma mb)) := lkBin op_cat op2_addLst ha hb
def mulC (i j : Int) : Bool := decide (-(2 ^ 64) < i ∧ i < 2 ^ 64) || decide (-(2 ^ 64) < j ∧ j < 2 ^ 64)
theorem mulC_ok {i j : Int} (h : mulC i j = true) : CMul i j := by
  unfold mulC at h
  rcases Bool.or_eq_true_iff.mp h with h | h
  · exact .inl (of_decide_eq_true h)
  · exact .inr (of_decide_eq_true h)
def mulI : B → B → Option B := iiC mulC fun i j => .int (i * j)
theorem lkMulI (ha : PE X a (tX W ma)) (hb : PE X b (tX W mb)) : PE X (.BinOp a .Mult b pos) (tX W (s2 mulI ma mb)) := lkBin op_mul (op2_I (fun _ _ h => mulC_ok h) fun _ _ _ => .int _) ha hb
def modI : B → B → Option B := iiC (fun _ j => decide (0 < j)) fun i j => .int (i % j)
theorem lkModI (ha : PE X a (tX W ma)) (hb : PE X b (tX W mb)) : PE X (.BinOp a .Mod b pos) (tX W (s2 modI ma mb)) := lkBin op_mod (op2_I (fun _ _ h => of_decide_eq_true h) fun _ _ _ => .int _) ha hb
def divI : B → B → Option B := iiC (fun _ j => decide (0 < j ∧ j < 1073741824)) fun i j => .int (i / j)
theorem lkDivI (ha : PE X a (tX W ma)) (hb : PE X b (tX W mb)) : PE X (.BinOp a .FloorDiv b pos) (tX W (s2 divI ma mb)) := lkBin op_fdiv (op2_I (fun _ _ h => show _ ∧ _ from of_decide_eq_true h) fun _ _ _ => .int _) ha hb
def ltI : B → B → Option B := iiB fun i j => .bl (decide (i < j))
def leI : B → B → Option B := iiB fun i j => .bl (decide (i ≤ j))
def gtI : B → B → Option B := iiB fun i j => .bl (decide (j < i))
def geI : B → B → Option B := iiB fun i j => .bl (decide (j ≤ i))
theorem lkLtI (ha : PE X a (tX W ma)) (hb : PE X b (tX W mb)) : PE X (.Compare a [.Lt] [b] pos) (tX W (s2 ltI ma mb)) := lkCmp op_lt (op2_I0 fun _ _ _ => .bl _) ha hb (nomark _)
theorem lkTLtI (ha : PE X a (tX W ma)) (hb : PE X b (tX W mb)) : PT X (.Compare a [.Lt] [b] pos) (tXT W (sTest (s2 ltI ma mb))) := lkTCmp op_lt (op2_I0 fun _ _ _ => .bl _) ha hb (nomark _)
theorem lkTLeI (ha : PE X a (tX W ma)) (hb : PE X b (tX W mb)) : PT X (.Compare a [.LtE] [b] pos) (tXT W (sTest (s2 leI ma mb))) := lkTCmp op_le (op2_I0 fun _ _ _ => .bl _) ha hb (nomark _)
theorem lkTGtI (ha : PE X a (tX W ma)) (hb : PE X b (tX W mb)) : PT X (.Compare a [.Gt] [b] pos) (tXT W (sTest (s2 gtI ma mb))) := lkTCmp op_gt (op2_I0 fun _ _ _ => .bl _) ha hb (nomark _)
theorem lkTGeI (ha : PE X a (tX W ma)) (hb : PE X b (tX W mb)) : PT X (.Compare a [.GtE] [b] pos) (tXT W (sTest (s2 geI ma mb))) := lkTCmp op_ge (op2_I0 fun _ _ _ => .bl _) ha hb (nomark _)
/-- l <= x <= m of ints -/
def sChain (g g' : B → B → Option B) (ma mb mc : Me) : Me := fun ρ δ => (ma ρ δ).bind fun p => (mb ρ p.2).bind fun q => (g p.1 q.1).bind fun z => match z with
  | .f (.bl true) => (mc ρ q.2).bind fun r => (g' q.1 r.1).bind fun y => some (y, r.2)
  | .f (.bl false) => some (.f (.bl false), q.2)
  | _ => none
theorem chain_run {r r' : R2} {g g' : B → B → Option B} (hr : Op2 W r g) (hr' : Op2 W r' g') : ∀ σ H Q, tX W (sChain g g' ma mb mc) σ H Q → tChain r r' (tX W ma) (tX W mb) (tX W mc) σ H Q := fun σ H Q ⟨F₀, H₀, ρ, F, δ, b, δ', G, hm, k⟩ => by
  obtain ⟨⟨b1, δ1⟩, h1, hm⟩ := Option.bind_eq_some_iff.mp hm
  obtain ⟨⟨b2, δ2⟩, h2, hm⟩ := Option.bind_eq_some_iff.mp hm
  obtain ⟨z, h3, hm⟩ := Option.bind_eq_some_iff.mp hm
  refine ⟨F₀, H₀, ρ, F, δ, b1, δ1, G, h1, fun x F1 H1 g1 v1 => ⟨F₀, H₀, ρ, F1, δ1, b2, δ2, G.later g1, h2, fun y F2 H2 g2 v2 => hr F2 H2 δ2 x y b1 b2 z g2.fh g2.dr (v1.go g2).rv v2.rv h3 H₀ _ fun v F3 H3 g3 v3 => ?_⟩⟩
  have g23 := (g1.trans g2).trans g3
  match z, hm, v3 with
  | .f (.bl true), hm, v3 =>
    cases v3
    obtain ⟨⟨b4, δ4⟩, h4, hm⟩ := Option.bind_eq_some_iff.mp (show (mc ρ δ2).bind _ = _ from hm)
    obtain ⟨y5, h5, hm⟩ := Option.bind_eq_some_iff.mp hm
    cases hm
    exact ⟨true, rfl, iteT ⟨F₀, H₀, ρ, F3, δ2, b4, δ4, G.later g23, h4, fun w4 F4 H4 g4 v4 => hr' F4 H4 δ4 y w4 b2 b4 _ g4.fh g4.dr ((v2.go g3).go g4).rv v4.rv h5 H₀ Q fun v F5 H5 g5 v5 => k v F5 H5 ((g23.trans g4).trans g5) (v5.back (g23.trans g4))⟩⟩
  | .f (.bl false), hm, v3 =>
    cases v3
    cases hm
    exact ⟨false, rfl, iteF (k _ F3 H3 g23 (.bl false))⟩
theorem lkChainLe (ha : PE X a (tX W ma)) (hb : PE X b (tX W mb)) (hc : PE X c (tX W mc)) (hm : lastMarks [CmpOp.LtE, .LtE] [b, c] = false := by with_unfolding_all rfl) : PE X (.Compare a [.LtE, .LtE] [b, c] pos) (tX W (sChain leI leI ma mb mc)) :=
  peImp (pe_chain op_le op_le ha hb hc hm) (chain_run (op2_I0 fun _ _ _ => .bl _) (op2_I0 fun _ _ _ => .bl _))
theorem lkTChainLe (ha : PE X a (tX W ma)) (hb : PE X b (tX W mb)) (hc : PE X c (tX W mc)) (hm : lastMarks [CmpOp.LtE, .LtE] [b, c] = false := by with_unfolding_all rfl) : PT X (.Compare a [.LtE, .LtE] [b, c] pos) (tXT W (sTest (sChain leI leI ma mb mc))) :=
  ptImp (pt_chain op_le op_le ha hb hc hm) fun σ H Q h => chain_run (op2_I0 fun _ _ _ => .bl _) (op2_I0 fun _ _ _ => .bl _) σ H _ (sTest_run σ H Q h)

/-! ### is None -/
def B.isNon : B → Bool
  | .f .non => true
  | _ => false
def isNonB (neg : Bool) (a : B) : Option B := some (.f (.bl (a.isNon != neg)))
theorem non_iff {F H : Hp} {v : V} {b : B} (r : Rv W F H v b) : decide (v = V.non) = b.isNon := by
  cases b with
  | f d =>
    have r : Rep W F v d := r
    cases r <;> rfl
  | o d => obtain ⟨a, e, _⟩ := r; subst e; rfl
  | w d => obtain ⟨a, e, _⟩ := r; subst e; rfl
theorem lkIsN {j : Nat} {p' : Pos} (ha : PE X a (tX W ma)) : PE X (.Compare a [.Is] [.Constant .none j p'] pos) (tX W (s1 (isNonB false) ma)) := peImp (pe_cmp (pc_isN ha)) fun σ H Q h =>
  s1_run (r := fun x H Q => Q (.bl (decide (x = .non))) H) (fun F H δ x b1 b e dr r1 hg H₀ Q k => by
    cases hg
    show Q (.bl (decide (x = .non))) H
    rw [Bool.bne_false] at k
    rw [non_iff r1]
    exact fin e dr (.bl _) k) σ H Q h
theorem lkNotN {j : Nat} {p' : Pos} (ha : PE X a (tX W ma)) : PE X (.Compare a [.IsNot] [.Constant .none j p'] pos) (tX W (s1 (isNonB true) ma)) := peImp (pe_cmp (pc_notN ha)) fun σ H Q h =>
  s1_run (r := fun x H Q => Q (.bl (!decide (x = .non))) H) (fun F H δ x b1 b e dr r1 hg H₀ Q k => by
    cases hg
    show Q (.bl (!decide (x = .non))) H
    rw [Bool.bne_true] at k
    rw [non_iff r1]
    exact fin e dr (.bl _) k) σ H Q h
theorem lkTIsN {j : Nat} {p' : Pos} (ha : PE X a (tX W ma)) : PT X (.Compare a [.Is] [.Constant .none j p'] pos) (tXT W (sTest (s1 (isNonB false) ma))) := ptImp (pt_cmp (pc_isN ha)) fun σ H Q h =>
  s1_run (r := fun x H Q => Q (.bl (decide (x = .non))) H) (fun F H δ x b1 b e dr r1 hg H₀ Q k => by
    cases hg
    show Q (.bl (decide (x = .non))) H
    rw [Bool.bne_false] at k
    rw [non_iff r1]
    exact fin e dr (.bl _) k) σ H _ (sTest_run σ H Q h)
theorem lkTNotN {j : Nat} {p' : Pos} (ha : PE X a (tX W ma)) : PT X (.Compare a [.IsNot] [.Constant .none j p'] pos) (tXT W (sTest (s1 (isNonB true) ma))) := ptImp (pt_cmp (pc_notN ha)) fun σ H Q h =>
  s1_run (r := fun x H Q => Q (.bl (!decide (x = .non))) H) (fun F H δ x b1 b e dr r1 hg H₀ Q k => by
    cases hg
    show Q (.bl (!decide (x = .non))) H
    rw [Bool.bne_true] at k
    rw [non_iff r1]
    exact fin e dr (.bl _) k) σ H _ (sTest_run σ H Q h)

/-! ### subscripts, slices -/
def ixT (a b : B) : Option B := match a, b with
  | .f (.tup ds), .f (.int i) => (atI ds i).bind fun d => some (.f d)
  | _, _ => none
def ixL (a b : B) : Option B := (listOf a).bind fun ds => match b with
  | .f (.int i) => (atI ds i).bind fun d => some (.f d)
  | _ => none
def ixS (a b : B) : Option B := match a, b with
  | .f (.str z), .f (.int i) => if z.length ≤ cap then (atI z.cps.toList i).bind fun c => some (.f (.str ⟨#[c]⟩)) else none
  | _, _ => none
theorem Reps.atI {F : Hp} {vs : List V} {ds : List D} {i : Int} {d : D} (r : Reps W F vs ds) (h : atI ds i = some d) : ∃ v, L2.atI vs i = some v ∧ Rep W F v d := by
  unfold L2.atI at h ⊢
  rw [r.length]
  obtain ⟨j, h1, h2⟩ := Option.bind_eq_some_iff.mp h
  obtain ⟨v, hv, rv⟩ := r.getD h2
  exact ⟨v, by rw [h1]; exact hv, rv⟩
theorem op2_ixT : Op2 W (rIxT W.K) ixT := fun F H δ x y b1 b2 b e dr r1 r2 hg H₀ Q k => by
  unfold ixT at hg
  split at hg
  · obtain ⟨d, h1, hg⟩ := Option.bind_eq_some_iff.mp hg
    cases hg
    cases r2
    cases r1 with
    | tup q rs =>
      obtain ⟨v, hv, rv⟩ := rs.atI h1
      exact ⟨_, _, _, v, rfl, rfl, tq (e _ _ q), hv, fin e dr rv k⟩
  · cases hg
theorem op2_ixL : Op2 W (rIxL W.K) ixL := fun F H δ x y b1 b2 b e dr r1 r2 hg H₀ Q k => by
  obtain ⟨ds, h0, hg⟩ := Option.bind_eq_some_iff.mp hg
  obtain ⟨a1, vs, rfl, q1, rs1⟩ := r1.lst e h0
  match b2, hg with
  | .f (.int i), hg =>
    obtain ⟨d, h1, hg⟩ := Option.bind_eq_some_iff.mp (show (atI ds i).bind _ = _ from hg)
    cases hg
    cases r2
    obtain ⟨v, hv, rv⟩ := rs1.atI h1
    exact ⟨_, _, _, v, rfl, rfl, .inl (.inl q1), hv, fin e dr rv k⟩
theorem op2_ixS : Op2 W rIxS ixS := fun F H δ x y b1 b2 b e dr r1 r2 hg H₀ Q k => by
  unfold ixS at hg
  split at hg
  · split at hg
    · next hl =>
      obtain ⟨c, h1, hg⟩ := Option.bind_eq_some_iff.mp hg
      cases hg
      cases r1
      cases r2
      exact ⟨_, _, c, rfl, rfl, cap_le hl, h1, fin e dr (.str _) k⟩
    · cases hg
  · cases hg
theorem lkIxT (C : Cok W n X) (ha : PE X a (tX W ma)) (hb : PE X b (tX W mb)) (hp : PlainIx b := by exact fun _ _ => rfl) : PE X (.Subscript a b pos) (tX W (s2 ixT ma mb)) := lkIx ix_tup (by rw [C.k]; exact op2_ixT) ha hb hp
theorem lkIxL (C : Cok W n X) (ha : PE X a (tX W ma)) (hb : PE X b (tX W mb)) (hp : PlainIx b := by exact fun _ _ => rfl) : PE X (.Subscript a b pos) (tX W (s2 ixL ma mb)) := lkIx ix_list (by rw [C.k]; exact op2_ixL) ha hb hp
theorem lkIxS (C : Cok W n X) (ha : PE X a (tX W ma)) (hb : PE X b (tX W mb)) (hp : PlainIx b := by exact fun _ _ => rfl) : PE X (.Subscript a b pos) (tX W (s2 ixS ma mb)) := lkIx ix_str op2_ixS ha hb hp
/-- tuple, list or text -/
def ixA (a b : B) : Option B := match ixL a b with
  | some z => some z
  | none => match ixT a b with
    | some z => some z
    | none => ixS a b
theorem lkIxA (C : Cok W n X) (ha : PE X a (tX W ma)) (hb : PE X b (tX W mb)) (hp : PlainIx b := by exact fun _ _ => rfl) : PE X (.Subscript a b pos) (tX W (s2 ixA ma mb)) := lkIx ix_seq (by unfold rIx; rw [C.k]; exact op2_ixL.or (op2_ixT.or op2_ixS)) ha hb hp

abbrev MeO := En → DS → Option (Option Int × DS)
def tXO (W : Wd) (m : MeO) : TO := fun σ H Q => ∃ F₀ H₀ ρ F δ o δ', Good W F₀ H₀ σ ρ F H δ ∧ m ρ δ = some (o, δ') ∧ ∀ F' H', Go W F H F' H' δ' → Q o H'
theorem poImp {e : Option Expr} {t t' : TO} (h : PO X e t) (i : ∀ σ H Q, t' σ H Q → t σ H Q) : PO X e t' := ⟨fun pins s σ H Q I q => h.run pins s σ H Q I (i σ H Q q)⟩
def oNo : MeO := fun _ δ => some (none, δ)
def oYes (m : Me) : MeO := fun ρ δ => (m ρ δ).bind fun p => match p.1 with
  | .f (.int i) => some (some i, p.2)
  | _ => none
theorem lkONo : PO X none (tXO W oNo) := poImp po_none fun σ H Q ⟨F₀, H₀, ρ, F, δ, o, δ', G, hm, k⟩ => by
  cases hm
  exact k F H (.refl G.go.fh G.go.dr)
theorem lkOYes (h : PE X e (tX W ma)) : PO X (some e) (tXO W (oYes ma)) := poImp (po_some h) fun σ H Q ⟨F₀, H₀, ρ, F, δ, o, δ', G, hm, k⟩ => by
  obtain ⟨⟨b1, δ1⟩, h1, hm⟩ := Option.bind_eq_some_iff.mp hm
  refine ⟨F₀, H₀, ρ, F, δ, b1, δ1, G, h1, fun v F1 H1 g1 v1 => ?_⟩
  match b1, hm, v1 with
  | .f (.int i), hm, v1 =>
    cases hm
    cases v1
    exact ⟨i, rfl, k F1 H1 g1⟩
def sSl (g : B → Option Int → Option Int → Option B) (ma : Me) (ml mh : MeO) : Me := fun ρ δ => (ma ρ δ).bind fun p => (ml ρ p.2).bind fun q => (mh ρ q.2).bind fun r => (g p.1 q.1 r.1).bind fun z => some (z, r.2)
def Op3 (W : Wd) (r : V → Option Int → Option Int → Hp → VK → Prop) (g : B → Option Int → Option Int → Option B) : Prop := ∀ F H δ x b1 lo hi b, Ext F H → Dr W H δ → Rv W F H x b1 → g b1 lo hi = some b → ∀ H₀ (Q : VK), (∀ v F' H', Go W F H F' H' δ → Val W H₀ H F' H' v b → Q v H') → r x lo hi H Q
theorem lkSl {r : V → Option Int → Option Int → Hp → VK → Prop} {g : B → Option Int → Option Int → Option B} {lo hi : Option Expr} {ml mh : MeO} (hs : SlR X r) (hr : Op3 W r g) (ha : PE X a (tX W ma)) (hl : PO X lo (tXO W ml)) (hh : PO X hi (tXO W mh)) : PE X (.Subscript a (.Slice lo hi none p2) pos) (tX W (sSl g ma ml mh)) :=
  peImp (pe_slice hs ha hl hh) fun σ H Q ⟨F₀, H₀, ρ, F, δ, b, δ', G, hm, k⟩ => by
    obtain ⟨⟨b1, δ1⟩, h1, hm⟩ := Option.bind_eq_some_iff.mp hm
    obtain ⟨⟨o2, δ2⟩, h2, hm⟩ := Option.bind_eq_some_iff.mp hm
    obtain ⟨⟨o3, δ3⟩, h3, hm⟩ := Option.bind_eq_some_iff.mp hm
    obtain ⟨z, h4, hm⟩ := Option.bind_eq_some_iff.mp hm
    cases hm
    exact ⟨F₀, H₀, ρ, F, δ, b1, δ1, G, h1, fun x F1 H1 g1 v1 => ⟨F₀, H₀, ρ, F1, δ1, o2, δ2, G.later g1, h2, fun F2 H2 g2 => ⟨F₀, H₀, ρ, F2, δ2, o3, δ3, G.later (g1.trans g2), h3, fun F3 H3 g3 =>
      hr F3 H3 δ3 x b1 o2 o3 b g3.fh g3.dr ((v1.go g2).go g3).rv h4 H₀ Q fun v F4 H4 g4 v4 => k v F4 H4 (((g1.trans g2).trans g3).trans g4) (v4.back ((g1.trans g2).trans g3))⟩⟩⟩
def cutD (xs : List D) (lo hi : Option Int) : List D := (xs.drop (HT.sIx xs.length 0 lo)).take (HT.sIx xs.length xs.length hi - HT.sIx xs.length 0 lo)
theorem Reps.cut {F : Hp} {vs : List V} {ds : List D} (r : Reps W F vs ds) (lo hi : Option Int) : Reps W F (cutV vs lo hi) (cutD ds lo hi) := by
  unfold cutV cutD
  rw [r.length]
  exact (r.drop _).take _
theorem cutD_all (ds : List D) {lo hi : Option Int} (h : HT.sIx ds.length 0 lo = 0 ∧ HT.sIx ds.length ds.length hi = ds.length) : cutD ds lo hi = ds := by
  unfold cutD
  rw [h.1, h.2]
  simp
def slT (a : B) (lo hi : Option Int) : Option B := match a with
  | .f (.tup ds) => some (.f (.tup (cutD ds lo hi)))
  | _ => none
theorem op3_T : Op3 W (rSlA W.K) slT := fun F H δ x b1 lo hi b e dr r1 hg H₀ Q k => by
  match b1, hg with
  | .f (.tup ds), hg =>
    cases hg
    cases r1 with
    | tup q rs =>
      refine ⟨_, _, rfl, tq (e _ _ q), fun z => ?_, fun _ p hp => ?_⟩
      · rw [rs.length] at z
        rw [cutD_all ds z] at k
        exact fin e dr (Rep.tup q rs) k
      · exact k _ _ _ (go_tup e dr hp) (Rep.tup upd_same ((rs.cut lo hi).ext (go_tup e dr hp (xs := _)).ff))
def slL (a : B) (lo hi : Option Int) : Option B := (listOf a).bind fun ds => some (.o (.lst (cutD ds lo hi)))
theorem op3_L : Op3 W (rSlL W.K) slL := fun F H δ x b1 lo hi b e dr r1 hg H₀ Q k => by
  obtain ⟨ds, h1, hg⟩ := Option.bind_eq_some_iff.mp hg
  cases hg
  obtain ⟨a1, vs, rfl, q1, rs1⟩ := r1.lst e h1
  exact ⟨a1, vs, rfl, .inl (.inl q1), fun p hp => newL e dr hp (rs1.cut lo hi) k⟩
def slS (a : B) (lo hi : Option Int) : Option B := match a with
  | .f (.str z) => if z.length ≤ cap then some (.f (.str (cutS z lo hi))) else none
  | _ => none
theorem op3_S : Op3 W rSlS slS := fun F H δ x b1 lo hi b e dr r1 hg H₀ Q k => by
  match b1, hg with
  | .f (.str z), hg =>
    have hg : (if z.length ≤ cap then _ else _) = _ := hg
    by_cases hc : z.length ≤ cap
    · rw [if_pos hc] at hg
      cases hg
      cases r1
      exact ⟨z, rfl, cap_le hc, fin e dr (.str _) k⟩
    · rw [if_neg hc] at hg; cases hg
theorem lkSlT {lo hi : Option Expr} {ml mh : MeO} (C : Cok W n X) (ha : PE X a (tX W ma)) (hl : PO X lo (tXO W ml)) (hh : PO X hi (tXO W mh)) : PE X (.Subscript a (.Slice lo hi none p2) pos) (tX W (sSl slT ma ml mh)) := lkSl sl_tupA (by rw [C.k]; exact op3_T) ha hl hh
theorem lkSlL {lo hi : Option Expr} {ml mh : MeO} (C : Cok W n X) (ha : PE X a (tX W ma)) (hl : PO X lo (tXO W ml)) (hh : PO X hi (tXO W mh)) : PE X (.Subscript a (.Slice lo hi none p2) pos) (tX W (sSl slL ma ml mh)) := lkSl sl_list (by rw [C.k]; exact op3_L) ha hl hh
theorem lkSlS {lo hi : Option Expr} {ml mh : MeO} (ha : PE X a (tX W ma)) (hl : PO X lo (tXO W ml)) (hh : PO X hi (tXO W mh)) : PE X (.Subscript a (.Slice lo hi none p2) pos) (tX W (sSl slS ma ml mh)) := lkSl sl_str op3_S ha hl hh
end
end Py
/-! Layer, part H: enumerate and zip over lists, tuples and texts. -/
namespace Py
open PySem L2 PyProof.Rows

/-- a source: a list, a tuple, a text -/
inductive Kd where
  | l (a : Addr) (xs : List V) | t (a : Addr) (xs : List V) | s (z : PySem.Str)
def Kd.len : Kd → Nat
  | .l _ xs => xs.length
  | .t _ xs => xs.length
  | .s z => z.cps.size
def Kd.nth (i : Nat) : Kd → Option V
  | .l _ xs => xs[i]?
  | .t _ xs => xs[i]?
  | .s z => z.cps[i]?.map fun c => .str ⟨#[c]⟩
def Kd.v : Kd → V
  | .l a _ => .ref a
  | .t a _ => .ref a
  | .s z => .str z
def Kd.ok (K : PySem.W.Frag) (H : Hp) : Kd → Prop
  | .l a xs => SqL K H a xs
  | .t a xs => SqT K H a xs
  | .s _ => True
def Kd.st (it : Addr) (i : Nat) (h : Heap) : Kd → Prop
  | .l a _ => h.IsListIter it a i
  | .t a _ => h.IsTupleIter it a i
  | .s z => ∃ u, h.IsStrIter it (strIterType z) z u i
theorem Kd.st_at {it : Addr} {i : Nat} {h h' : Heap} (q : ∀ o, h.get? it = some o → h'.get? it = some o) : ∀ {k : Kd}, k.st it i h → k.st it i h'
  | .l _ _, x => x.at q
  | .t _ _, x => x.at q
  | .s _, ⟨u, o, e, r⟩ => ⟨u, o, q _ e, r⟩
theorem Kd.st_obj {it : Addr} {i : Nat} {h : Heap} : ∀ {k : Kd}, k.st it i h → ∃ o, h.get? it = some o ∧ ∀ v, o.data ≠ .cell v
  | .l _ _, ⟨o, e, _, d⟩ => ⟨o, e, fun v q => by rw [d] at q; cases q⟩
  | .t _ _, ⟨o, e, _, d⟩ => ⟨o, e, fun v q => by rw [d] at q; cases q⟩
  | .s _, ⟨_, o, e, _, d⟩ => ⟨o, e, fun v q => by rw [d] at q; cases q⟩
section
variable {X : Cx} {pins : List (Addr × Obj)} {σ : L2.St} {H : Hp} {s : Shared}
/-- a cell of an iterator is no list or tuple that is read -/
theorem ne_sq {b a : Addr} (I : Inv X pins σ H s) (hb : H b = none) (hx : b ∈ X.ex ∨ X.s_0.heap.objs.size ≤ b) (h : (∃ o, H a = some o) ∨ ∃ o, X.K.lookup a = some o) : b ≠ a := fun e => by
  subst e
  rcases h with ⟨o, h⟩ | ⟨o, h⟩
  · rw [h] at hb; cases hb
  · have q := I.ok.mod.kin _ _ h
    rcases hx with hx | hx
    · exact I.ok.noex _ _ q hx
    · exact absurd (Heap.lt_size (I.ok.bs _ _ q).1) (Nat.not_lt.mpr hx)
theorem sql_where {a : Addr} {xs : List V} (h : SqL X.K H a xs) : (∃ o, H a = some o) ∨ ∃ o, X.K.lookup a = some o := by
  rcases h with (h | ⟨o, h⟩) | ⟨o, its, n, h, _⟩
  · exact .inl ⟨_, h⟩
  · exact .inl ⟨_, h⟩
  · exact .inr ⟨_, h⟩
theorem sqt_where {a : Addr} {xs : List V} (h : SqT X.K H a xs) : (∃ o, H a = some o) ∨ ∃ o, X.K.lookup a = some o := by
  rcases h with (h | ⟨o, h⟩) | ⟨o, its, n, h, _⟩
  · exact .inl ⟨_, h⟩
  · exact .inl ⟨_, h⟩
  · exact .inr ⟨_, h⟩
/-- what the iterator over such a source draws, from here on -/
theorem Kd.draws {A : Around} (I : Inv X pins σ H s) (hh : A.handled = none) {it : Addr} (hn : H it = none) (hx : it ∈ X.ex ∨ X.s_0.heap.objs.size ≤ it) : ∀ {k : Kd} {i : Nat}, k.ok X.K H → k.st it i s.heap →
    ∃ fp P St, Draws X.prog X.w A it fp k.len P St ∧ St i s.heap ∧ (∀ j h, St j h → k.st it j h) ∧ (∀ j u, P j u → ∃ x, k.nth j = some x ∧ RelV x u) ∧ (∀ b, H b = none → (b ∈ X.ex ∨ X.s_0.heap.objs.size ≤ b) → b ≠ it → b ∉ fp) ∧ it ∈ fp
  | .l a xs, i, ok, st => by
    obtain ⟨its, rv, p, hz⟩ := I.list ok
    have hl : (Kd.l a xs).len = its.toArray.size := by rw [List.size_toArray]; exact rv.length
    rw [hl]
    refine ⟨_, _, _, Draws.list hh it a (ne_sq I hn hx (sql_where ok)).symm its.toArray, ⟨st, p.isList⟩, fun j h q => q.1, fun j u q => ?_, fun b hb hbx hne hm => ?_, List.mem_cons_self ..⟩
    · have q' : its[j]? = some u := by simpa using q
      have hj : j < xs.length := by rw [rv.length]; exact (List.getElem?_eq_some_iff.mp q').1
      obtain ⟨u', hu, r⟩ := rv.get (List.getElem?_eq_getElem hj)
      rw [q'] at hu
      cases hu
      exact ⟨_, List.getElem?_eq_getElem hj, r⟩
    · rcases List.mem_cons.mp hm with e | hm
      · exact hne e
      · exact ne_sq I hb hbx (sql_where ok) (List.mem_singleton.mp hm)
  | .t a xs, i, ok, st => by
    obtain ⟨its, rv, p, hz⟩ := I.tuple ok
    have hl : (Kd.t a xs).len = its.toArray.size := by rw [List.size_toArray]; exact rv.length
    rw [hl]
    refine ⟨_, _, _, Draws.tuple hh it a (ne_sq I hn hx (sqt_where ok)).symm its.toArray, ⟨st, p⟩, fun j h q => q.1, fun j u q => ?_, fun b hb hbx hne hm => ?_, List.mem_cons_self ..⟩
    · have q' : its[j]? = some u := by simpa using q
      have hj : j < xs.length := by rw [rv.length]; exact (List.getElem?_eq_some_iff.mp q').1
      obtain ⟨u', hu, r⟩ := rv.get (List.getElem?_eq_getElem hj)
      rw [q'] at hu
      cases hu
      exact ⟨_, List.getElem?_eq_getElem hj, r⟩
    · rcases List.mem_cons.mp hm with e | hm
      · exact hne e
      · exact ne_sq I hb hbx (sqt_where ok) (List.mem_singleton.mp hm)
  | .s z, i, _, ⟨u, st⟩ => by
    refine ⟨_, _, _, Draws.text hh it z u, st, fun j h q => ⟨u, q⟩, fun j v ⟨c, tk, hc, e⟩ => ⟨.str ⟨#[c]⟩, ?_, by subst e; exact ⟨tk, rfl⟩⟩, fun b hb hbx hne hm => hne (List.mem_singleton.mp hm), List.mem_cons_self ..⟩
    show (z.cps[j]?).map _ = _
    rw [hc] <;> rfl
/-- how iter(v) begins -/
theorem Kd.begins (I : Inv X pins σ H s) : ∀ {k : Kd} {u : Value}, k.ok X.K H → RelV k.v u → ∃ o Hh, Begins u o Hh ∧ Hh s.heap ∧ ∀ it h, h.get? it = some o → k.st it 0 h
  | .l a xs, u, ok, r => by
    cases (show u = Value.ref a from r)
    obtain ⟨its, rv, p, hz⟩ := I.list ok
    exact ⟨_, _, begins_list a its.toArray, p.isList, fun it h e => ⟨_, e, rfl, rfl⟩⟩
  | .t a xs, u, ok, r => by
    cases (show u = Value.ref a from r)
    obtain ⟨its, rv, p, hz⟩ := I.tuple ok
    exact ⟨_, _, begins_tuple a its.toArray, p, fun it h e => ⟨_, e, rfl, rfl⟩⟩
  | .s z, u, ok, r => by
    obtain ⟨t, rfl⟩ := r
    exact ⟨_, _, begins_text z t, True.intro, fun it h e => ⟨t, _, e, rfl, rfl⟩⟩
end

/-! ### enumerate -/
def ItE (K : PySem.W.Frag) (k : Kd) : It := ⟨fun i H => k.ok K H ∧ i < k.len, fun i H v H' => ∃ T x, v = .ref T ∧ H T = none ∧ H' = upd H T (.tup [.int (i : Nat), x]) ∧ k.nth i = some x, fun i H => k.ok K H ∧ i = k.len⟩
theorem turnE {P : Program} {w : World} {K : PySem.W.Frag} {elts : List Expr} {kk : Nat} {tpos : Pos} (k : Kd) (e it : Addr) :
    Turn P w K (.Tuple elts kk tpos) (ItE K k) [e, it] e (fun i h => (∃ old, IsEnum h e it ((i : Nat) : Int) old) ∧ k.st it i h ∧ e ≠ it) where
  mem := List.mem_cons_self ..
  obj := fun i h st b hb => by
    obtain ⟨⟨old, he⟩, hi, _⟩ := st
    have e' : b = e ∨ b = it := by simpa using hb
    rcases e' with z | z
    · subst z; exact ⟨_, he, fun v q => nomatch q⟩
    · subst z; exact Kd.st_obj hi
  keep := fun i h h' st q => let ⟨⟨old, he⟩, hi, hne⟩ := st; ⟨⟨old, q e (by simp) _ he⟩, Kd.st_at (fun o z => q it (by simp) o z) hi, hne⟩
  item := by
    intro X hP hw hK hc i pins s σ H E I hf st hg
    subst hP hw hK
    obtain ⟨⟨old, he⟩, hi, hne⟩ := st
    obtain ⟨ok, hlt⟩ := hg
    obtain ⟨n1, _, _, x1, _⟩ := hf it (by simp)
    obtain ⟨n0, _, _, x0, _⟩ := hf e (by simp)
    obtain ⟨fp, Pv, St, D, st0, hst, hP, hfp, hmem⟩ := Kd.draws (A := X.A.in1) I (I.ok.hd hc) n1 x1 ok hi
    have hel : e < s.heap.objs.size := Heap.lt_size he
    refine wpAny_pyNext_enum_itemC D he st0 hlt hne (hfp e n0 x0 hne) fun u h' tk hu ho hs' hT hsz hk => ?_
    obtain ⟨x, hx, ru⟩ := hP i u hu
    refine ⟨_, rfl, wpAny_letOwnedTupleGo_enum (s := { s with heap := h', toks := tk + 1 }) ho fun h'' he' sb => ?_⟩
    have hT2 : h''.get? s.heap.objs.size = some { cls := .type "tuple", data := .seq #[.int i tk, u] } := (sb.2 _ (Nat.ne_of_gt hel)).trans hT
    have new : ObjOk X.prog X.w (upd H s.heap.objs.size (.tup [.int (i : Nat), x])) h'' s.heap.objs.size (.tup [.int (i : Nat), x]) :=
      ⟨by show 2 ≤ sizeLine; decide, [.int i tk, u], .cons ⟨_, rfl⟩ (.cons ru .nil), ⟨_, hT2, rfl, _, rfl⟩⟩
    have J : Inv X pins σ (upd H s.heap.objs.size (.tup [.int (i : Nat), x])) { s with heap := h'', toks := tk + 1 } :=
      I.turnedNew (ch := [e, it]) (fun b ob hb q => (sb.2 b (fun z => hb (by simp [z]))).trans (hk b ob (fun z => hb (by simp [z])) (fun z => hb (by simp [z])) q)) hf (Nat.le_refl _) new
    refine ⟨.ref s.heap.objs.size, _, J, rfl, ⟨_, x, rfl, I.hok.fresh (Nat.le_refl _), rfl, hx⟩, ⟨⟨u, ?_⟩, Kd.st_at (fun o z => (sb.2 it hne.symm).trans z) (hst _ _ hs'), hne⟩, fun b hb => ?_⟩
    · have e1 : ((i + 1 : Nat) : Int) = (i : Int) + 1 := by omega
      rw [e1]; exact he'
    · have hb' : b < s.heap.objs.size := by
        have e' : b = e ∨ b = it := by simpa using hb
        rcases e' with z | z
        · subst z; exact hel
        · subst z; obtain ⟨o, q, _⟩ := Kd.st_obj hi; exact Heap.lt_size q
      rw [upd_ne (Nat.ne_of_lt hb')]
      exact (hf b hb).1
  done := by
    intro X hP hw hK hc i pins s σ H E I hf st hg
    subst hP hw hK
    obtain ⟨⟨old, he⟩, hi, hne⟩ := st
    obtain ⟨ok, rfl⟩ := hg
    obtain ⟨n1, f1, f2, x1, f4, f5⟩ := hf it (by simp)
    obtain ⟨fp, Pv, St, D, st0, hst, hP, hfp, hmem⟩ := Kd.draws (A := X.A.in1) I (I.ok.hd hc) n1 x1 ok hi
    exact wpAny_pyNext_enum_endD D he st0 fun h' eb => ⟨rfl, I.turned (t' := s.toks) (fun b o hb q => eb b o hb q) n1 f1 x1 f4 f5⟩
  self := fun A i s Q E st h => let ⟨⟨_, he⟩, _⟩ := st; wpAny_pyIter_enum he h
set_option maxHeartbeats 1000000 in
theorem meetsE {v : Value} {o : Obj} {Hh : Heap → Prop} (B : Begins v o Hh) :
    Meets (Builtin.«enumerate.__new__» ⟨[.type "enumerate", v], []⟩) (fun _ R s => Hh s.heap ∧
      R (.ok (.ret (.ref (s.heap.push o).objs.size))) { s with heap := (s.heap.push o).push { cls := .type "enumerate", data := .fields #[.none, .bool false, .ref s.heap.objs.size, rawInt 0, .none, .none] } }) :=
  .of_wp fun prog w A R s h => by
    obtain ⟨hp, g, d, tk, os⟩ := s
    obtain ⟨h1, h⟩ := h
    have hsub := sub_enumerate
    have q1 : ∀ {A' : Around} {E : Value → Shared → Prop} {Q : Value → Shared → Prop}, Q (.ref hp.objs.size) ⟨hp.push o, g, d, tk, os⟩ → wpAny (model prog w) A' (pyIter v) Q E ⟨hp, g, d, tk, os⟩ :=
      fun q => B.iter prog w _ _ ⟨hp, g, d, tk, os⟩ _ h1 q
    wp_walk using q1
    refine wpAny_stack_any fun st => wpAny_pure ?_
    split
    · rename_i c _ _ _ _ _
      cases (c == Value.type "enumerate")
      · wp_walk using q1
        exact ⟨_, rfl, h⟩
      · wp_walk using q1
        exact ⟨_, rfl, h⟩
    · wp_walk using q1
      exact ⟨_, rfl, h⟩
theorem beginsE {prog : Program} {w : World} {A : Around} {E : Value → Shared → Prop} {s : Shared} {v : Value} {o : Obj} {Hh : Heap → Prop} {Q : Value → Shared → Prop} (B : Begins v o Hh) (h1 : Hh s.heap)
    (h : ∀ h', IsEnum h' (s.heap.objs.size + 1) s.heap.objs.size 0 .none → h'.get? s.heap.objs.size = some o → (∀ b u, s.heap.get? b = some u → h'.get? b = some u) → Q (.ref (s.heap.objs.size + 1)) { s with heap := h' }) :
    wpAny (model prog w) A (call (.type "enumerate") [v]) Q E s := by
  refine callType_new F.called_enumerate (by decide) (F.typeCall_enumerate_1 _) (F.newCall_enumerate_1 _) (fun obj => F.args_object_init_2 obj _) F.entry_enumerate_new (meetsE B) ⟨h1, ?_⟩
  have hz : (s.heap.push o).objs.size = s.heap.objs.size + 1 := Heap.size_push ..
  show _ ∧ _
  rw [hz]
  have he : IsEnum ((s.heap.push o).push { cls := .type "enumerate", data := .fields #[.none, .bool false, .ref s.heap.objs.size, rawInt 0, .none, .none] }) (s.heap.objs.size + 1) s.heap.objs.size 0 .none := by
    have q := Heap.get?_push_size (s.heap.push o) (o := { cls := .type "enumerate", data := .fields #[.none, .bool false, .ref s.heap.objs.size, rawInt 0, .none, .none] }) rfl
    rw [hz] at q
    exact q
  exact ⟨⟨_, he, rfl⟩, h _ he (Heap.get?_push_of_some _ (Heap.get?_push_size _ B.free)) fun b u x => Heap.get?_push_of_some _ (Heap.get?_push_of_some _ x)⟩
/-- one argument, as a source -/
def iE (K : PySem.W.Frag) (ta : TA) : TI := fun σ H R => ta σ H fun vs H1 => ∃ k : Kd, vs = [k.v] ∧ k.ok K H1 ∧ R (ItE K k) H1
theorem piE {X : Cx} {e : Expr} {ta : TA} {p pos tpos : Pos} {elts : List Expr} {kk : Nat} (hg : Gl X "enumerate") (hm : X.mg "enumerate" = none) (ha : PA X [e] ta) (hs : starEach [e] X.env = [(false, eval e X.env)] := by rfl) :
    PI X (.Tuple elts kk tpos) (.Call (.Name "enumerate" p) [e] [] pos) (iE X.K ta) := by
  refine ⟨fun pins s σ H R I h => ?_⟩
  refine Call_ (ld_blt I hg hm boot_enumerate (callWith_type1 (thn (ha.run pos pins s σ H _ I h) fun us s1 ⟨vs, H1, I1, r1, k, ex, ok, q⟩ => ?_) hs rfl))
  subst ex
  cases r1 with
  | cons r rr =>
    cases rr
    obtain ⟨o, Hh, B, h1, hst⟩ := Kd.begins I1 ok r
    refine beginsE B h1 fun h' he hit hk => wpAny_pyIter_enum he ?_
    have I2 : Inv X pins σ H1 { s1 with heap := h' } := I1.kept (t' := s1.toks) hk
    refine ⟨s1.heap.objs.size + 1, [s1.heap.objs.size + 1, s1.heap.objs.size], _, _, H1, rfl, I2, turnE k (s1.heap.objs.size + 1) s1.heap.objs.size, ⟨⟨.none, he⟩, hst _ _ hit, Nat.succ_ne_self _⟩, fun b hb => ?_, q⟩
    have e' : b = s1.heap.objs.size + 1 ∨ b = s1.heap.objs.size := by simpa using hb
    have hle : s1.heap.objs.size ≤ b := by
      rcases e' with z | z
      · rw [z]; exact Nat.le_add_right _ _
      · rw [z]; exact Nat.le_refl _
    exact I1.fpOk hle (I1.hok.fresh hle)

/-! ### zip -/
def ItZ (K : PySem.W.Frag) (k j : Kd) : It := ⟨fun i H => (k.ok K H ∧ j.ok K H) ∧ i < min k.len j.len, fun i H v H' => ∃ T x y, v = .ref T ∧ H T = none ∧ H' = upd H T (.tup [x, y]) ∧ k.nth i = some x ∧ j.nth i = some y, fun i H => (k.ok K H ∧ j.ok K H) ∧ i = min k.len j.len⟩
structure Ap (z TI TO i1 i2 : Addr) : Prop where
  zT : z ≠ TI
  zO : z ≠ TO
  z1 : z ≠ i1
  z2 : z ≠ i2
  TO_ : TI ≠ TO
  T1 : TI ≠ i1
  T2 : TI ≠ i2
  O1 : TO ≠ i1
  O2 : TO ≠ i2
  ne : i1 ≠ i2
theorem turnZ {P : Program} {w : World} {K : PySem.W.Frag} {elts : List Expr} {kk : Nat} {tpos : Pos} (k j : Kd) {z TI TO i1 i2 : Addr} (S : Ap z TI TO i1 i2) :
    Turn P w K (.Tuple elts kk tpos) (ItZ K k j) [z, TI, TO, i1, i2] z (fun i h => IsZip h z TI TO .none ∧ IsTupOf2 h TI (.ref i1) (.ref i2) ∧ (∃ x y, IsTupOf2 h TO x y) ∧ k.st i1 i h ∧ j.st i2 i h) where
  mem := List.mem_cons_self ..
  obj := fun i h st c hc => by
    obtain ⟨hz, hTI, ⟨x, y, hTO⟩, h1, h2⟩ := st
    have e' : c = z ∨ c = TI ∨ c = TO ∨ c = i1 ∨ c = i2 := by simpa using hc
    rcases e' with q | q | q | q | q
    · subst q; exact ⟨_, hz, fun v q => nomatch q⟩
    · subst q; exact ⟨_, hTI, fun v q => nomatch q⟩
    · subst q; exact ⟨_, hTO, fun v q => nomatch q⟩
    · subst q; exact Kd.st_obj h1
    · subst q; exact Kd.st_obj h2
  keep := fun i h h' st q => by
    obtain ⟨hz, hTI, ⟨x, y, hTO⟩, h1, h2⟩ := st
    exact ⟨q z (by simp) _ hz, q TI (by simp) _ hTI, ⟨x, y, q TO (by simp) _ hTO⟩, Kd.st_at (fun o z => q i1 (by simp) o z) h1, Kd.st_at (fun o z => q i2 (by simp) o z) h2⟩
  item := by
    intro X hP hw hK hc i pins s σ H E I hf st hg
    subst hP hw hK
    obtain ⟨hz, hTI, ⟨x0, y0, hTO⟩, h1, h2⟩ := st
    obtain ⟨⟨ok1, ok2⟩, hlt⟩ := hg
    obtain ⟨n1, _, _, x1, _⟩ := hf i1 (by simp)
    obtain ⟨n2, _, _, x2, _⟩ := hf i2 (by simp)
    obtain ⟨nz, _, _, xz, _⟩ := hf z (by simp)
    obtain ⟨nO, _, _, xO, _⟩ := hf TO (by simp)
    obtain ⟨fp1, P1, St1, D1, s1, hs1, hP1, hf1, m1⟩ := Kd.draws (A := X.A.in1) I (I.ok.hd hc) n1 x1 ok1 h1
    obtain ⟨fp2, P2, St2, D2, s2, hs2, hP2, hf2, m2⟩ := Kd.draws (A := X.A.in1) I (I.ok.hd hc) n2 x2 ok2 h2
    have S2 : ZipSep2 z TI TO i1 i2 fp1 fp2 := ⟨S.zT.symm, S.zO.symm, S.TO_, S.T1, m1, hf1 z nz xz S.z1, hf1 TO nO xO S.O1, S.T2, m2, hf2 z nz xz S.z2, hf2 TO nO xO S.O2, hf2 i1 n1 x1 S.ne, hf1 i2 n2 x2 S.ne.symm⟩
    have hzl : z < s.heap.objs.size := Heap.lt_size hz
    refine wpAny_pyNext_zipD2_item S2 D1 D2 hz hTI hTO s1 s2 (by omega) (by omega) fun u1 u2 h' tk y1 y2 z' TO' t1 t2 hT hsz hk => ?_
    obtain ⟨x, hx, ru⟩ := hP1 i u1 y1
    obtain ⟨y, hy, rv⟩ := hP2 i u2 y2
    refine ⟨_, rfl, wpAny_letOwnedTupleGo_zip (s := { s with heap := h', toks := tk }) z' fun h'' z'' sb => ?_⟩
    have hT2 : h''.get? s.heap.objs.size = some { cls := .type "tuple", data := .seq #[u1, u2] } := (sb.2 _ (Nat.ne_of_gt hzl)).trans hT
    have new : ObjOk X.prog X.w (upd H s.heap.objs.size (.tup [x, y])) h'' s.heap.objs.size (.tup [x, y]) :=
      ⟨by show 2 ≤ sizeLine; decide, [u1, u2], .cons ru (.cons rv .nil), ⟨_, hT2, rfl, _, rfl⟩⟩
    have J : Inv X pins σ (upd H s.heap.objs.size (.tup [x, y])) { s with heap := h'', toks := tk } :=
      I.turnedNew (ch := [z, TI, TO, i1, i2]) (fun c o hb q => (sb.2 c (fun q' => hb (by simp [q']))).trans (hk c o (fun q' => hb (by simp [q'])) (fun q' => hb (by simp [q'])) (fun q' => hb (by simp [q'])) (fun q' => hb (by simp [q'])) q)) hf (Nat.le_refl _) new
    refine ⟨.ref s.heap.objs.size, _, J, rfl, ⟨_, x, y, rfl, I.hok.fresh (Nat.le_refl _), rfl, hx, hy⟩, ⟨z'', ?_, ⟨u1, u2, ?_⟩, ?_, ?_⟩, fun c hcm => ?_⟩
    · exact (sb.2 _ S.zT.symm).trans (hk _ _ S.zT.symm S.TO_ S.T1 S.T2 hTI)
    · exact (sb.2 _ S.zO.symm).trans TO'
    · exact Kd.st_at (fun o q => (sb.2 _ S.z1.symm).trans q) (hs1 _ _ t1)
    · exact Kd.st_at (fun o q => (sb.2 _ S.z2.symm).trans q) (hs2 _ _ t2)
    · have hlt : c < s.heap.objs.size := by
        have e' : c = z ∨ c = TI ∨ c = TO ∨ c = i1 ∨ c = i2 := by simpa using hcm
        rcases e' with q | q | q | q | q
        · subst q; exact hzl
        · subst q; exact Heap.lt_size hTI
        · subst q; exact Heap.lt_size hTO
        · subst q; obtain ⟨_, e1, _⟩ := Kd.st_obj h1; exact Heap.lt_size e1
        · subst q; obtain ⟨_, e2, _⟩ := Kd.st_obj h2; exact Heap.lt_size e2
      rw [upd_ne (Nat.ne_of_lt hlt)]
      exact (hf c hcm).1
  done := by
    intro X hP hw hK hc i pins s σ H E I hf st hg
    subst hP hw hK
    obtain ⟨hz, hTI, ⟨x0, y0, hTO⟩, h1, h2⟩ := st
    obtain ⟨⟨ok1, ok2⟩, hlt⟩ := hg
    obtain ⟨n1, _, _, x1, _⟩ := hf i1 (by simp)
    obtain ⟨n2, _, _, x2, _⟩ := hf i2 (by simp)
    obtain ⟨nz, _, _, xz, _⟩ := hf z (by simp)
    obtain ⟨nO, _, _, xO, _⟩ := hf TO (by simp)
    obtain ⟨fp1, P1, St1, D1, s1, hs1, hP1, hf1, m1⟩ := Kd.draws (A := X.A.in1) I (I.ok.hd hc) n1 x1 ok1 h1
    obtain ⟨fp2, P2, St2, D2, s2, hs2, hP2, hf2, m2⟩ := Kd.draws (A := X.A.in1) I (I.ok.hd hc) n2 x2 ok2 h2
    have S2 : ZipSep2 z TI TO i1 i2 fp1 fp2 := ⟨S.zT.symm, S.zO.symm, S.TO_, S.T1, m1, hf1 z nz xz S.z1, hf1 TO nO xO S.O1, S.T2, m2, hf2 z nz xz S.z2, hf2 TO nO xO S.O2, hf2 i1 n1 x1 S.ne, hf1 i2 n2 x2 S.ne.symm⟩
    exact wpAny_pyNext_zipD2_end S2 D1 D2 hz hTI hTO s1 s2 (by omega) (by omega) (by omega) fun h' tk hk => ⟨rfl, I.turnedL (t' := tk) (ch := [z, TI, TO, i1, i2]) (fun c o hb q =>
      hk c o (fun q' => hb (by simp [q'])) (fun q' => hb (by simp [q'])) (fun q' => hb (by simp [q'])) (fun q' => hb (by simp [q'])) q) hf⟩
  self := fun A i s Q E st h => wpAny_pyIter_zip st.1 h
def iZ (K : PySem.W.Frag) (ta : TA) : TI := fun σ H R => ta σ H fun vs H1 => ∃ k j : Kd, vs = [k.v, j.v] ∧ k.ok K H1 ∧ j.ok K H1 ∧ R (ItZ K k j) H1
theorem piZ {X : Cx} {e e2 : Expr} {ta : TA} {p pos tpos : Pos} {elts : List Expr} {kk : Nat} (hg : Gl X "zip") (hm : X.mg "zip" = none) (ha : PA X [e, e2] ta)
    (hs : starEach [e, e2] X.env = (false, eval e X.env) :: starEach [e2] X.env := by rfl) (hpl : (backTo pos (starEach [e2] X.env)).any (·.1) = false := by rfl) :
    PI X (.Tuple elts kk tpos) (.Call (.Name "zip" p) [e, e2] [] pos) (iZ X.K ta) := by
  refine ⟨fun pins s σ H R I h => ?_⟩
  refine Call_ (ld_blt I hg hm boot_zip (callWith_type1 (thn (ha.run pos pins s σ H _ I h) fun us s1 ⟨vs, H1, I1, r1, k, j, ex, ok1, ok2, q⟩ => ?_) hs hpl))
  subst ex
  cases r1 with
  | cons r rr =>
    cases rr with
    | cons r' rr =>
      cases rr
      obtain ⟨o1, Hh1, B1, b1, hst1⟩ := Kd.begins I1 ok1 r
      obtain ⟨o2, Hh2, B2, b2, hst2⟩ := Kd.begins I1 ok2 r'
      refine zip_begins2 B1 B2 b1 b2 fun h' hz hTI hTO h1 h2 hsz hk => wpAny_pyIter_zip hz ?_
      have I2 : Inv X pins σ H1 { s1 with heap := h' } := I1.kept (t' := s1.toks) hk
      have ap : Ap (s1.heap.objs.size + 4) (s1.heap.objs.size + 2) (s1.heap.objs.size + 3) s1.heap.objs.size (s1.heap.objs.size + 1) := by
        generalize s1.heap.objs.size = n
        exact ⟨show (n + 4 : Nat) ≠ n + 2 by omega, show (n + 4 : Nat) ≠ n + 3 by omega, show (n + 4 : Nat) ≠ n by omega, show (n + 4 : Nat) ≠ n + 1 by omega, show (n + 2 : Nat) ≠ n + 3 by omega,
          show (n + 2 : Nat) ≠ n by omega, show (n + 2 : Nat) ≠ n + 1 by omega, show (n + 3 : Nat) ≠ n by omega, show (n + 3 : Nat) ≠ n + 1 by omega, show (n : Nat) ≠ n + 1 by omega⟩
      refine ⟨s1.heap.objs.size + 4, [s1.heap.objs.size + 4, s1.heap.objs.size + 2, s1.heap.objs.size + 3, s1.heap.objs.size, s1.heap.objs.size + 1], _, _, H1, rfl, I2, turnZ k j ap, ⟨hz, hTI, ⟨_, _, hTO⟩, hst1 _ _ h1, hst2 _ _ h2⟩, fun c hcm => ?_, q⟩
      have e' : c = s1.heap.objs.size + 4 ∨ c = s1.heap.objs.size + 2 ∨ c = s1.heap.objs.size + 3 ∨ c = s1.heap.objs.size ∨ c = s1.heap.objs.size + 1 := by simpa using hcm
      have hle : s1.heap.objs.size ≤ c := by
        rcases e' with z | z | z | z | z
        · rw [z]; exact Nat.le_add_right _ _
        · rw [z]; exact Nat.le_add_right _ _
        · rw [z]; exact Nat.le_add_right _ _
        · rw [z]; exact Nat.le_refl _
        · rw [z]; exact Nat.le_add_right _ _
      exact I1.fpOk hle (I1.hok.fresh hle)
end Py
/-! Layer, part I: operators for every kind; built-in functions. -/
namespace Py
open PySem L2 PyProof.Rows

theorem opOr {X : Cx} {f : Value → Value → Sem Value} {r r' : R2} (a : OpR X f r) (b : OpR X f r') : OpR X f (fun x y H Q => r x y H Q ∨ r' x y H Q) := fun pins s σ H x y v u Q I rx ry h => h.elim (a pins s σ H x y v u Q I rx ry) (b pins s σ H x y v u Q I rx ry)
theorem ixOr {X : Cx} {r r' : R2} (a : IxR X r) (b : IxR X r') : IxR X (fun x y H Q => r x y H Q ∨ r' x y H Q) := fun value slice pins s σ H x y v u Q I rx ry h hs => h.elim (fun z => a value slice pins s σ H x y v u Q I rx ry z hs) (fun z => b value slice pins s σ H x y v u Q I rx ry z hs)
def orB (g g' : B → B → Option B) : B → B → Option B := fun a b => match g a b with
  | some z => some z
  | none => g' a b
section
variable {X : Cx} {W : Wd} {n : Nat} {a b c e : Expr} {es : List Expr} {ma mb mc : Me} {pos p p2 : Pos}

/-! ### + and orders -/
def addA : B → B → Option B := orB addI (orB addStr (orB addTup addLst))
theorem lkAdd (C : Cok W n X) (ha : PE X a (tX W ma)) (hb : PE X b (tX W mb)) : PE X (.BinOp a .Add b pos) (tX W (s2 addA ma mb)) :=
  lkBin (opOr op_add (opOr op_add_str (opOr op_catA op_cat))) (Op2.or (op2_I0 fun _ _ _ => .int _) (Op2.or op2_addStr (Op2.or (by rw [C.k]; exact op2_addTup) op2_addLst))) ha hb
def ssB (g : PySem.Str → PySem.Str → D) (a b : B) : Option B := match a, b with
  | .f (.str i), .f (.str j) => some (.f (g i j))
  | _, _ => none
theorem op2_S {g : PySem.Str → PySem.Str → D} {gv : PySem.Str → PySem.Str → V} (h : ∀ i j F, Rep W F (gv i j) (g i j)) : Op2 W (fun x y H Q => ∃ i j, x = .str i ∧ y = .str j ∧ Q (gv i j) H) (ssB g) := fun F H δ x y b1 b2 b e dr r1 r2 hg H₀ Q k => by
  unfold ssB at hg
  split at hg
  · cases hg
    cases r1
    cases r2
    exact ⟨_, _, rfl, rfl, fin e dr (h _ _ F) k⟩
  · cases hg
def ltA : B → B → Option B := orB ltI (ssB fun i j => .bl (decide (i.cps.toList < j.cps.toList)))
def leA : B → B → Option B := orB leI (ssB fun i j => .bl (!decide (j.cps.toList < i.cps.toList)))
def gtA : B → B → Option B := orB gtI (ssB fun i j => .bl (decide (j.cps.toList < i.cps.toList)))
def geA : B → B → Option B := orB geI (ssB fun i j => .bl (!decide (i.cps.toList < j.cps.toList)))
theorem lkLt (ha : PE X a (tX W ma)) (hb : PE X b (tX W mb)) : PE X (.Compare a [.Lt] [b] pos) (tX W (s2 ltA ma mb)) := lkCmp (opOr op_lt op_lt_str) (Op2.or (op2_I0 fun _ _ _ => .bl _) (op2_S fun _ _ _ => .bl _)) ha hb (nomark _)
theorem lkLe (ha : PE X a (tX W ma)) (hb : PE X b (tX W mb)) : PE X (.Compare a [.LtE] [b] pos) (tX W (s2 leA ma mb)) := lkCmp (opOr op_le op_le_str) (Op2.or (op2_I0 fun _ _ _ => .bl _) (op2_S fun _ _ _ => .bl _)) ha hb (nomark _)
theorem lkGt (ha : PE X a (tX W ma)) (hb : PE X b (tX W mb)) : PE X (.Compare a [.Gt] [b] pos) (tX W (s2 gtA ma mb)) := lkCmp (opOr op_gt op_gt_str) (Op2.or (op2_I0 fun _ _ _ => .bl _) (op2_S fun _ _ _ => .bl _)) ha hb (nomark _)
theorem lkGe (ha : PE X a (tX W ma)) (hb : PE X b (tX W mb)) : PE X (.Compare a [.GtE] [b] pos) (tX W (s2 geA ma mb)) := lkCmp (opOr op_ge op_ge_str) (Op2.or (op2_I0 fun _ _ _ => .bl _) (op2_S fun _ _ _ => .bl _)) ha hb (nomark _)
theorem lkTLt (ha : PE X a (tX W ma)) (hb : PE X b (tX W mb)) : PT X (.Compare a [.Lt] [b] pos) (tXT W (sTest (s2 ltA ma mb))) := lkTCmp (opOr op_lt op_lt_str) (Op2.or (op2_I0 fun _ _ _ => .bl _) (op2_S fun _ _ _ => .bl _)) ha hb (nomark _)
theorem lkTLe (ha : PE X a (tX W ma)) (hb : PE X b (tX W mb)) : PT X (.Compare a [.LtE] [b] pos) (tXT W (sTest (s2 leA ma mb))) := lkTCmp (opOr op_le op_le_str) (Op2.or (op2_I0 fun _ _ _ => .bl _) (op2_S fun _ _ _ => .bl _)) ha hb (nomark _)
theorem lkTGt (ha : PE X a (tX W ma)) (hb : PE X b (tX W mb)) : PT X (.Compare a [.Gt] [b] pos) (tXT W (sTest (s2 gtA ma mb))) := lkTCmp (opOr op_gt op_gt_str) (Op2.or (op2_I0 fun _ _ _ => .bl _) (op2_S fun _ _ _ => .bl _)) ha hb (nomark _)
theorem lkTGe (ha : PE X a (tX W ma)) (hb : PE X b (tX W mb)) : PT X (.Compare a [.GtE] [b] pos) (tXT W (sTest (s2 geA ma mb))) := lkTCmp (opOr op_ge op_ge_str) (Op2.or (op2_I0 fun _ _ _ => .bl _) (op2_S fun _ _ _ => .bl _)) ha hb (nomark _)

/-! ### in -/
def inS (neg : Bool) (a b : B) : Option B := match a, b with
  | .f (.str i), .f (.str j) => if i.cps.size = 1 then some (.f (.bl (decide (i.cps[0]! ∈ j.cps.toList) != neg))) else none
  | _, _ => none
theorem one_sign {i : PySem.Str} (h : i.cps.size = 1) : i = ⟨#[i.cps[0]!]⟩ := by
  obtain ⟨⟨l⟩⟩ := i
  match l, h with
  | [c], _ => rfl
theorem op2_inS : Op2 W (fun x y H Q => ∃ (c : Nat) (z : PySem.Str), x = .str ⟨#[c]⟩ ∧ y = .str z ∧ Q (.bl (decide (c ∈ z.cps.toList))) H) (inS false) := fun F H δ x y b1 b2 b e dr r1 r2 hg H₀ Q k => by
  unfold inS at hg
  split at hg
  · split at hg
    · next h =>
      cases hg
      cases r1
      cases r2
      rw [Bool.bne_false] at k
      exact ⟨_, _, congrArg V.str (one_sign h), rfl, fin e dr (.bl _) k⟩
    · cases hg
  · cases hg
theorem op2_ninS : Op2 W (fun x y H Q => ∃ (c : Nat) (z : PySem.Str), x = .str ⟨#[c]⟩ ∧ y = .str z ∧ Q (.bl (!decide (c ∈ z.cps.toList))) H) (inS true) := fun F H δ x y b1 b2 b e dr r1 r2 hg H₀ Q k => by
  unfold inS at hg
  split at hg
  · split at hg
    · next h =>
      cases hg
      cases r1
      cases r2
      rw [Bool.bne_true] at k
      exact ⟨_, _, congrArg V.str (one_sign h), rfl, fin e dr (.bl _) k⟩
    · cases hg
  · cases hg
/-- data in a list -/
def inL (neg : Bool) (a b : B) : Option B := (toPy a.d).bind fun x => (listOf b).bind fun ds => (toPys ds).bind fun ys => if SeqAt.shaped x && SeqAt.shaped (.list ys) then some (.f (.bl ((ys.any fun z => PyData.eqv z x) != neg))) else none
theorem op2_inL : Op2 W (rInD W.K) (inL false) := fun F H δ x y b1 b2 b e dr r1 r2 hg H₀ Q k => by
  obtain ⟨p, h1, hg⟩ := Option.bind_eq_some_iff.mp hg
  obtain ⟨ds, h2, hg⟩ := Option.bind_eq_some_iff.mp hg
  obtain ⟨ys, h3, hg⟩ := Option.bind_eq_some_iff.mp hg
  split at hg
  · next hs =>
    cases hg
    obtain ⟨s1, s2⟩ := ba hs
    obtain ⟨a1, vs, rfl, q1, rs⟩ := r2.lst e h2
    rw [Bool.bne_false] at k
    exact ⟨p, ys, (r1.rep e).dp h1, .lst (.inl (.inl q1)) ((rs.ext e).dp h3), s1, s2, fin e dr (.bl _) k⟩
  · cases hg
theorem op2_ninL : Op2 W (rNotInD W.K) (inL true) := fun F H δ x y b1 b2 b e dr r1 r2 hg H₀ Q k => by
  obtain ⟨p, h1, hg⟩ := Option.bind_eq_some_iff.mp hg
  obtain ⟨ds, h2, hg⟩ := Option.bind_eq_some_iff.mp hg
  obtain ⟨ys, h3, hg⟩ := Option.bind_eq_some_iff.mp hg
  split at hg
  · next hs =>
    cases hg
    obtain ⟨s1, s2⟩ := ba hs
    obtain ⟨a1, vs, rfl, q1, rs⟩ := r2.lst e h2
    rw [Bool.bne_true] at k
    exact ⟨p, ys, (r1.rep e).dp h1, .lst (.inl (.inl q1)) ((rs.ext e).dp h3), s1, s2, fin e dr (.bl _) k⟩
  · cases hg
/-! .. keys in a dict -/
def toKey : D → Option Key
  | .int i => some (.inl i)
  | .str s => some (.inr s)
  | _ => none
def toKeys : List D → Option (List Key)
  | [] => some []
  | d :: ds => (toKey d).bind fun k => (toKeys ds).bind fun ks => some (k :: ks)
/-- a key of such a dict: t: tuples -/
def toKK (t : Bool) : D → Option (List Key)
  | .tup ds => if t then toKeys ds else none
  | d => if t then none else (toKey d).bind fun k => some [k]
def dGet (t : Bool) (kvs : List (D × D)) (k : List Key) : Option D := (kvs.find? fun p => decide (toKK t p.1 = some k)).map (·.2)
theorem toKey_D : ∀ k : Key, toKey (keyD k) = some k
  | .inl _ => rfl
  | .inr _ => rfl
theorem toKeys_D : ∀ ks : List Key, toKeys (ks.map keyD) = some ks
  | [] => rfl
  | k :: ks => by
    show (toKey (keyD k)).bind _ = _
    rw [toKey_D]
    show (toKeys (ks.map keyD)).bind _ = _
    rw [toKeys_D ks]
    rfl
theorem toKK_k (k : Key) : toKK false (keyD k) = some [k] := by
  cases k <;> rfl
theorem toKK_t (ks : List Key) : toKK true (.tup (ks.map keyD)) = some ks := toKeys_D ks
theorem toKey_rep {F : Hp} {v : V} : ∀ {d : D} {k : Key}, Rep W F v d → toKey d = some k → v = kV k
  | .int i, _, r, h => by cases h; cases r; rfl
  | .str s, _, r, h => by cases h; cases r; rfl
theorem toKeys_rep {F : Hp} : ∀ {vs : List V} {ds : List D} {ks : List Key}, Reps W F vs ds → toKeys ds = some ks → vs = ks.map kV
  | _, _, _, .nil, h => by cases h; rfl
  | _, d :: ds, _, .cons r rs, h => by
    obtain ⟨k, h1, h⟩ := Option.bind_eq_some_iff.mp (show (toKey d).bind _ = _ from h)
    obtain ⟨ks, h2, h⟩ := Option.bind_eq_some_iff.mp h
    cases h
    rw [toKey_rep r h1, toKeys_rep rs h2]
    rfl
def dctOf : B → Option (Bool × List (D × D))
  | .f (.dct t kvs) => some (t, kvs)
  | .o (.dct t kvs) => some (t, kvs)
  | .w (.dct t kvs) => some (t, kvs)
  | _ => none
def DctAt (W : Wd) (F H : Hp) (a : Addr) : Bool → List (D × D) → Prop
  | false, kvs => ∃ ks, H a = some (.dK ks) ∧ (kvs.map (·.1)) = (ks.map fun p => keyD p.1) ∧ Reps W F (ks.map (·.2)) (kvs.map (·.2))
  | true, kvs => ∃ ks, H a = some (.dT ks) ∧ (kvs.map (·.1)) = (ks.map fun p => D.tup (p.1.map keyD)) ∧ Reps W F (ks.map (·.2)) (kvs.map (·.2))
theorem zip_fst {α β γ : Type} {l : List α} {ds : List β} {vs : List γ} (h : vs.length = ds.length) (h2 : vs.length = l.length) : (l.zip ds).map (·.1) = l ∧ (l.zip ds).map (·.2) = ds := by
  constructor
  · exact List.map_fst_zip (by omega)
  · exact List.map_snd_zip (by omega)
theorem Rv.dct {F H : Hp} {v : V} (e : Ext F H) {b : B} {t : Bool} {kvs : List (D × D)} (r : Rv W F H v b) (h : dctOf b = some (t, kvs)) : ∃ a, v = .ref a ∧ DctAt W F H a t kvs := by
  unfold dctOf at h
  split at h
  · cases h
    have rr : Rep W F v _ := r
    cases rr with
    | @dK _ ks _ q r5 =>
      obtain ⟨z1, z2⟩ := zip_fst (l := ks.map fun p => keyD p.1) r5.length (by rw [List.length_map, List.length_map])
      exact ⟨_, rfl, _, e _ _ q, z1, by rw [z2]; exact r5⟩
    | @dT _ ks _ q r5 =>
      obtain ⟨z1, z2⟩ := zip_fst (l := ks.map fun p => D.tup (p.1.map keyD)) r5.length (by rw [List.length_map, List.length_map])
      exact ⟨_, rfl, _, e _ _ q, z1, by rw [z2]; exact r5⟩
  · cases h
    obtain ⟨a, z, q⟩ := r
    refine ⟨a, z, ?_⟩
    cases t <;> exact q
  · cases h
    obtain ⟨a, z, q⟩ := r
    refine ⟨a, z, ?_⟩
    cases t <;> exact q
  · cases h
theorem find_k {F : Hp} {k : Key} : ∀ {kvs : List (D × D)} {ks : List (Key × V)}, (kvs.map (·.1)) = (ks.map fun p => keyD p.1) → Reps W F (ks.map (·.2)) (kvs.map (·.2)) →
    (∃ v d, valV ks k = some v ∧ dGet false kvs [k] = some d ∧ Rep W F v d) ∨ (valV ks k = none ∧ dGet false kvs [k] = none)
  | [], [], _, _ => .inr ⟨rfl, rfl⟩
  | p :: kvs, q :: ks, h, r => by
    simp only [List.map_cons, List.cons.injEq] at h
    obtain ⟨h1, h2⟩ := h
    cases r with
    | cons r rs =>
      have hk : toKK false p.1 = some [q.1] := by rw [h1]; exact toKK_k _
      by_cases e : q.1 = k
      · exact .inl ⟨q.2, p.2, valV_pos e, by unfold dGet; simp [List.find?_cons, hk, e], r⟩
      · rcases find_k h2 rs with ⟨v, d, g1, g2, g3⟩ | ⟨g1, g2⟩
        · exact .inl ⟨v, d, by rw [valV_neg e]; exact g1, by unfold dGet at g2 ⊢; simp only [List.find?_cons, hk]; simpa [e] using g2, g3⟩
        · exact .inr ⟨by rw [valV_neg e]; exact g1, by unfold dGet at g2 ⊢; simp only [List.find?_cons, hk]; simpa [e] using g2⟩
  | [], _ :: _, h, _ => by cases h
  | _ :: _, [], h, _ => by cases h
theorem find_t {F : Hp} {k : List Key} : ∀ {kvs : List (D × D)} {ks : List (List Key × V)}, (kvs.map (·.1)) = (ks.map fun p => D.tup (p.1.map keyD)) → Reps W F (ks.map (·.2)) (kvs.map (·.2)) →
    (∃ v d, valV ks k = some v ∧ dGet true kvs k = some d ∧ Rep W F v d) ∨ (valV ks k = none ∧ dGet true kvs k = none)
  | [], [], _, _ => .inr ⟨rfl, rfl⟩
  | p :: kvs, q :: ks, h, r => by
    simp only [List.map_cons, List.cons.injEq] at h
    obtain ⟨h1, h2⟩ := h
    cases r with
    | cons r rs =>
      have hk : toKK true p.1 = some q.1 := by rw [h1]; exact toKK_t _
      by_cases e : q.1 = k
      · exact .inl ⟨q.2, p.2, valV_pos e, by unfold dGet; simp [List.find?_cons, hk, e], r⟩
      · rcases find_t h2 rs with ⟨v, d, g1, g2, g3⟩ | ⟨g1, g2⟩
        · exact .inl ⟨v, d, by rw [valV_neg e]; exact g1, by unfold dGet at g2 ⊢; simp only [List.find?_cons, hk]; simpa [e] using g2, g3⟩
        · exact .inr ⟨by rw [valV_neg e]; exact g1, by unfold dGet at g2 ⊢; simp only [List.find?_cons, hk]; simpa [e] using g2⟩
  | [], _ :: _, h, _ => by cases h
  | _ :: _, [], h, _ => by cases h
/-- the dict at a, asked for a key -/
theorem dGet_at {F H : Hp} {a : Addr} {x : V} {t : Bool} {kvs : List (D × D)} {b : B} {k : List Key} (e : Ext F H) (q : DctAt W F H a t kvs) (r : Rv W F H x b) (hk : toKK t b.d = some k) :
    (∃ v d, DGet H a x (some v) ∧ dGet t kvs k = some d ∧ Rep W F v d) ∨ (DGet H a x none ∧ dGet t kvs k = none) := by
  cases t with
  | false =>
    obtain ⟨ks, hh, h1, h2⟩ := q
    have : ∃ kk, toKey b.d = some kk ∧ k = [kk] := by
      unfold toKK at hk
      split at hk
      · cases hk
      · obtain ⟨kk, z, hk⟩ := Option.bind_eq_some_iff.mp hk
        cases hk
        exact ⟨kk, z, rfl⟩
    obtain ⟨kk, z, rfl⟩ := this
    have ex := toKey_rep (r.rep e) z
    subst ex
    rcases find_k (k := kk) h1 h2 with ⟨v, d, g1, g2, g3⟩ | ⟨g1, g2⟩
    · exact .inl ⟨v, d, g1 ▸ DGet.k hh, g2, g3⟩
    · exact .inr ⟨g1 ▸ DGet.k hh, g2⟩
  | true =>
    obtain ⟨ks, hh, h1, h2⟩ := q
    have hr := r.rep e
    revert hr hk
    generalize b.d = d0
    intro hk hr
    cases hr with
    | tup ha rs =>
      have hk : toKeys _ = some k := hk
      have ex := toKeys_rep rs hk
      subst ex
      rcases find_t (k := k) h1 h2 with ⟨v, d, g1, g2, g3⟩ | ⟨g1, g2⟩
      · exact .inl ⟨v, d, g1 ▸ DGet.t hh ha, g2, g3⟩
      · exact .inr ⟨g1 ▸ DGet.t hh ha, g2⟩
    | _ => cases hk
/-- asked by value: a key of the dict's kind; any other data of a dict of tuples' keys is not looked up -/
def inD (neg : Bool) (a b : B) : Option B := (dctOf b).bind fun p => (toKK p.1 a.d).bind fun k => some (.f (.bl ((dGet p.1 p.2 k).isSome != neg)))
def rInDc (neg : Bool) : R2 := fun y x H Q => ∃ a o, x = .ref a ∧ DGet H a y o ∧ Q (.bl (o.isSome != neg)) H
theorem op_inDc {X : Cx} (hu : X.A.units + 1 < cLine) : OpR X (compareOp .In) (rInDc false) := fun pins s σ H x y v u Q I rx ry ⟨a, o, ex, g, q⟩ => by
  subst ex
  obtain rfl : u = Value.ref a := ry
  rw [Bool.bne_false] at q
  exact d_in hu I g rx fun s3 I3 => ⟨.bl o.isSome, H, I3, rfl, q⟩
theorem op_ninDc {X : Cx} (hu : X.A.units + 1 < cLine) : OpR X (compareOp .NotIn) (rInDc true) := fun pins s σ H x y v u Q I rx ry ⟨a, o, ex, g, q⟩ => by
  subst ex
  obtain rfl : u = Value.ref a := ry
  rw [Bool.bne_true] at q
  exact d_notIn hu I g rx fun s3 I3 => ⟨.bl (!o.isSome), H, I3, rfl, q⟩
theorem op2_inDc (neg : Bool) : Op2 W (rInDc neg) (inD neg) := fun F H δ x y b1 b2 b e dr r1 r2 hg H₀ Q k => by
  obtain ⟨⟨t, kvs⟩, h1, hg⟩ := Option.bind_eq_some_iff.mp hg
  obtain ⟨kk, h2, hg⟩ := Option.bind_eq_some_iff.mp hg
  cases hg
  obtain ⟨a, rfl, q⟩ := r2.dct e h1
  rcases dGet_at e q r1 h2 with ⟨v, d, g1, g2, g3⟩ | ⟨g1, g2⟩
  · rw [g2] at k
    exact ⟨a, some v, rfl, g1, fin e dr (.bl _) k⟩
  · rw [g2] at k
    exact ⟨a, none, rfl, g1, fin e dr (.bl _) k⟩
def inA (neg : Bool) : B → B → Option B := orB (inS neg) (orB (inD neg) (inL neg))
theorem o2_in (C : Cok W n X) : Op2 W (fun x y H Q => (∃ (c : Nat) (z : PySem.Str), x = .str ⟨#[c]⟩ ∧ y = .str z ∧ Q (.bl (decide (c ∈ z.cps.toList))) H) ∨ rInDc false x y H Q ∨ rInD X.K x y H Q) (inA false) := Op2.or op2_inS (Op2.or (op2_inDc _) (by rw [C.k]; exact op2_inL))
theorem o2_nin (C : Cok W n X) : Op2 W (fun x y H Q => (∃ (c : Nat) (z : PySem.Str), x = .str ⟨#[c]⟩ ∧ y = .str z ∧ Q (.bl (!decide (c ∈ z.cps.toList))) H) ∨ rInDc true x y H Q ∨ rNotInD X.K x y H Q) (inA true) := Op2.or op2_ninS (Op2.or (op2_inDc _) (by rw [C.k]; exact op2_ninL))
theorem un1 (C : Cok W n X) : X.A.units + 1 < cLine := by have := C.room.un; omega
theorem un65 (C : Cok W n X) : X.A.units + 65 < cLine := by have := C.room.un; omega
theorem lkIn (C : Cok W n X) (ha : PE X a (tX W ma)) (hb : PE X b (tX W mb)) (hm : behindInMarks .In b = false := by first | exact nomark _ (by decide) (by decide) | rfl) : PE X (.Compare a [.In] [b] pos) (tX W (s2 (inA false) ma mb)) :=
  lkCmp (opOr op_in_sign (opOr (op_inDc (un1 C)) (op_inD (un65 C)))) (o2_in C) ha hb hm
theorem lkNin (C : Cok W n X) (ha : PE X a (tX W ma)) (hb : PE X b (tX W mb)) (hm : behindInMarks .NotIn b = false := by first | exact nomark _ (by decide) (by decide) | rfl) : PE X (.Compare a [.NotIn] [b] pos) (tX W (s2 (inA true) ma mb)) :=
  lkCmp (opOr op_notIn_sign (opOr (op_ninDc (un1 C)) (op_notInD (un65 C)))) (o2_nin C) ha hb hm
theorem lkTIn (C : Cok W n X) (ha : PE X a (tX W ma)) (hb : PE X b (tX W mb)) (hm : behindInMarks .In b = false := by first | exact nomark _ (by decide) (by decide) | rfl) : PT X (.Compare a [.In] [b] pos) (tXT W (sTest (s2 (inA false) ma mb))) :=
  lkTCmp (opOr op_in_sign (opOr (op_inDc (un1 C)) (op_inD (un65 C)))) (o2_in C) ha hb hm
theorem lkTNin (C : Cok W n X) (ha : PE X a (tX W ma)) (hb : PE X b (tX W mb)) (hm : behindInMarks .NotIn b = false := by first | exact nomark _ (by decide) (by decide) | rfl) : PT X (.Compare a [.NotIn] [b] pos) (tXT W (sTest (s2 (inA true) ma mb))) :=
  lkTCmp (opOr op_notIn_sign (opOr (op_ninDc (un1 C)) (op_notInD (un65 C)))) (o2_nin C) ha hb hm
end
end Py
/-! Layer, part J: what is walked; built-in functions. -/
namespace Py
open PySem L2 PyProof.Rows

/-! ### what is walked -/
/-- a list, a tuple or a text, by its value -/
def iAny (K : PySem.W.Frag) (tl : TE) : TI := fun σ H R => tl σ H fun x H1 => (∃ a xs, x = .ref a ∧ SqL K H1 a xs ∧ R (Itl K a) H1) ∨ (∃ a xs, x = .ref a ∧ SqT K H1 a xs ∧ R (Itt K a) H1) ∨ ∃ z, x = .str z ∧ R (Its z) H1
theorem pi_any {X : Cx} {tg l : Expr} {tl : TE} (hl : PE X l tl) : PI X tg l (iAny X.K tl) := by
  refine ⟨fun pp s0 σ H R I0 h => thn (hl.run pp s0 σ H _ I0 h) fun u s1 ⟨x, H1, I1, rx, q⟩ => ?_⟩
  rcases q with ⟨a, xs, rfl, hq, q⟩ | ⟨a, xs, rfl, hq, q⟩ | ⟨z, rfl, q⟩
  · obtain rfl : u = Value.ref a := rx
    obtain ⟨us, rv, pl, _⟩ := I1.list hq
    exact wpAny_pyIter_list pl.isList (pi_one (tk := s1.toks) I1 _ (turn_list a _) ⟨_, Heap.get?_push_size _ rfl, rfl, rfl⟩ q)
  · obtain rfl : u = Value.ref a := rx
    obtain ⟨us, rv, pl, _⟩ := I1.tuple hq
    exact wpAny_pyIter_tuple (show s1.heap.IsTuple a us.toArray from pl) (pi_one (tk := s1.toks) I1 _ (turn_tuple a _) ⟨_, Heap.get?_push_size _ rfl, rfl, rfl⟩ q)
  · obtain ⟨t, rfl⟩ := rx
    cases w8 : z.cps.all (· < 128)
    · exact wpAny_pyIter_wide w8 (pi_one (tk := s1.toks) I1 _ (turn_str _ z t "str_iterator" (.inr rfl)) ⟨_, Heap.get?_push_size _ rfl, rfl, rfl⟩ q)
    · exact wpAny_pyIter_ascii w8 (pi_one (tk := s1.toks) I1 _ (turn_str _ z t "str_ascii_iterator" (.inl rfl)) ⟨_, Heap.get?_push_size _ rfl, rfl, rfl⟩ q)
/-- the signs of a text, each a text -/
def chs (z : PySem.Str) : List D := z.cps.toList.map fun c => .str ⟨#[c]⟩
/-- what a value gives when it is walked, and is it lent -/
def itB : B → Option (List D × Bool)
  | .f (.tup ds) => some (ds, false)
  | .f (.lst ds) => some (ds, false)
  | .f (.scr ns) => some (ns.map .int, false)
  | .f (.str z) => some (chs z, false)
  | .w (.lst ds) => some (ds, true)
  | _ => none
/-- a new object, fixed for good -/
def B.frz : B → B
  | .o d => .f d
  | b => b
theorem Val.frz {W : Wd} {H₀ F H F1 H1 : Hp} {δ : DS} {v : V} (g : Go W F H F1 H1 δ) : ∀ {b : B}, Val W H₀ H F1 H1 v b → ∃ F2, Ext F1 F2 ∧ Go W F H F2 H1 δ ∧ Val W H₀ H F2 H1 v b.frz
  | .f _, h => ⟨F1, .refl, g, h⟩
  | .w _, h => ⟨F1, .refl, g, h⟩
  | .o d, h => let ⟨F2, x, g2, r⟩ := Val.fix g (b := .o d) rfl h; ⟨F2, x, g2, r⟩
def mIt (me : Me) : MeI := fun ρ δ => (me ρ δ).bind fun p => (itB p.1.frz).bind fun r => some (r, p.2)
theorem wlk_at {W : Wd} {J : It} {vs : List V} {ds : List D} {l : Bool} {F H : Hp} {Gd : Hp → Prop} (w : Walk J vs.length Gd (YAt vs)) (r : Reps W F vs ds) (g : ∀ F2 H2 δ2, Wt W F H l F2 H2 δ2 → Gd H2) (ef : ∀ F2 H2 δ2, Wt W F H l F2 H2 δ2 → Ext F F2 ∧ Ext F2 H2 ∧ Dr W H2 δ2) : Wlk W J ds l F H := by
  refine ⟨Gd, YAt vs, r.length ▸ w, g, fun i H2 x H3 F2 δ2 hi k ⟨e, hx⟩ => ?_⟩
  subst e
  obtain ⟨d, hd, rd⟩ := r.get hx
  obtain ⟨e1, e2, d2⟩ := ef _ _ _ k
  exact ⟨F2, d, .refl e2 d2, hd, rd.ext e1⟩
theorem wt_ext {W : Wd} {F H F2 H2 : Hp} {δ2 : DS} : ∀ {l : Bool}, Wt W F H l F2 H2 δ2 → Ext F F2 ∧ Ext F2 H2 ∧ Dr W H2 δ2
  | true, h => by
    have g : Go W F H F2 H2 δ2 := h
    exact ⟨g.ff, g.fh, g.dr⟩
  | false, h => h
theorem wlk_mk {W : Wd} {J : It} {ds : List D} {l : Bool} {F' H' : Hp} {n : Nat} {G : Hp → Prop} {Y : Nat → Hp → V → Hp → Prop} (w : Walk J n G Y) (hn : n = ds.length) (g : ∀ F2 H2 δ2, Wt W F' H' l F2 H2 δ2 → G H2)
    (y : ∀ i H2 x H3 F2 δ2, i < ds.length → Wt W F' H' l F2 H2 δ2 → Y i H2 x H3 → ∃ F3 d, Go W F2 H2 F3 H3 δ2 ∧ ds[i]? = some d ∧ Rep W F3 x d) : Wlk W J ds l F' H' := by
  subst hn
  exact ⟨⟨G, Y, w, g, y⟩⟩
theorem chs_get {z : PySem.Str} {i : Nat} {c : Nat} (h : z.cps[i]? = some c) : (chs z)[i]? = some (.str ⟨#[c]⟩) := by
  unfold chs
  rw [List.getElem?_map, Array.getElem?_toList, h]
  rfl
section
variable {X : Cx} {W : Wd} {n : Nat} {tg e e2 : Expr} {es : List Expr} {me : Me} {pos p : Pos}
theorem lkIt (C : Cok W n X) (h : PE X e (tX W me)) : PI X tg e (iX W (mIt me)) := piImp (pi_any h) fun σ H R ⟨F₀, H₀, ρ, F, δ, r, δ', G, hm, k⟩ => by
  obtain ⟨⟨b1, δ1⟩, h1, hm⟩ := Option.bind_eq_some_iff.mp hm
  obtain ⟨⟨ds, l⟩, h2, hm⟩ := Option.bind_eq_some_iff.mp hm
  cases hm
  refine ⟨F₀, H₀, ρ, F, δ, b1, _, G, h1, fun v F0 H1 g0 v0 => ?_⟩
  rw [C.k]
  obtain ⟨F1, x1, g1, v1⟩ := v0.frz g0
  revert h2 v1
  generalize b1.frz = b2
  intro h2 v1
  match b2, h2, v1 with
  | .f (.tup ds), h2, v1 =>
    cases h2
    cases v1 with
    | tup q rs => exact .inr (.inl ⟨_, _, rfl, tq (g1.fh _ _ q), k _ F1 H1 g1 (wlk_at walk_tup rs (fun F2 H2 δ2 w => tq ((wt_ext w).2.1 _ _ ((wt_ext w).1 _ _ q))) fun _ _ _ => wt_ext)⟩)
  | .f (.lst ds), h2, v1 =>
    cases h2
    cases v1 with
    | lst q rs => exact .inl ⟨_, _, rfl, .inl (.inl (g1.fh _ _ q)), k _ F1 H1 g1 (wlk_at walk_list rs (fun F2 H2 δ2 w => .inl (.inl ((wt_ext w).2.1 _ _ ((wt_ext w).1 _ _ q)))) fun _ _ _ => wt_ext)⟩
  | .f (.scr ns), h2, v1 =>
    cases h2
    cases v1 with
    | scr q => exact .inl ⟨_, _, rfl, sql_ext g1.fh q, k _ F1 H1 g1 (wlk_at walk_list (Reps.mapInt ns) (fun F2 H2 δ2 w => sql_ext (wt_ext w).2.1 (sql_ext (wt_ext w).1 q)) fun _ _ _ => wt_ext)⟩
  | .f (.str z), h2, v1 =>
    cases h2
    cases v1
    refine .inr (.inr ⟨z, rfl, k _ F1 H1 g1 (wlk_mk (walk_str (z := z)) (by unfold chs; simp) (fun _ _ _ _ => True.intro) fun i H2 x H3 F2 δ2 hi w ⟨e, c, hc, hx⟩ => ?_)⟩)
    subst e hx
    exact ⟨F2, _, .refl (wt_ext w).2.1 (wt_ext w).2.2, chs_get hc, .str _⟩
  | .w (.lst ds), h2, v1 =>
    cases h2
    obtain ⟨a, rfl, n0, f0, nd, vs, q, rs⟩ := v1
    exact .inl ⟨_, _, rfl, .inl (.inl q), k _ F1 H1 g1 (wlk_at walk_list rs (fun F2 H2 δ2 (w : Go W F1 H1 F2 H2 δ2) => .inl (.inl (w.hh _ _ q nd))) fun _ _ _ => wt_ext)⟩
/-! .. ranges -/
def rngD (lo : Int) (n : Nat) : List D := (List.range n).map fun (i : Nat) => .int (lo + i)
theorem rng_wlk {F H : Hp} {lo : Int} {n : Nat} : Wlk W (Itr lo n) (rngD lo n) false F H := by
  refine wlk_mk (walk_range (lo := lo) (n := n)) (by unfold rngD; simp) (fun _ _ _ _ => True.intro) fun i H2 x H3 F2 δ2 hi w ⟨e, hx⟩ => ?_
  subst e hx
  refine ⟨F2, _, .refl (wt_ext w).2.1 (wt_ext w).2.2, ?_, .int _⟩
  unfold rngD at hi ⊢
  rw [List.length_map, List.length_range] at hi
  rw [List.getElem?_map, List.getElem?_range hi]
  rfl
def smI (i : Int) : Bool := decide (-(2 ^ 62) ≤ i) && decide (i < 2 ^ 62)
theorem smI_ok {i : Int} (h : smI i = true) : -(2 ^ 62) ≤ i ∧ i < 2 ^ 62 := by
  obtain ⟨a, b⟩ := ba h
  exact ⟨of_decide_eq_true a, of_decide_eq_true b⟩
def mRng1 (ms : MeL) : MeI := fun ρ δ => (ms ρ δ).bind fun p => match p.1 with
  | [.int j] => if smI j then some ((rngD 0 j.toNat, false), p.2) else none
  | _ => none
def mRng2 (ms : MeL) : MeI := fun ρ δ => (ms ρ δ).bind fun p => match p.1 with
  | [.int i, .int j] => if smI i && smI j then some ((rngD i (j - i).toNat, false), p.2) else none
  | _ => none
theorem lkRng1 {ms : MeL} (ha : PA X [e] (tXA W ms)) (hm : X.mg "range" = none) (hg : Gl X "range" := by rfl) (hs : starEach [e] X.env = [(false, eval e X.env)] := by rfl) : PI X tg (.Call (.Name "range" p) [e] [] pos) (iX W (mRng1 ms)) :=
  piImp (pi_range1 hg hm ha hs) fun σ H R ⟨F₀, H₀, ρ, F, δ, r, δ', G, hm, k⟩ => by
    obtain ⟨⟨ds, δ1⟩, h1, hm⟩ := Option.bind_eq_some_iff.mp hm
    refine ⟨F₀, H₀, ρ, F, δ, ds, δ1, G, h1, fun vs F1 H1 g1 r1 => ?_⟩
    match ds, hm, r1 with
    | [.int j], hm, .cons r1 .nil =>
      have hm : (if smI j = true then _ else _) = _ := hm
      by_cases hc : smI j = true
      · rw [if_pos hc] at hm
        cases hm
        cases r1
        exact ⟨j, rfl, (smI_ok hc).1, (smI_ok hc).2, k _ F1 H1 g1 rng_wlk⟩
      · rw [if_neg hc] at hm; cases hm
theorem lkRng2 {ms : MeL} (ha : PA X [e, e2] (tXA W ms)) (hm : X.mg "range" = none) (hg : Gl X "range" := by rfl) (hs : starEach [e, e2] X.env = [(false, eval e X.env), (false, eval e2 X.env)] := by rfl) (hs2 : starEach [e2] X.env = [(false, eval e2 X.env)] := by rfl) :
    PI X tg (.Call (.Name "range" p) [e, e2] [] pos) (iX W (mRng2 ms)) :=
  piImp (pi_range2 hg hm ha hs hs2) fun σ H R ⟨F₀, H₀, ρ, F, δ, r, δ', G, hm, k⟩ => by
    obtain ⟨⟨ds, δ1⟩, h1, hm⟩ := Option.bind_eq_some_iff.mp hm
    refine ⟨F₀, H₀, ρ, F, δ, ds, δ1, G, h1, fun vs F1 H1 g1 r1 => ?_⟩
    match ds, hm, r1 with
    | [.int i, .int j], hm, .cons r1 (.cons r2 .nil) =>
      have hm : (if (smI i && smI j) = true then _ else _) = _ := hm
      by_cases hc : (smI i && smI j) = true
      · rw [if_pos hc] at hm
        cases hm
        cases r1
        cases r2
        exact ⟨i, j, rfl, ⟨(smI_ok (ba hc).1).1, (smI_ok (ba hc).1).2, (smI_ok (ba hc).2).1, (smI_ok (ba hc).2).2⟩, k _ F1 H1 g1 rng_wlk⟩
      · rw [if_neg hc] at hm; cases hm

/-! ### several values as they are -/
abbrev MeV := En → DS → Option (List B × DS)
def tXV (W : Wd) (m : MeV) : TA := fun σ H Q => ∃ F₀ H₀ ρ F δ bs δ', Good W F₀ H₀ σ ρ F H δ ∧ m ρ δ = some (bs, δ') ∧ ∀ vs F' H', Go W F H F' H' δ' → Paired (Val W H₀ H F' H') vs bs → Q vs H'
def vNil : MeV := fun _ δ => some ([], δ)
def vCons (m : Me) (ms : MeV) : MeV := fun ρ δ => (m ρ δ).bind fun p => (ms ρ p.2).bind fun q => some (p.1 :: q.1, q.2)
theorem Paired.imp {α β : Type} {P Q : α → β → Prop} (h : ∀ a b, P a b → Q a b) : ∀ {l : List α} {m : List β}, Paired P l m → Paired Q l m
  | _, _, .nil => .nil
  | _, _, .cons a r => .cons (h _ _ a) (Paired.imp h r)
theorem lkVNil : PA X [] (tXV W vNil) := paImp pa_nil fun σ H Q ⟨F₀, H₀, ρ, F, δ, bs, δ', G, hm, k⟩ => by
  cases hm
  exact k [] F H (.refl G.go.fh G.go.dr) .nil
theorem lkVCons {ms : MeV} (ha : PE X e (tX W me)) (hr : PA X es (tXV W ms)) (hs : starEach (e :: es) X.env = (false, eval e X.env) :: starEach es X.env := by rfl) : PA X (e :: es) (tXV W (vCons me ms)) :=
  paImp (pa_cons ha hr hs) fun σ H Q ⟨F₀, H₀, ρ, F, δ, bs, δ', G, hm, k⟩ => by
    obtain ⟨⟨b1, δ1⟩, h1, hm⟩ := Option.bind_eq_some_iff.mp hm
    obtain ⟨⟨bs', δ2⟩, h2, hm⟩ := Option.bind_eq_some_iff.mp hm
    cases hm
    exact ⟨F₀, H₀, ρ, F, δ, b1, δ1, G, h1, fun x F1 H1 g1 v1 => ⟨F₀, H₀, ρ, F1, δ1, bs', _, G.later g1, h2, fun vs F2 H2 g2 v2 => k _ F2 H2 (g1.trans g2) (.cons (v1.go g2) (Paired.imp (fun _ _ z => z.back g1) v2))⟩⟩
def sB (g : List B → Option B) (ms : MeV) : Me := fun ρ δ => (ms ρ δ).bind fun p => (g p.1).bind fun z => some (z, p.2)
def OpN (W : Wd) (r : List V → Hp → VK → Prop) (g : List B → Option B) : Prop := ∀ F H δ xs bs b, Ext F H → Dr W H δ → Paired (Rv W F H) xs bs → g bs = some b → ∀ H₀ (Q : VK), (∀ v F' H', Go W F H F' H' δ → Val W H₀ H F' H' v b → Q v H') → r xs H Q
theorem sB_run {r : List V → Hp → VK → Prop} {g : List B → Option B} {ms : MeV} (hr : OpN W r g) : ∀ σ H Q, tX W (sB g ms) σ H Q → tCB r (tXV W ms) σ H Q := fun σ H Q ⟨F₀, H₀, ρ, F, δ, b, δ', G, hm, k⟩ => by
  obtain ⟨⟨bs, δ1⟩, h1, hm⟩ := Option.bind_eq_some_iff.mp hm
  obtain ⟨z, h2, hm⟩ := Option.bind_eq_some_iff.mp hm
  cases hm
  exact ⟨F₀, H₀, ρ, F, δ, bs, _, G, h1, fun vs F1 H1 g1 v1 => hr F1 H1 _ vs bs b g1.fh g1.dr (Paired.imp (fun _ _ z => z.rv) v1) h2 H₀ Q fun v F2 H2 g2 v2 => k v F2 H2 (g1.trans g2) (v2.back g1)⟩
variable {x : PySem.Str} {id T : String} {r : List V → Hp → VK → Prop} {g : List B → Option B} {ms : MeV}
theorem lkB (hc : CallR X (.builtin id) r) (hr : OpN W r g) (hm : X.mg x = none) (ha : PA X (e :: es) (tXV W ms)) (hv : bootBuiltins x = some (.builtin id) := by rfl) (hg : Gl X x := by rfl) (hn : x ≠ "__name__" := by decide) (hdb : (x == ("__debug__" : PySem.Str)) = false := by decide)
    (he : starEach (e :: es) X.env = (false, eval e X.env) :: starEach es X.env := by rfl) (hpl : (backTo pos (starEach es X.env)).any (·.1) = false := by rfl) : PE X (.Call (.Name x p) (e :: es) [] pos) (tX W (sB g ms)) := peImp (pe_callB hc hg hm hv ha hn hdb he hpl) (sB_run hr)
theorem lkTy (hc : CallR X (.type T) r) (hr : OpN W r g) (hm : X.mg x = none) (ha : PA X (e :: es) (tXV W ms)) (hv : bootBuiltins x = some (.type T) := by rfl) (hg : Gl X x := by rfl) (hn : x ≠ "__name__" := by decide) (hdb : (x == ("__debug__" : PySem.Str)) = false := by decide)
    (he : starEach (e :: es) X.env = (false, eval e X.env) :: starEach es X.env := by rfl) (hpl : (backTo pos (starEach es X.env)).any (·.1) = false := by rfl) : PE X (.Call (.Name x p) (e :: es) [] pos) (tX W (sB g ms)) := peImp (pe_callTy hc hg hm hv ha hn hdb he hpl) (sB_run hr)
end
end Py
/-! Layer, part K: the built-in functions one by one. -/
namespace Py
open PySem L2 PyProof.Rows
section
variable {X : Cx} {W : Wd} {n : Nat} {e e2 : Expr} {es : List Expr} {me : Me} {ms : MeV} {pos p p2 : Pos}
theorem OpN.or {r r' : List V → Hp → VK → Prop} {g g' : List B → Option B} (h : OpN W r g) (h' : OpN W r' g') : OpN W (fun xs H Q => r xs H Q ∨ r' xs H Q) (fun bs => match g bs with
    | some z => some z
    | none => g' bs) := fun F H δ xs bs b e dr rs hg H₀ Q k => by
  cases q : g bs with
  | some z =>
    simp only [q] at hg
    cases hg
    exact .inl (h F H δ xs bs _ e dr rs q H₀ Q k)
  | none =>
    simp only [q] at hg
    exact .inr (h' F H δ xs bs b e dr rs hg H₀ Q k)
theorem callOr {u : Value} {r r' : List V → Hp → VK → Prop} (a : CallR X u r) (b : CallR X u r') : CallR X u (fun xs H Q => r xs H Q ∨ r' xs H Q) := fun pp s0 σ H xs us Q I rs h => h.elim (a pp s0 σ H xs us Q I rs) (b pp s0 σ H xs us Q I rs)

/-! ### len -/
def lenD : B → Option Nat
  | .f (.str z) => if z.length ≤ cap then some z.length else none
  | .f (.tup ds) => some ds.length
  | .f (.scr ns) => some ns.length
  | .f (.lst ds) => some ds.length
  | .o (.lst ds) => some ds.length
  | .w (.lst ds) => some ds.length
  | _ => none
def lenB : List B → Option B := fun bs => match bs with
  | [b] => (lenD b).bind fun k => some (.f (.int k))
  | _ => none
theorem opn_len : OpN W (fun xs H Q => ∃ x n, xs = [x] ∧ LenV W.K x H n ∧ Q (.int n) H) lenB := fun F H δ xs bs b e dr rs hg H₀ Q k => by
  match bs, hg, rs with
  | [b1], hg, .cons (a := v) r .nil =>
    obtain ⟨m, h1, hg⟩ := Option.bind_eq_some_iff.mp (show (lenD b1).bind _ = _ from hg)
    cases hg
    refine ⟨_, m, rfl, ?_, fin e dr (.int _) k⟩
    match b1, h1, r with
    | .f (.str z), h1, r =>
      have h1 : (if z.length ≤ cap then _ else _) = _ := h1
      by_cases hc : z.length ≤ cap
      · rw [if_pos hc] at h1; cases h1; cases r; exact ⟨cap_le hc, rfl⟩
      · rw [if_neg hc] at h1; cases h1
    | .f (.tup ds), h1, r => cases h1; cases r with | tup q rs => exact .inr ⟨_, tq (e _ _ q), rs.length.symm⟩
    | .f (.scr ns), h1, r => cases h1; cases r with | scr q => exact .inl ⟨_, sql_ext e q, by simp⟩
    | .f (.lst ds), h1, r => cases h1; cases r with | lst q rs => exact .inl ⟨_, .inl (.inl (e _ _ q)), rs.length.symm⟩
    | .o (.lst ds), h1, r => cases h1; obtain ⟨a, rfl, vs, q, rs⟩ := r; exact .inl ⟨_, .inl (.inl q), rs.length.symm⟩
    | .w (.lst ds), h1, r => cases h1; obtain ⟨a, rfl, vs, q, rs⟩ := r; exact .inl ⟨_, .inl (.inl q), rs.length.symm⟩
theorem lkLen (C : Cok W n X) (hm : X.mg "len" = none) (ha : PA X (e :: es) (tXV W ms)) (hg : Gl X "len" := by rfl) (he : starEach (e :: es) X.env = (false, eval e X.env) :: starEach es X.env := by rfl) (hpl : (backTo pos (starEach es X.env)).any (·.1) = false := by rfl) :
    PE X (.Call (.Name "len" p) (e :: es) [] pos) (tX W (sB lenB ms)) := lkB call_len (by rw [C.k]; exact opn_len) hm ha (hg := hg) (he := he) (hpl := hpl)

/-! ### of numbers -/
def absB : List B → Option B
  | [.f (.int i)] => some (.f (.int (if i < 0 then -i else i)))
  | _ => none
theorem opn_abs : OpN W (fun xs H Q => ∃ i, xs = [.int i] ∧ Q (.int (if i < 0 then -i else i)) H) absB := fun F H δ xs bs b e dr rs hg H₀ Q k => by
  match bs, hg, rs with
  | [.f (.int i)], hg, .cons r .nil => cases hg; cases r; exact ⟨i, rfl, fin e dr (.int _) k⟩
def iiN (g : Int → Int → Int) : List B → Option B
  | [.f (.int i), .f (.int j)] => some (.f (.int (g i j)))
  | _ => none
theorem opn_ii {g : Int → Int → Int} : OpN W (fun xs H Q => ∃ i j, xs = [.int i, .int j] ∧ Q (.int (g i j)) H) (iiN g) := fun F H δ xs bs b e dr rs hg H₀ Q k => by
  match bs, hg, rs with
  | [.f (.int i), .f (.int j)], hg, .cons r (.cons r2 .nil) => cases hg; cases r; cases r2; exact ⟨i, j, rfl, fin e dr (.int _) k⟩
def max2B : List B → Option B := iiN fun i j => if j > i then j else i
def min2B : List B → Option B := iiN fun i j => if j < i then j else i
def divmodB : List B → Option B
  | [.f (.int i), .f (.int j)] => if 0 < j ∧ j < 1073741824 then some (.f (.tup [.int (i / j), .int (i % j)])) else none
  | _ => none
theorem opn_divmod : OpN W (fun xs H Q => ∃ i j, xs = [.int i, .int j] ∧ CDiv i j ∧ ∀ p, H p = none → Q (.ref p) (upd H p (.tup [.int (i / j), .int (i % j)]))) divmodB := fun F H δ xs bs b e dr rs hg H₀ Q k => by
  match bs, hg, rs with
  | [.f (.int i), .f (.int j)], hg, .cons r (.cons r2 .nil) =>
    have hg : (if 0 < j ∧ j < 1073741824 then _ else _) = _ := hg
    by_cases hc : 0 < j ∧ j < 1073741824
    · rw [if_pos hc] at hg
      cases hg
      cases r
      cases r2
      refine ⟨i, j, rfl, hc, fun p hp => ?_⟩
      exact k _ _ _ (go_tup e dr hp) (Rep.tup upd_same (.cons (.int _) (.cons (.int _) .nil)))
    · rw [if_neg hc] at hg; cases hg
/-! .. of lists of numbers, of truth values -/
def intsD : List D → Option (List Int)
  | [] => some []
  | .int i :: ds => (intsD ds).bind fun r => some (i :: r)
  | _ => none
def boolsD : List D → Option (List Bool)
  | [] => some []
  | .bl i :: ds => (boolsD ds).bind fun r => some (i :: r)
  | _ => none
def strsD : List D → Option (List PySem.Str)
  | [] => some []
  | .str i :: ds => (strsD ds).bind fun r => some (i :: r)
  | _ => none
theorem ints_rep {F : Hp} : ∀ {vs : List V} {ds : List D} {ns : List Int}, Reps W F vs ds → intsD ds = some ns → vs = ns.map V.int
  | _, _, _, .nil, h => by cases h; rfl
  | _, .int i :: ds, _, .cons r rs, h => by
    obtain ⟨q, h1, h⟩ := Option.bind_eq_some_iff.mp (show (intsD ds).bind _ = _ from h)
    cases h
    cases r
    rw [ints_rep rs h1]; rfl
theorem bools_rep {F : Hp} : ∀ {vs : List V} {ds : List D} {ns : List Bool}, Reps W F vs ds → boolsD ds = some ns → vs = ns.map V.bl
  | _, _, _, .nil, h => by cases h; rfl
  | _, .bl i :: ds, _, .cons r rs, h => by
    obtain ⟨q, h1, h⟩ := Option.bind_eq_some_iff.mp (show (boolsD ds).bind _ = _ from h)
    cases h
    cases r
    rw [bools_rep rs h1]; rfl
theorem strs_rep {F : Hp} : ∀ {vs : List V} {ds : List D} {ns : List PySem.Str}, Reps W F vs ds → strsD ds = some ns → vs = ns.map V.str
  | _, _, _, .nil, h => by cases h; rfl
  | _, .str i :: ds, _, .cons r rs, h => by
    obtain ⟨q, h1, h⟩ := Option.bind_eq_some_iff.mp (show (strsD ds).bind _ = _ from h)
    cases h
    cases r
    rw [strs_rep rs h1]; rfl
def sumB : List B → Option B
  | [b] => (listOf b).bind fun ds => (intsD ds).bind fun ns => some (.f (.int ns.sum))
  | _ => none
theorem opn_sum : OpN W (rSum W.K) sumB := fun F H δ xs bs b e dr rs hg H₀ Q k => by
  match bs, hg, rs with
  | [b1], hg, .cons r .nil =>
    obtain ⟨ds, h1, hg⟩ := Option.bind_eq_some_iff.mp (show (listOf b1).bind _ = _ from hg)
    obtain ⟨ns, h2, hg⟩ := Option.bind_eq_some_iff.mp hg
    cases hg
    obtain ⟨a, vs, rfl, q, r1⟩ := r.lst e h1
    have ev := ints_rep r1 h2
    subst ev
    exact ⟨a, ns, rfl, .inl (.inl q), fin e dr (.int _) k⟩
def maxL : List Int → Option Int
  | [] => none
  | i :: r => some (r.foldl max i)
def minL : List Int → Option Int
  | [] => none
  | i :: r => some (r.foldl min i)
theorem foldl_max : ∀ (r : List Int) (i : Int), (r.foldl max i ∈ i :: r) ∧ ∀ y ∈ i :: r, y ≤ r.foldl max i
  | [], i => ⟨by simp, fun y h => by simp at h; subst h; exact Int.le_refl _⟩
  | j :: r, i => by
    obtain ⟨h1, h2⟩ := foldl_max r (max i j)
    refine ⟨?_, fun y h => ?_⟩
    · show r.foldl max (max i j) ∈ _
      rcases List.mem_cons.mp h1 with q | q
      · rw [q]
        rcases Int.le_total i j with z | z
        · rw [Int.max_eq_right z]; simp
        · rw [Int.max_eq_left z]; simp
      · simp [q]
    · have h3 := h2 (max i j) (by simp)
      show y ≤ r.foldl max (max i j)
      rcases List.mem_cons.mp h with q | q
      · subst q; exact Int.le_trans (Int.le_max_left _ _) h3
      · rcases List.mem_cons.mp q with q | q
        · subst q; exact Int.le_trans (Int.le_max_right _ _) h3
        · exact h2 y (List.mem_cons_of_mem _ q)
theorem foldl_min : ∀ (r : List Int) (i : Int), (r.foldl min i ∈ i :: r) ∧ ∀ y ∈ i :: r, r.foldl min i ≤ y
  | [], i => ⟨by simp, fun y h => by simp at h; subst h; exact Int.le_refl _⟩
  | j :: r, i => by
    obtain ⟨h1, h2⟩ := foldl_min r (min i j)
    refine ⟨?_, fun y h => ?_⟩
    · show r.foldl min (min i j) ∈ _
      rcases List.mem_cons.mp h1 with q | q
      · rw [q]
        rcases Int.le_total i j with z | z
        · rw [Int.min_eq_left z]; simp
        · rw [Int.min_eq_right z]; simp
      · simp [q]
    · have h3 := h2 (min i j) (by simp)
      show r.foldl min (min i j) ≤ y
      rcases List.mem_cons.mp h with q | q
      · subst q; exact Int.le_trans h3 (Int.min_le_left _ _)
      · rcases List.mem_cons.mp q with q | q
        · subst q; exact Int.le_trans h3 (Int.min_le_right _ _)
        · exact h2 y (List.mem_cons_of_mem _ q)
def maxLB : List B → Option B
  | [b] => (listOf b).bind fun ds => (intsD ds).bind fun ns => (maxL ns).bind fun m => some (.f (.int m))
  | _ => none
def minLB : List B → Option B
  | [b] => (listOf b).bind fun ds => (intsD ds).bind fun ns => (minL ns).bind fun m => some (.f (.int m))
  | _ => none
theorem opn_maxL : OpN W (rMax W.K) maxLB := fun F H δ xs bs b e dr rs hg H₀ Q k => by
  match bs, hg, rs with
  | [b1], hg, .cons r .nil =>
    obtain ⟨ds, h1, hg⟩ := Option.bind_eq_some_iff.mp (show (listOf b1).bind _ = _ from hg)
    obtain ⟨ns, h2, hg⟩ := Option.bind_eq_some_iff.mp hg
    obtain ⟨m, h3, hg⟩ := Option.bind_eq_some_iff.mp hg
    cases hg
    obtain ⟨a, vs, rfl, q, r1⟩ := r.lst e h1
    have ev := ints_rep r1 h2
    subst ev
    match ns, h3 with
    | i :: ns, h3 =>
      cases h3
      obtain ⟨z1, z2⟩ := foldl_max ns i
      refine ⟨a, _, rfl, .inl (.inl q), Nat.succ_pos _, fun m m1 m2 => ?_⟩
      rw [Int.le_antisymm (z2 m m1) (m2 _ z1)]
      exact fin e dr (.int _) k
theorem opn_minL : OpN W (rMin W.K) minLB := fun F H δ xs bs b e dr rs hg H₀ Q k => by
  match bs, hg, rs with
  | [b1], hg, .cons r .nil =>
    obtain ⟨ds, h1, hg⟩ := Option.bind_eq_some_iff.mp (show (listOf b1).bind _ = _ from hg)
    obtain ⟨ns, h2, hg⟩ := Option.bind_eq_some_iff.mp hg
    obtain ⟨m, h3, hg⟩ := Option.bind_eq_some_iff.mp hg
    cases hg
    obtain ⟨a, vs, rfl, q, r1⟩ := r.lst e h1
    have ev := ints_rep r1 h2
    subst ev
    match ns, h3 with
    | i :: ns, h3 =>
      cases h3
      obtain ⟨z1, z2⟩ := foldl_min ns i
      refine ⟨a, _, rfl, .inl (.inl q), Nat.succ_pos _, fun m m1 m2 => ?_⟩
      rw [Int.le_antisymm (m2 _ z1) (z2 m m1)]
      exact fin e dr (.int _) k
def allB : List B → Option B
  | [b] => (listOf b).bind fun ds => (boolsD ds).bind fun ns => some (.f (.bl (ns.all id)))
  | _ => none
def anyB : List B → Option B
  | [b] => (listOf b).bind fun ds => (boolsD ds).bind fun ns => some (.f (.bl (ns.any id)))
  | _ => none
theorem opn_all : OpN W (rAll W.K) allB := fun F H δ xs bs b e dr rs hg H₀ Q k => by
  match bs, hg, rs with
  | [b1], hg, .cons r .nil =>
    obtain ⟨ds, h1, hg⟩ := Option.bind_eq_some_iff.mp (show (listOf b1).bind _ = _ from hg)
    obtain ⟨ns, h2, hg⟩ := Option.bind_eq_some_iff.mp hg
    cases hg
    obtain ⟨a, vs, rfl, q, r1⟩ := r.lst e h1
    have ev := bools_rep r1 h2
    subst ev
    exact ⟨a, ns, rfl, .inl (.inl q), fin e dr (.bl _) k⟩
theorem opn_any : OpN W (rAny W.K) anyB := fun F H δ xs bs b e dr rs hg H₀ Q k => by
  match bs, hg, rs with
  | [b1], hg, .cons r .nil =>
    obtain ⟨ds, h1, hg⟩ := Option.bind_eq_some_iff.mp (show (listOf b1).bind _ = _ from hg)
    obtain ⟨ns, h2, hg⟩ := Option.bind_eq_some_iff.mp hg
    cases hg
    obtain ⟨a, vs, rfl, q, r1⟩ := r.lst e h1
    have ev := bools_rep r1 h2
    subst ev
    exact ⟨a, ns, rfl, .inl (.inl q), fin e dr (.bl _) k⟩
section
theorem lkAbs (C : Cok W n X) (hm : X.mg "abs" = none) (ha : PA X (e :: es) (tXV W ms)) (hg : Gl X "abs" := by rfl) (he : starEach (e :: es) X.env = (false, eval e X.env) :: starEach es X.env := by rfl) (hpl : (backTo pos (starEach es X.env)).any (·.1) = false := by rfl) :
    PE X (.Call (.Name "abs" p) (e :: es) [] pos) (tX W (sB absB ms)) := lkB call_abs opn_abs hm ha (hg := hg) (he := he) (hpl := hpl)
theorem lkMax2 (C : Cok W n X) (hm : X.mg "max" = none) (ha : PA X (e :: es) (tXV W ms)) (hg : Gl X "max" := by rfl) (he : starEach (e :: es) X.env = (false, eval e X.env) :: starEach es X.env := by rfl) (hpl : (backTo pos (starEach es X.env)).any (·.1) = false := by rfl) :
    PE X (.Call (.Name "max" p) (e :: es) [] pos) (tX W (sB max2B ms)) := lkB (call_max2 C.calm) opn_ii hm ha (hg := hg) (he := he) (hpl := hpl)
theorem lkMin2 (C : Cok W n X) (hm : X.mg "min" = none) (ha : PA X (e :: es) (tXV W ms)) (hg : Gl X "min" := by rfl) (he : starEach (e :: es) X.env = (false, eval e X.env) :: starEach es X.env := by rfl) (hpl : (backTo pos (starEach es X.env)).any (·.1) = false := by rfl) :
    PE X (.Call (.Name "min" p) (e :: es) [] pos) (tX W (sB min2B ms)) := lkB (call_min2 C.calm) opn_ii hm ha (hg := hg) (he := he) (hpl := hpl)
theorem lkDivmod (C : Cok W n X) (hm : X.mg "divmod" = none) (ha : PA X (e :: es) (tXV W ms)) (hg : Gl X "divmod" := by rfl) (he : starEach (e :: es) X.env = (false, eval e X.env) :: starEach es X.env := by rfl) (hpl : (backTo pos (starEach es X.env)).any (·.1) = false := by rfl) :
    PE X (.Call (.Name "divmod" p) (e :: es) [] pos) (tX W (sB divmodB ms)) := lkB call_divmod opn_divmod hm ha (hg := hg) (he := he) (hpl := hpl)
theorem lkSum (C : Cok W n X) (hm : X.mg "sum" = none) (ha : PA X (e :: es) (tXV W ms)) (hg : Gl X "sum" := by rfl) (he : starEach (e :: es) X.env = (false, eval e X.env) :: starEach es X.env := by rfl) (hpl : (backTo pos (starEach es X.env)).any (·.1) = false := by rfl) :
    PE X (.Call (.Name "sum" p) (e :: es) [] pos) (tX W (sB sumB ms)) := lkB (cr_sum C.calm) (by rw [C.k]; exact opn_sum) hm ha (hg := hg) (he := he) (hpl := hpl)
theorem lkMaxL (C : Cok W n X) (hm : X.mg "max" = none) (ha : PA X (e :: es) (tXV W ms)) (hg : Gl X "max" := by rfl) (he : starEach (e :: es) X.env = (false, eval e X.env) :: starEach es X.env := by rfl) (hpl : (backTo pos (starEach es X.env)).any (·.1) = false := by rfl) :
    PE X (.Call (.Name "max" p) (e :: es) [] pos) (tX W (sB maxLB ms)) := lkB (cr_max C.calm) (by rw [C.k]; exact opn_maxL) hm ha (hg := hg) (he := he) (hpl := hpl)
theorem lkMinL (C : Cok W n X) (hm : X.mg "min" = none) (ha : PA X (e :: es) (tXV W ms)) (hg : Gl X "min" := by rfl) (he : starEach (e :: es) X.env = (false, eval e X.env) :: starEach es X.env := by rfl) (hpl : (backTo pos (starEach es X.env)).any (·.1) = false := by rfl) :
    PE X (.Call (.Name "min" p) (e :: es) [] pos) (tX W (sB minLB ms)) := lkB (cr_min C.calm) (by rw [C.k]; exact opn_minL) hm ha (hg := hg) (he := he) (hpl := hpl)
theorem lkAll (C : Cok W n X) (hm : X.mg "all" = none) (ha : PA X (e :: es) (tXV W ms)) (hg : Gl X "all" := by rfl) (he : starEach (e :: es) X.env = (false, eval e X.env) :: starEach es X.env := by rfl) (hpl : (backTo pos (starEach es X.env)).any (·.1) = false := by rfl) :
    PE X (.Call (.Name "all" p) (e :: es) [] pos) (tX W (sB allB ms)) := lkB (cr_all C.calm) (by rw [C.k]; exact opn_all) hm ha (hg := hg) (he := he) (hpl := hpl)
theorem lkAny (C : Cok W n X) (hm : X.mg "any" = none) (ha : PA X (e :: es) (tXV W ms)) (hg : Gl X "any" := by rfl) (he : starEach (e :: es) X.env = (false, eval e X.env) :: starEach es X.env := by rfl) (hpl : (backTo pos (starEach es X.env)).any (·.1) = false := by rfl) :
    PE X (.Call (.Name "any" p) (e :: es) [] pos) (tX W (sB anyB ms)) := lkB (cr_any C.calm) (by rw [C.k]; exact opn_any) hm ha (hg := hg) (he := he) (hpl := hpl)
end

/-! ### tuple(..), list(..) of lists and tuples -/
def tupB1 (b : B) : Option B := match b with
  | .f (.tup ds) => some (.f (.tup ds))
  | b => (listOf b).bind fun ds => some (.f (.tup ds))
def tupB : List B → Option B
  | [b] => tupB1 b
  | _ => none
theorem opn_tup : OpN W (fun xs H Q => ∃ p ys, xs = [V.ref p] ∧ ((SqL W.K H p ys ∧ ∀ l, H l = none → Q (.ref l) (upd H l (.tup ys))) ∨ (SqT W.K H p ys ∧ Q (.ref p) H))) tupB := fun F H δ xs bs b e dr rs hg H₀ Q k => by
  have go : ∀ (b1 : B) (ds : List D) (x : V), listOf b1 = some ds → Rv W F H x b1 → b = .f (.tup ds) → ∃ p ys, [x] = [V.ref p] ∧ ((SqL W.K H p ys ∧ ∀ l, H l = none → Q (.ref l) (upd H l (.tup ys))) ∨ (SqT W.K H p ys ∧ Q (.ref p) H)) := fun b1 ds x h1 r hb => by
    subst hb
    obtain ⟨a, vs, rfl, q, r1⟩ := r.lst e h1
    exact ⟨a, vs, rfl, .inl ⟨.inl (.inl q), fun l hl => k _ _ _ (go_tup e dr hl) (Rep.tup upd_same (r1.ext (go_tup e dr hl (xs := vs)).ff))⟩⟩
  match bs, hg, rs with
  | [b1], hg, .cons r .nil =>
    have hg : tupB1 b1 = some b := hg
    unfold tupB1 at hg
    split at hg
    · cases hg
      cases r with
      | tup q rs => exact ⟨_, _, rfl, .inr ⟨tq (e _ _ q), fin e dr (Rep.tup q rs) k⟩⟩
    · obtain ⟨ds, h1, hg⟩ := Option.bind_eq_some_iff.mp hg
      exact go _ ds _ h1 r (by cases hg; rfl)
def seqOf : B → Option (List D)
  | .f (.tup ds) => some ds
  | .f (.scr ns) => some (ns.map .int)
  | b => listOf b
def lstB : List B → Option B
  | [b] => (seqOf b).bind fun ds => some (.o (.lst ds))
  | _ => none
theorem Rv.seq {F H : Hp} {v : V} (e : Ext F H) {b : B} {ds : List D} (r : Rv W F H v b) (h : seqOf b = some ds) : ∃ a vs, v = .ref a ∧ (SqL W.K H a vs ∨ SqT W.K H a vs) ∧ Reps W F vs ds := by
  have go : listOf b = some ds → ∃ a vs, v = .ref a ∧ (SqL W.K H a vs ∨ SqT W.K H a vs) ∧ Reps W F vs ds := fun h1 => by
    obtain ⟨a, vs, z, q, r1⟩ := r.lst e h1
    exact ⟨a, vs, z, .inl (.inl (.inl q)), r1⟩
  match b, h, r with
  | .f (.tup _), h, r => cases h; cases r with | tup q rs => exact ⟨_, _, rfl, .inr (tq (e _ _ q)), rs⟩
  | .f (.scr ns), h, r => cases h; cases r with | scr q => exact ⟨_, _, rfl, .inl (sql_ext e q), Reps.mapInt ns⟩
  | .f (.lst _), h, r => exact go h
  | .o (.lst _), h, r => exact go h
  | .w (.lst _), h, r => exact go h
theorem opn_lst : OpN W (fun xs H Q => ∃ p ys, xs = [V.ref p] ∧ (SqL W.K H p ys ∨ SqT W.K H p ys) ∧ ∀ l, H l = none → Q (.ref l) (upd H l (.lst ys))) lstB := fun F H δ xs bs b e dr rs hg H₀ Q k => by
  match bs, hg, rs with
  | [b1], hg, .cons r .nil =>
    obtain ⟨ds, h1, hg⟩ := Option.bind_eq_some_iff.mp (show (seqOf b1).bind _ = _ from hg)
    cases hg
    obtain ⟨a, vs, rfl, q, r1⟩ := r.seq e h1
    exact ⟨a, vs, rfl, q, fun l hl => newL e dr hl r1 k⟩
theorem lkTuple (C : Cok W n X) (hm : X.mg "tuple" = none) (ha : PA X (e :: es) (tXV W ms)) (hg : Gl X "tuple" := by rfl) (he : starEach (e :: es) X.env = (false, eval e X.env) :: starEach es X.env := by rfl) (hpl : (backTo pos (starEach es X.env)).any (·.1) = false := by rfl) :
    PE X (.Call (.Name "tuple" p) (e :: es) [] pos) (tX W (sB tupB ms)) := lkTy call_tuple_of (by rw [C.k]; exact opn_tup) hm ha (hg := hg) (he := he) (hpl := hpl)
theorem lkList (C : Cok W n X) (hm : X.mg "list" = none) (ha : PA X (e :: es) (tXV W ms)) (hg : Gl X "list" := by rfl) (he : starEach (e :: es) X.env = (false, eval e X.env) :: starEach es X.env := by rfl) (hpl : (backTo pos (starEach es X.env)).any (·.1) = false := by rfl) :
    PE X (.Call (.Name "list" p) (e :: es) [] pos) (tX W (sB lstB ms)) := lkTy call_list_of (by rw [C.k]; exact opn_lst) hm ha (hg := hg) (he := he) (hpl := hpl)
end
end Py
/-! Layer, part L: isinstance, repr, texts' methods, dicts, own classes, calls by name. -/
namespace Py
open PySem L2 PyProof.Rows

/-! ### isinstance with built-in types -/
inductive Ty where
  | int | str | bl | tup | lst | dct
def Ty.nm : Ty → String
  | .int => "int" | .str => "str" | .bl => "bool" | .tup => "tuple" | .lst => "list" | .dct => "dict"
def tyN : D → Option String
  | .non => some "NoneType" | .bl _ => some "bool" | .int _ => some "int" | .str _ => some "str" | .tup _ => some "tuple" | .lst _ => some "list" | .dct _ _ => some "dict"
  | _ => none
def isTy : Ty → D → Option Bool
  | _, .ins _ _ => none
  | _, .scr _ => none
  | _, .drw => none
  | _, .obj _ _ _ => none
  | .int, .int _ => some true
  | .int, .bl _ => some true
  | .bl, .bl _ => some true
  | .str, .str _ => some true
  | .tup, .tup _ => some true
  | .lst, .lst _ => some true
  | .dct, .dct _ _ => some true
  | _, _ => some false
theorem kitT : ∀ (T : Ty) (d : D) (r : Bool), isTy T d = some r → ∃ t, tyN d = some t ∧ kitB t T.nm = some r := by
  intro T d r h
  cases T <;> cases d <;> first | cases h; done | (cases h; exact ⟨_, rfl, by decide +kernel⟩)
section
variable {X : Cx} {W : Wd} {n k : Nat} {e e2 o : Expr} {es : List Expr} {me ma mb : Me} {ms : MeL} {pos p p2 apos : Pos}
theorem tyx {H : Hp} {v : V} {d : D} {t : String} (r : Rep W H v d) (h : tyN d = some t) : TyX W.K H v (.type t) := by
  cases r with
  | non => cases h; exact .base .non
  | bl b => cases h; exact .base (.bl b)
  | int i => cases h; exact .base (.int i)
  | str s => cases h; exact .base (.str s)
  | tup q _ => cases h; exact .base (.tup q)
  | lst q _ => cases h; exact .base (.lst q)
  | dK q _ => cases h; exact .base (.dK q)
  | dT q _ => cases h; exact .base (.dT q)
  | ins _ _ _ => cases h
  | scr _ => cases h
  | drw _ => cases h
  | obj _ _ _ => cases h
def sIsi (T : Ty) (me : Me) : Me := fun ρ δ => (me ρ δ).bind fun p => (isTy T p.1.d).bind fun r => some (.f (.bl r), p.2)
theorem isi_hx {T : Ty} {x : PySem.Str} (hv : bootBuiltins x = some (.type T.nm)) (hg : Gl X x) (hm : X.mg x = none) (hn : x ≠ "__name__") (hdb : (x == ("__debug__" : PySem.Str)) = false) : PE X (.Name x p2) (tC (.ty T.nm)) := pe_bltn hg hm hv rfl hn hdb
theorem lkIsi {T : Ty} {x : PySem.Str} (C : Cok W n X) (hm0 : X.mg "isinstance" = none) (hm : X.mg x = none) (he : PE X e (tX W me)) (hv : bootBuiltins x = some (.type T.nm) := by rfl) (hg0 : Gl X "isinstance" := by rfl) (hg : Gl X x := by rfl) (hn : x ≠ "__name__" := by decide) (hdb : (x == ("__debug__" : PySem.Str)) = false := by decide)
    (hs : starEach [e, .Name x p2] X.env = (false, eval e X.env) :: starEach [.Name x p2] X.env := by rfl) (hs2 : starEach [.Name x p2] X.env = (false, eval (.Name x p2) X.env) :: starEach [] X.env := by rfl) (hpl : (backTo pos (starEach [.Name x p2] X.env)).any (·.1) = false := by rfl) :
    PE X (.Call (.Name "isinstance" p) [e, .Name x p2] [] pos) (tX W (sIsi T me)) :=
  peImp (pe_callB call_isi hg0 hm0 (by rfl) (pa_cons he (pa_cons (isi_hx hv hg hm hn hdb) pa_nil hs2) hs) (he := hs) (hpl := hpl)) fun σ H Q ⟨F₀, H₀, ρ, F, δ, b, δ', G, hm, k⟩ => by
    obtain ⟨⟨b1, δ1⟩, h1, hm⟩ := Option.bind_eq_some_iff.mp hm
    obtain ⟨r, h2, hm⟩ := Option.bind_eq_some_iff.mp hm
    cases hm
    refine ⟨F₀, H₀, ρ, F, δ, b1, _, G, h1, fun v F1 H1 g1 v1 => ?_⟩
    obtain ⟨t, h3, h4⟩ := kitT T b1.d r h2
    rw [C.k]
    exact ⟨v, .ty T.nm, .type t, .type T.nm, r, rfl, .ty _, tyx (v1.rv.rep g1.fh) h3, kit_ty h4, k _ F1 H1 g1 (.bl r)⟩
/-! .. of several types -/
def isTys : List Ty → D → Option Bool
  | [], _ => some false
  | T :: Ts, d => (isTy T d).bind fun r => (isTys Ts d).bind fun q => some (r || q)
def sIsiT (Ts : List Ty) (me : Me) : Me := fun ρ δ => (me ρ δ).bind fun p => (tyN p.1.d).bind fun _ => (isTys Ts p.1.d).bind fun r => some (.f (.bl r), p.2)
theorem kitTs {t : String} {d : D} (ht : tyN d = some t) : ∀ {Ts : List Ty} {r : Bool}, isTys Ts d = some r → PySem.W.kitAny W.K (.type t) (Ts.map fun T => Value.type T.nm) = some r
  | [], r, h => by cases h; exact kitAny_nil
  | T :: Ts, r, h => by
    obtain ⟨a, h1, h⟩ := Option.bind_eq_some_iff.mp (show (isTy T d).bind _ = _ from h)
    obtain ⟨b, h2, h⟩ := Option.bind_eq_some_iff.mp h
    cases h
    obtain ⟨t', e1, e2⟩ := kitT T d a h1
    rw [ht] at e1
    cases e1
    refine kitAny_cons (kit_ty e2) (fun z => ?_) (fun z => by rw [z]; rfl)
    rw [z, Bool.false_or]
    exact kitTs ht h2
theorem cls_all : ∀ Ts : List Ty, Paired ClsV (Ts.map fun T => V.ty T.nm) (Ts.map fun T => Value.type T.nm)
  | [] => .nil
  | T :: Ts => .cons (.ty T.nm) (cls_all Ts)
/-- the values of a display of types -/
inductive PTy (X : Cx) : List Expr → List Ty → Prop
  | nil : PTy X [] []
  | cons {x : PySem.Str} {T : Ty} {p : Pos} {es : List Expr} {Ts : List Ty} (hm : X.mg x = none) (r : PTy X es Ts) (hv : bootBuiltins x = some (.type T.nm) := by rfl) (hg : Gl X x := by rfl) (hn : x ≠ "__name__" := by decide) (hdb : (x == ("__debug__" : PySem.Str)) = false := by decide)
      (hs : starEach (.Name x p :: es) X.env = (false, eval (.Name x p) X.env) :: starEach es X.env := by rfl) : PTy X (.Name x p :: es) (T :: Ts)
def tTys : List Ty → TA
  | [] => tNil
  | T :: Ts => tCons (tC (.ty T.nm)) (tTys Ts)
theorem PTy.pa : ∀ {es : List Expr} {Ts : List Ty}, PTy X es Ts → PA X es (tTys Ts)
  | _, _, .nil => pa_nil
  | _, _, .cons hm r hv hg hn hdb hs => pa_cons (isi_hx hv hg hm hn hdb) r.pa hs
theorem tTys_run {σ : L2.St} {H : Hp} : ∀ {Ts : List Ty} {Q : List V → Hp → Prop}, Q (Ts.map fun T => V.ty T.nm) H → tTys Ts σ H Q
  | [], _, h => h
  | T :: Ts, _, h => tTys_run (Ts := Ts) h
theorem lkIsiT {Ts : List Ty} {kk : Nat} (C : Cok W n X) (hm0 : X.mg "isinstance" = none) (he : PE X e (tX W me)) (ht : PTy X es Ts) (hl : Ts.length ≤ 1000 := by decide) (hg0 : Gl X "isinstance" := by rfl)
    (hs : starEach [e, .Tuple es kk p2] X.env = (false, eval e X.env) :: starEach [.Tuple es kk p2] X.env := by rfl) (hs2 : starEach [.Tuple es kk p2] X.env = (false, eval (.Tuple es kk p2) X.env) :: starEach [] X.env := by rfl) (hpl : (backTo pos (starEach [.Tuple es kk p2] X.env)).any (·.1) = false := by rfl) :
    PE X (.Call (.Name "isinstance" p) [e, .Tuple es kk p2] [] pos) (tX W (sIsiT Ts me)) :=
  peImp (pe_callB call_isiT hg0 hm0 (by rfl) (pa_cons he (pa_cons (pe_tup ht.pa) pa_nil hs2) hs) (he := hs) (hpl := hpl)) fun σ H Q ⟨F₀, H₀, ρ, F, δ, b, δ', G, hm, k⟩ => by
    obtain ⟨⟨b1, δ1⟩, h1, hm⟩ := Option.bind_eq_some_iff.mp hm
    obtain ⟨t, h3, hm⟩ := Option.bind_eq_some_iff.mp hm
    obtain ⟨r, h2, hm⟩ := Option.bind_eq_some_iff.mp hm
    cases hm
    refine ⟨F₀, H₀, ρ, F, δ, b1, _, G, h1, fun v F1 H1 g1 v1 => tTys_run ⟨?_, fun q hq => ?_⟩⟩
    · rw [List.length_map]; exact Nat.le_trans hl (by decide)
    · have g2 := go_new (o := .tup (Ts.map fun T => V.ty T.nm)) g1.fh g1.dr hq
      rw [C.k]
      exact ⟨v, q, _, .type t, _, r, rfl, upd_same, cls_all Ts, tyx ((v1.rv.rep g1.fh).ext fun a ob z => by rw [upd_ne (ne_of_none z hq)]; exact z) h3, kitTs h3 h2, k _ F1 _ (g1.trans g2) (.bl r)⟩

/-! ### repr of single data -/
def reprD : D → Option PySem.Str
  | .non => some "None"
  | .bl b => some (if b then "True" else "False")
  | .int i => if i.natAbs.log2 < 1920 then some (toString i) else none
  | .str s => if (reprText s).length ≤ sizeLine then some (reprText s) else none
  | _ => none
def reprB : List B → Option B
  | [.f d] => (reprD d).bind fun s => some (.f (.str s))
  | _ => none
def rRepr : List V → Hp → VK → Prop := fun xs H Q => (xs = [.non] ∧ Q (.str "None") H) ∨ (∃ b, xs = [.bl b] ∧ Q (.str (if b then "True" else "False")) H) ∨ (∃ i, xs = [.int i] ∧ i.natAbs.log2 < 1920 ∧ Q (.str (toString i)) H) ∨
  ∃ z, xs = [.str z] ∧ (reprText z).length ≤ sizeLine ∧ Q (.str (reprText z)) H
theorem call_reprs : CallR X (.builtin "repr") rRepr := fun pp s0 σ H xs us Q I r h => by
  rcases h with ⟨rfl, q⟩ | ⟨b, rfl, q⟩ | ⟨i, rfl, hz, q⟩ | ⟨z, rfl, hz, q⟩
  · obtain ⟨u, rfl, r5⟩ := vals1 r
    obtain rfl : u = Value.none := r5
    exact PySem.P.repr_of_none ⟨.str _, H, I.tok _, ⟨_, rfl⟩, q⟩
  · obtain ⟨u, rfl, r5⟩ := vals1 r
    obtain rfl : u = Value.bool b := r5
    exact PySem.P.repr_of_bool ⟨.str _, H, I.tok _, ⟨_, rfl⟩, q⟩
  · obtain ⟨u, rfl, t, rfl⟩ := vals1 r
    exact PySem.P.repr_of_int hz ⟨.str _, H, I.tok _, ⟨_, rfl⟩, q⟩
  · obtain ⟨u, rfl, t, rfl⟩ := vals1 r
    exact PySem.P.repr_of_str ⟨.str _, H, I.tok _, ⟨_, rfl⟩, q⟩ hz
theorem opn_repr : OpN W rRepr reprB := fun F H δ xs bs b e dr rs hg H₀ Q k => by
  match bs, hg, rs with
  | [.f d], hg, .cons r .nil =>
    obtain ⟨s, h1, hg⟩ := Option.bind_eq_some_iff.mp (show (reprD d).bind _ = _ from hg)
    cases hg
    have r : Rep W F _ d := r
    cases r with
    | non => cases h1; exact .inl ⟨rfl, fin e dr (.str _) k⟩
    | bl b => cases h1; exact .inr (.inl ⟨b, rfl, fin e dr (.str _) k⟩)
    | int i =>
      have h1 : (if i.natAbs.log2 < 1920 then _ else _) = _ := h1
      by_cases hc : i.natAbs.log2 < 1920
      · rw [if_pos hc] at h1; cases h1; exact .inr (.inr (.inl ⟨i, rfl, hc, fin e dr (.str _) k⟩))
      · rw [if_neg hc] at h1; cases h1
    | str z =>
      have h1 : (if (reprText z).length ≤ sizeLine then _ else _) = _ := h1
      by_cases hc : (reprText z).length ≤ sizeLine
      · rw [if_pos hc] at h1; cases h1; exact .inr (.inr (.inr ⟨z, rfl, hc, fin e dr (.str _) k⟩))
      · rw [if_neg hc] at h1; cases h1
    | _ => cases h1

/-! ### methods of texts -/
def sJoin (ma mb : Me) : Me := fun ρ δ => (ma ρ δ).bind fun p => (mb ρ p.2).bind fun q => match p.1 with
  | .f (.str a) => (seqOf q.1).bind fun ds => (strsD ds).bind fun ys => if (ys.map (·.length)).sum + ys.length * a.length ≤ cap then some (.f (.str (Txt.join a ys)), q.2) else none
  | _ => none
theorem lkJoin (C : Cok W n X) (ho : PE X o (tX W ma)) (he : PE X e (tX W mb)) (hs : starEach [e] X.env = [(false, eval e X.env)] := by rfl) (hbase : attributeBase o "join" X.env (eval o X.env) = eval o X.env := by rfl) (hline : (apos.endLine == pos.line) = true := by rfl) :
    PE X (.Call (.Attribute o "join" apos) [e] [] pos) (tX W (sJoin ma mb)) := peImp (pe_join ho he hs hbase hline) fun σ H Q ⟨F₀, H₀, ρ, F, δ, b, δ', G, hm, k⟩ => by
  obtain ⟨⟨b1, δ1⟩, h1, hm⟩ := Option.bind_eq_some_iff.mp hm
  obtain ⟨⟨b2, δ2⟩, h2, hm⟩ := Option.bind_eq_some_iff.mp hm
  refine ⟨F₀, H₀, ρ, F, δ, b1, δ1, G, h1, fun v F1 H1 g1 v1 => ?_⟩
  match b1, hm, v1 with
  | .f (.str a), hm, v1 =>
    obtain ⟨ds, h3, hm⟩ := Option.bind_eq_some_iff.mp (show (seqOf b2).bind _ = _ from hm)
    obtain ⟨ys, h4, hm⟩ := Option.bind_eq_some_iff.mp hm
    split at hm
    · next hc =>
      cases hm
      cases v1
      refine ⟨⟨a, rfl⟩, F₀, H₀, ρ, F1, δ1, b2, _, G.later g1, h2, fun w F2 H2 g2 w2 => ?_⟩
      obtain ⟨p1, vs, rfl, q, rs⟩ := w2.rv.seq g2.fh h3
      have ev := strs_rep rs h4
      subst ev
      rw [C.k]
      exact ⟨a, p1, ys, rfl, rfl, q, Nat.le_trans hc (by decide), k _ F2 H2 (g1.trans g2) (.str _)⟩
    · cases hm

/-! ### dicts -/
def dctB (a b : B) : Option B := (dctOf a).bind fun p => (toKK p.1 b.d).bind fun k => (dGet p.1 p.2 k).bind fun d => some (.f d)
def rDct : R2 := fun x y H Q => ∃ a v, x = .ref a ∧ DGet H a y (some v) ∧ Q v H
theorem ix_dct {X : Cx} (hu : X.A.units + 1 < cLine) : IxR X rDct := fun value slice pp s0 σ H x y v u Q I rx ry ⟨a, z, ex, g, q⟩ hs => by
  subst ex
  obtain rfl : v = Value.ref a := rx
  exact tail_any (dict_typeIs I g) PySem.F.slot_dict_getitem.lookup (d_getItem hu I g ry fun w' s3 I3 rw' => ⟨z, H, I3, rw', q⟩) hs
theorem op2_dct : Op2 W rDct dctB := fun F H δ x y b1 b2 b e dr r1 r2 hg H₀ Q k => by
  obtain ⟨⟨t, kvs⟩, h1, hg⟩ := Option.bind_eq_some_iff.mp hg
  obtain ⟨kk, h2, hg⟩ := Option.bind_eq_some_iff.mp hg
  obtain ⟨d, h3, hg⟩ := Option.bind_eq_some_iff.mp hg
  cases hg
  obtain ⟨a, rfl, q⟩ := r1.dct e h1
  rcases dGet_at e q r2 h2 with ⟨v, d', g1, g2, g3⟩ | ⟨g1, g2⟩
  · rw [h3] at g2
    cases g2
    exact ⟨a, v, rfl, g1, fin e dr g3 k⟩
  · rw [h3] at g2; cases g2
/-- of a list, a tuple, a text, a dict -/
def ixB : B → B → Option B := orB dctB ixA
theorem lkIxB (C : Cok W n X) (ha : PE X e (tX W ma)) (hb : PE X e2 (tX W mb)) (hp : PlainIx e2 := by exact fun _ _ => rfl) : PE X (.Subscript e e2 pos) (tX W (s2 ixB ma mb)) :=
  lkIx (ixOr (ix_dct (un1 C)) ix_seq) (op2_dct.or (by unfold rIx; rw [C.k]; exact op2_ixL.or (op2_ixT.or op2_ixS))) ha hb hp
end
end Py
/-! Layer, part M: dicts that are made and written. -/
namespace Py
open PySem L2 PyProof.Rows
def keyOf (t : Bool) (k : List Key) : D := if t then .tup (k.map keyD) else match k with
  | [a] => keyD a
  | _ => .non
def dPut (t : Bool) (kvs : List (D × D)) (k : List Key) (d : D) : List (D × D) :=
  if (kvs.any fun p => decide (toKK t p.1 = some k)) = true then kvs.map (fun p => if toKK t p.1 = some k then (p.1, d) else p) else kvs ++ [(keyOf t k, d)]
section
variable {W : Wd} {F H : Hp}
theorem put_k {k : Key} {v : V} {d : D} (rv : Rep W F v d) {kvs : List (D × D)} {ks : List (Key × V)} (h : (kvs.map (·.1)) = (ks.map fun p => keyD p.1)) (r : Reps W F (ks.map (·.2)) (kvs.map (·.2))) :
    ((dPut false kvs [k] d).map (·.1)) = ((putK ks k v).map fun p => keyD p.1) ∧ Reps W F ((putK ks k v).map (·.2)) ((dPut false kvs [k] d).map (·.2)) := by
  have any : ∀ {kvs : List (D × D)} {ks : List (Key × V)}, (kvs.map (·.1)) = (ks.map fun p => keyD p.1) → (kvs.any fun p => decide (toKK false p.1 = some [k])) = (ks.any fun p => decide (p.1 = k)) := by
    intro kvs
    induction kvs with
    | nil => intro ks h; cases ks with
      | nil => rfl
      | cons _ _ => cases h
    | cons p kvs ih => intro ks h; cases ks with
      | nil => cases h
      | cons q ks =>
        simp only [List.map_cons, List.cons.injEq] at h
        rw [List.any_cons, List.any_cons, ih h.2, h.1, toKK_k]
        simp
  have rep : ∀ {kvs : List (D × D)} {ks : List (Key × V)}, (kvs.map (·.1)) = (ks.map fun p => keyD p.1) → Reps W F (ks.map (·.2)) (kvs.map (·.2)) →
      ((kvs.map (fun p => if toKK false p.1 = some [k] then (p.1, d) else p)).map (·.1)) = ((ks.map fun p => if p.1 = k then (p.1, v) else p).map fun p => keyD p.1) ∧ Reps W F ((ks.map fun p => if p.1 = k then (p.1, v) else p).map (·.2)) ((kvs.map (fun p => if toKK false p.1 = some [k] then (p.1, d) else p)).map (·.2)) := by
    intro kvs
    induction kvs with
    | nil => intro ks h r; cases ks with
      | nil => exact ⟨rfl, .nil⟩
      | cons _ _ => cases h
    | cons p kvs ih => intro ks h r; cases ks with
      | nil => cases h
      | cons q ks =>
        simp only [List.map_cons, List.cons.injEq] at h
        cases r with
        | cons r1 rs =>
          obtain ⟨i1, i2⟩ := ih h.2 rs
          have hk : toKK false p.1 = some [q.1] := by rw [h.1]; exact toKK_k _
          by_cases e : q.1 = k
          · have e2 : toKK false p.1 = some [k] := by rw [hk, e]
            simp only [List.map_cons, if_pos e, if_pos e2]
            exact ⟨by rw [i1, h.1], .cons rv i2⟩
          · have e2 : ¬ toKK false p.1 = some [k] := by rw [hk]; simpa using e
            simp only [List.map_cons, if_neg e, if_neg e2]
            exact ⟨by rw [i1, h.1], .cons r1 i2⟩
  unfold dPut putK
  rw [any h]
  by_cases e : (ks.any fun p => decide (p.1 = k)) = true
  · rw [if_pos e, if_pos e]
    exact rep h r
  · rw [if_neg e, if_neg e, List.map_append, List.map_append, List.map_append, List.map_append, h]
    exact ⟨rfl, r.append (.cons rv .nil)⟩
theorem put_t {k : List Key} {v : V} {d : D} (rv : Rep W F v d) {kvs : List (D × D)} {ks : List (List Key × V)} (h : (kvs.map (·.1)) = (ks.map fun p => D.tup (p.1.map keyD))) (r : Reps W F (ks.map (·.2)) (kvs.map (·.2))) :
    ((dPut true kvs k d).map (·.1)) = ((putK ks k v).map fun p => D.tup (p.1.map keyD)) ∧ Reps W F ((putK ks k v).map (·.2)) ((dPut true kvs k d).map (·.2)) := by
  have any : ∀ {kvs : List (D × D)} {ks : List (List Key × V)}, (kvs.map (·.1)) = (ks.map fun p => D.tup (p.1.map keyD)) → (kvs.any fun p => decide (toKK true p.1 = some k)) = (ks.any fun p => decide (p.1 = k)) := by
    intro kvs
    induction kvs with
    | nil => intro ks h; cases ks with
      | nil => rfl
      | cons _ _ => cases h
    | cons p kvs ih => intro ks h; cases ks with
      | nil => cases h
      | cons q ks =>
        simp only [List.map_cons, List.cons.injEq] at h
        rw [List.any_cons, List.any_cons, ih h.2, h.1, toKK_t]
        simp
  have rep : ∀ {kvs : List (D × D)} {ks : List (List Key × V)}, (kvs.map (·.1)) = (ks.map fun p => D.tup (p.1.map keyD)) → Reps W F (ks.map (·.2)) (kvs.map (·.2)) →
      ((kvs.map (fun p => if toKK true p.1 = some k then (p.1, d) else p)).map (·.1)) = ((ks.map fun p => if p.1 = k then (p.1, v) else p).map fun p => D.tup (p.1.map keyD)) ∧ Reps W F ((ks.map fun p => if p.1 = k then (p.1, v) else p).map (·.2)) ((kvs.map (fun p => if toKK true p.1 = some k then (p.1, d) else p)).map (·.2)) := by
    intro kvs
    induction kvs with
    | nil => intro ks h r; cases ks with
      | nil => exact ⟨rfl, .nil⟩
      | cons _ _ => cases h
    | cons p kvs ih => intro ks h r; cases ks with
      | nil => cases h
      | cons q ks =>
        simp only [List.map_cons, List.cons.injEq] at h
        cases r with
        | cons r1 rs =>
          obtain ⟨i1, i2⟩ := ih h.2 rs
          have hk : toKK true p.1 = some q.1 := by rw [h.1]; exact toKK_t _
          by_cases e : q.1 = k
          · have e2 : toKK true p.1 = some k := by rw [hk, e]
            simp only [List.map_cons, if_pos e, if_pos e2]
            exact ⟨by rw [i1, h.1], .cons rv i2⟩
          · have e2 : ¬ toKK true p.1 = some k := by rw [hk]; simpa using e
            simp only [List.map_cons, if_neg e, if_neg e2]
            exact ⟨by rw [i1, h.1], .cons r1 i2⟩
  unfold dPut putK
  rw [any h]
  by_cases e : (ks.any fun p => decide (p.1 = k)) = true
  · rw [if_pos e, if_pos e]
    exact rep h r
  · rw [if_neg e, if_neg e, List.map_append, List.map_append, List.map_append, List.map_append, h]
    exact ⟨rfl, r.append (.cons rv .nil)⟩
theorem DctAt.own {a : Addr} {t : Bool} {kvs : List (D × D)} : DctAt W F H a t kvs ↔ Own W F H a (.dct t kvs) := by cases t <;> exact Iff.rfl
theorem DctAt.mono {F' H' : Hp} {a : Addr} (e : Ext F F') (h : H' a = H a) {t : Bool} {kvs : List (D × D)} (q : DctAt W F H a t kvs) : DctAt W F' H' a t kvs := DctAt.own.mpr ((DctAt.own.mp q).mono e h)
/-- the dict at a, written -/
theorem dPut_at {a : Addr} {x v : V} {t : Bool} {kvs : List (D × D)} {kd d : D} {k : List Key} (e : Ext F H) (q : DctAt W F H a t kvs) (r : Rep W H x kd) (hk : toKK t kd = some k) (rv : Rep W F v d) (hc : kvs.length ≤ cap) :
    ∃ o, DPut H a x v (upd H a o) ∧ DctAt W F (upd H a o) a t (dPut t kvs k d) := by
  cases t with
  | false =>
    obtain ⟨ks, hh, h1, h2⟩ := q
    have : ∃ kk, toKey kd = some kk ∧ k = [kk] := by
      unfold toKK at hk
      split at hk
      · cases hk
      · obtain ⟨kk, z, hk⟩ := Option.bind_eq_some_iff.mp hk
        cases hk
        exact ⟨kk, z, rfl⟩
    obtain ⟨kk, z, rfl⟩ := this
    have ex := toKey_rep r z
    subst ex
    have hl : ks.length = kvs.length := by rw [← List.length_map (·.2), h2.length, List.length_map]
    obtain ⟨p1, p2⟩ := put_k (k := kk) rv h1 h2
    exact ⟨_, DPut.k hh (cap_lt (by rw [hl]; exact hc)), _, upd_same, p1, p2⟩
  | true =>
    obtain ⟨ks, hh, h1, h2⟩ := q
    cases r with
    | tup ha rs =>
      have hk : toKeys _ = some k := hk
      have ex := toKeys_rep rs hk
      subst ex
      have hl : ks.length = kvs.length := by rw [← List.length_map (·.2), h2.length, List.length_map]
      obtain ⟨p1, p2⟩ := put_t (k := k) rv h1 h2
      exact ⟨_, DPut.t hh ha (cap_lt (by rw [hl]; exact hc)), _, upd_same, p1, p2⟩
    | _ => cases hk
end
def ownD (ρ : En) (i : Nat) : Option (Bool × List (D × D)) := match ρ[i]? with
  | some (some (.o (.dct t kvs))) => some (t, kvs)
  | _ => none
theorem ownD_at {ρ : En} {i : Nat} {t : Bool} {kvs : List (D × D)} (h : ownD ρ i = some (t, kvs)) : ρ[i]? = some (some (.o (.dct t kvs))) := by
  unfold ownD at h
  split at h
  · next e => cases h; exact e
  · cases h
/-- x[k] = e, x an own dict -/
def sSetD (i : Nat) (mk me : Me) : MeS := fun ρ δ => (me ρ δ).bind fun p => if p.1.isW then none else (mk ρ p.2).bind fun q => (ownD ρ i).bind fun r => (toKK r.1 q.1.d).bind fun k =>
  if r.2.length ≤ cap then some (.nx (ρ.set i (some (.o (.dct r.1 (dPut r.1 r.2 k p.1.d))))) q.2) else none
section
variable {X : Cx} {W : Wd} {n : Nat} {o e v : Expr} {me mk : Me} {pos pos' p : Pos}
theorem setD_run {i : Nat} : ∀ D σ H, tS W (sSetD i mk me) D σ H → sDPut (tVar i) (tX W mk) (tX W me) D σ H := fun D σ H ⟨F₀, H₀, ρ, F, δ, r, G, hm, k⟩ => by
  obtain ⟨⟨b1, δ1⟩, h1, hm⟩ := Option.bind_eq_some_iff.mp hm
  cases hw : b1.isW with
  | true => simp [hw] at hm
  | false =>
    simp only [hw] at hm
    obtain ⟨⟨b2, δ2⟩, h2, hm⟩ := Option.bind_eq_some_iff.mp (show _ = _ from hm)
    obtain ⟨⟨t, kvs⟩, h3, hm⟩ := Option.bind_eq_some_iff.mp hm
    obtain ⟨kk, h4, hm⟩ := Option.bind_eq_some_iff.mp hm
    split at hm
    · next hc =>
      cases hm
      have hi := ownD_at h3
      refine ⟨F₀, H₀, ρ, F, δ, b1, δ1, G, h1, fun v F1 H1 g1 v1 => ?_⟩
      obtain ⟨F2, x2, g2, r2⟩ := v1.fix g1 hw
      have G2 := G.later g2
      obtain ⟨v', hv, a, q, f, n0, nd, ow⟩ := G2.sl i _ hi
      subst q
      refine ⟨_, hv, F₀, H₀, ρ, F2, δ1, b2, δ2, G2, h2, fun w F3 H3 g3 w3 => ?_⟩
      obtain ⟨f3, ow3⟩ := g3.own nd f ow
      obtain ⟨oo, d1, d2⟩ := dPut_at g3.fh (DctAt.own.mpr ow3) (w3.rv.rep g3.fh) h4 (r2.ext g3.ff) hc
      exact ⟨a, _, rfl, d1, k σ F3 _ (g2.ff.trans g3.ff) ((G2.later g3).write hi hv (DctAt.own.mp d2))⟩
    · cases hm
theorem lkSetD (C : Cok W n X) (i : Nat) {x : PySem.Str} {px : Pos} (hv : PE X v (tX W me)) (hk : PE X e (tX W mk)) (hN : X.N[i]? = some x := by rfl) (hx : Vis X.env.scope x := by first | exact Or.inl rfl | exact Or.inr (Or.inl rfl) | exact Or.inr (Or.inr rfl)) (hd : (x == ("__debug__" : PySem.Str)) = false := by decide) (hcd : (x == ("__classdict__" : PySem.Str)) = false := by decide)
    (hs : swapsWith v (some (.Subscript (.Name x px) e pos')) pos.line X.env = pure false := by rfl) : PS X (.Assign [.Subscript (.Name x px) e pos'] v pos) (tS W (sSetD i mk me)) :=
  psImp (ps_dput (un1 C) (pe_var hN hx hd hcd) hk hv hs) setD_run

/-! ### displays -/
theorem free_F {F H : Hp} {p : Addr} (e : Ext F H) (hp : H p = none) : F p = none := by
  cases q : F p with
  | none => rfl
  | some o => rw [e p o q] at hp; cases hp
def sDic0 (t : Bool) : Me := fun _ δ => some (.o (.dct t []), δ)
theorem lkDicK (C : Cok W n X) : PE X (.Dict [] [] pos) (tX W (sDic0 false)) := peImp pe_dnewK fun σ H Q ⟨F₀, H₀, ρ, F, δ, b, δ', G, hm, k⟩ => by
  cases hm
  exact fun p hp => k _ F _ (go_new G.go.fh G.go.dr hp) ⟨p, rfl, hp, free_F G.go.fh hp, G.go.dr.not hp, [], upd_same, rfl, .nil⟩
theorem lkDicT (C : Cok W n X) : PE X (.Dict [] [] pos) (tX W (sDic0 true)) := peImp pe_dnewT fun σ H Q ⟨F₀, H₀, ρ, F, δ, b, δ', G, hm, k⟩ => by
  cases hm
  exact fun p hp => k _ F _ (go_new G.go.fh G.go.dr hp) ⟨p, rfl, hp, free_F G.go.fh hp, G.go.dr.not hp, [], upd_same, rfl, .nil⟩
/-- a store in a dict, as a display stores -/
theorem d_set {pp : List (Addr × Obj)} {σ : L2.St} {H H' : Hp} {s : Shared} {a : Addr} {y v : V} {u r : Value} {A : Around} {E : Value → Shared → Prop} {Q : Unit → Shared → Prop} (hu : A.units + 1 < cLine) (I : Inv X pp σ H s) (g : DPut H a y v H') (ry : RelV y u) (rv : RelV v r) (h : ∀ s', Inv X pp σ H' s' → Q () s') :
    wpAny (model X.prog X.w) A (dictSet a u r) Q E s := by
  rcases g with ⟨kvs, k, e, ey, l, eH⟩ | ⟨kvs, k, b, e, ey, eb, l, eH⟩
  · subst ey eH
    obtain ⟨z, hd, vs, rel, dd⟩ := dk_of I.hok e
    have hl : (putK kvs k v).length ≤ sizeLine := by have := length_putK kvs k v; omega
    have hz : vs.length ≤ sizeLine := rel.length ▸ z
    refine wpAny_dictSet_pairs (hsz := hz) (kV_is ry) dd fun h' d2 hs => h _ ?_
    exact d_write I (by rw [e]; exact True.intro) hs (let ⟨q, _, _, hq, _⟩ := d2; ⟨q, hq⟩) (dk_new hl hd (rel.put k rv) d2)
  · subst ey eH
    obtain rfl : u = Value.ref b := ry
    obtain ⟨z, hd, xs, rel, dd⟩ := dt_of I.hok e
    have hl : (putK kvs k v).length ≤ sizeLine := by have := length_putK kvs k v; omega
    have hz : xs.length ≤ sizeLine := Paired.length rel ▸ z
    refine wpAny_dictSet_heap (hsz := hz) (Nat.lt_of_succ_lt hu) (key_of I.hok eb) dd fun h' d2 hs => h _ ?_
    obtain ⟨q, es, ep, hq, h2, h3, h4, _, h5⟩ := d2
    refine d_write I (by rw [e]; exact True.intro) hs ⟨q, hq⟩ ⟨hl, hd, _, (rel.put k eb rv).keeps fun c ys ec => ?_, q, es, ep, hq, h2, h3, h4, h5⟩
    rw [upd_ne (ne_of ec e (fun z => nomatch z))]
    exact ec
def sPairs : List (Me × Me) → En → DS → Option (List (D × D) × DS)
  | [], _, δ => some ([], δ)
  | (mk, mv) :: r, ρ, δ => (mk ρ δ).bind fun p => if p.1.isW then none else (mv ρ p.2).bind fun q => if q.1.isW then none else (sPairs r ρ q.2).bind fun z => some ((p.1.d, q.1.d) :: z.1, z.2)
abbrev trsOf (W : Wd) (l : List (Me × Me)) : List (TE × TE) := l.map fun p => (tX W p.1, tX W p.2)
theorem pairs_run {F₀ H₀ : Hp} : ∀ (ms : List (Me × Me)) (σ : L2.St) (ρ : En) (F H : Hp) (δ δ' : DS) (kvs : List (D × D)) (Q : List (V × V) → Hp → Prop), Good W F₀ H₀ σ ρ F H δ → sPairs ms ρ δ = some (kvs, δ') →
    (∀ ps F' H', Go W F H F' H' δ' → Paired (fun p q => Rep W F' p.1 q.1 ∧ Rep W F' p.2 q.2) ps kvs → Q ps H') → tPairs (trsOf W ms) σ H Q
  | [], σ, ρ, F, H, δ, δ', kvs, Q, G, hm, k => by
    cases hm
    exact k [] F H (.refl G.go.fh G.go.dr) .nil
  | (mk, mv) :: r, σ, ρ, F, H, δ, δ', kvs, Q, G, hm, k => by
    obtain ⟨⟨b1, δ1⟩, h1, hm⟩ := Option.bind_eq_some_iff.mp (show (mk ρ δ).bind _ = _ from hm)
    cases hw : b1.isW with
    | true => simp [hw] at hm
    | false =>
      simp only [hw] at hm
      obtain ⟨⟨b2, δ2⟩, h2, hm⟩ := Option.bind_eq_some_iff.mp (show _ = _ from hm)
      cases hw2 : b2.isW with
      | true => simp [hw2] at hm
      | false =>
        simp only [hw2] at hm
        obtain ⟨⟨zs, δ3⟩, h3, hm⟩ := Option.bind_eq_some_iff.mp (show _ = _ from hm)
        cases hm
        refine ⟨F₀, H₀, ρ, F, δ, b1, δ1, G, h1, fun x F1 H1 g1 v1 => ?_⟩
        obtain ⟨F2, x2, g2, r2⟩ := v1.fix g1 hw
        refine ⟨F₀, H₀, ρ, F2, δ1, b2, δ2, G.later g2, h2, fun y F3 H3 g3 v3 => ?_⟩
        obtain ⟨F4, x4, g4, r4⟩ := v3.fix g3 hw2
        exact pairs_run r σ ρ F4 H3 δ2 _ zs _ (G.later (g2.trans g4)) h3 fun ps F5 H5 g5 rp => k _ F5 H5 ((g2.trans g4).trans g5) (.cons ⟨r2.ext (g4.ff.trans g5.ff), r4.ext g5.ff⟩ rp)
def putsD (t : Bool) : List (D × D) → List (D × D) → Option (List (D × D))
  | acc, [] => some acc
  | acc, (kd, d) :: r => (toKK t kd).bind fun k => putsD t (dPut t acc k d) r
def sDisp (t : Bool) (ms : List (Me × Me)) : Me := fun ρ δ => (sPairs ms ρ δ).bind fun p => (putsD t [] p.1).bind fun kvs => if p.1.length ≤ 15 then some (.o (.dct t kvs), p.2) else none
theorem dPut_len (t : Bool) (kvs : List (D × D)) (k : List Key) (d : D) : (dPut t kvs k d).length ≤ kvs.length + 1 := by
  unfold dPut
  split
  · rw [List.length_map]; omega
  · rw [List.length_append]; exact Nat.le_refl _
theorem store_run {F : Hp} {t : Bool} {δ : DS} {a : Addr} {pp : List (Addr × Obj)} {σ : L2.St} {A : Around} {E : Value → Shared → Prop} {Q : PUnit → Shared → Prop} (hu : A.units + 1 < cLine) (nd : ¬ W.dr a) (fa : F a = none) (ps : List (V × V)) :
    ∀ (kvs acc out : List (D × D)) (vs : List (Value × Value)) (H : Hp) (s : Shared), Ext F H → Dr W H δ → Inv X pp σ H s → VV ps vs → Paired (fun (p : V × V) (q : D × D) => Rep W F p.1 q.1 ∧ Rep W F p.2 q.2) ps kvs → DctAt W F H a t acc → putsD t acc kvs = some out → acc.length + kvs.length ≤ 15 →
    (∀ H' s', Inv X pp σ H' s' → Ext F H' → Dr W H' δ → (∀ b, b ≠ a → H' b = H b) → DctAt W F H' a t out → Q PUnit.unit s') → wpAny (model X.prog X.w) A (storeAll a vs) Q E s := by
  induction ps with
  | nil =>
    intro kvs acc out vs H s e dr I rel rp q hp hl k
    cases rel
    cases rp
    cases hp
    unfold storeAll
    rw [List.forIn_nil]
    exact wpAny_pure (k H s I e dr (fun _ _ => rfl) q)
  | cons p ps ih =>
    intro kvs acc out vs H s e dr I rel rp q hp hl k
    cases rel with
    | @cons _ w _ ws rw1 rr =>
      cases rp with
      | @cons _ c _ cs rc1 rc =>
        obtain ⟨kd, d⟩ := c
        obtain ⟨c1, c2⟩ := rc1
        obtain ⟨kk, h1, hp⟩ := Option.bind_eq_some_iff.mp (show (toKK t kd).bind _ = _ from hp)
        rw [List.length_cons] at hl
        obtain ⟨oo, d1, d2⟩ := dPut_at e q (c1.ext e) h1 c2 (Nat.le_trans (show acc.length ≤ 15 by omega) (by decide))
        have e1 : Ext F (upd H a oo) := fun b u z => by rw [upd_ne (ne_of_none z fa)]; exact e b u z
        have dr1 : Dr W (upd H a oo) δ := fun on => by
          have z := dr on
          have w1 : W.ad ≠ a := fun y => nd ⟨on, .inl y.symm⟩
          have w2 : W.al ≠ a := fun y => nd ⟨on, .inr y.symm⟩
          have w3 : W.ac ≠ a := fun y => by
            have zc := z.c
            rw [y] at zc
            cases t with
            | false => obtain ⟨ks, hh, _⟩ := q; rw [hh] at zc; cases zc
            | true => obtain ⟨ks, hh, _⟩ := q; rw [hh] at zc; cases zc
          exact ⟨by rw [upd_ne w1]; exact z.d, by rw [upd_ne w2]; exact z.l, by rw [upd_ne w3]; exact z.c, z.lc, z.r0, z.m0, z.lg, z.ne⟩
        have hl2 := dPut_len t acc kk d
        have nx : ∀ s1, Inv X pp σ (upd H a oo) s1 → wpAny (model X.prog X.w) A (storeAll a ws) Q E s1 := fun s1 I1 =>
          ih cs _ out ws (upd H a oo) s1 e1 dr1 I1 rr rc d2 hp (by show (dPut t acc kk d).length + cs.length ≤ 15; omega) fun H' s' I' e' dr' ne q' => k H' s' I' e' dr' (fun b hb => (ne b hb).trans (upd_ne hb)) q'
        unfold storeAll at nx ⊢
        rw [List.forIn_cons]
        exact wpAny_bind (wpAny_bind (d_set hu I d1 rw1.1 rw1.2 fun s1 I1 => wpAny_pure (nx s1 I1)))
theorem lkDisp (C : Cok W n X) (t : Bool) {ms : List (Me × Me)} {keys : List (Option Expr)} {values : List Expr} (h : PPs X pos keys values (trsOf W ms)) (hall : keys.all (·.isSome) = true := by rfl) (hl : keys.length = values.length := by rfl) (h0 : keys ≠ [] := by exact fun z => nomatch z)
    (h15 : keys.length ≤ 15 := by decide) : PE X (.Dict keys values pos) (tX W (sDisp t ms)) := by
  refine ⟨fun pp s σ H Q I ⟨F₀, H₀, ρ, F, δ, b, δ', G, hm, k⟩ => ?_⟩
  obtain ⟨⟨kvs, δ1⟩, h1, hm⟩ := Option.bind_eq_some_iff.mp hm
  obtain ⟨out, h2, hm⟩ := Option.bind_eq_some_iff.mp hm
  split at hm
  case isFalse => cases hm
  next hc =>
  cases hm
  have hn := I.hok.fresh (Nat.le_refl s.heap.objs.size)
  have ob : ∃ o0, ObjOk X.prog X.w (upd H s.heap.objs.size o0) (s.heap.push { cls := .type "dict", data := .dict #[] }) s.heap.objs.size o0 ∧ DctAt W F (upd H s.heap.objs.size o0) s.heap.objs.size t [] := by
    cases t with
    | false => exact ⟨.dK [], dk_empty s.heap I.big, [], upd_same, rfl, .nil⟩
    | true => exact ⟨.dT [], dt_empty s.heap I.big, [], upd_same, rfl, .nil⟩
  obtain ⟨o0, ob1, ob2⟩ := ob
  have I1 := I.laid (a := s.heap.objs.size) (o := o0) (h' := s.heap.push { cls := .type "dict", data := .dict #[] }) (t' := s.toks) (fun _ _ q => Heap.get?_push_of_some _ q) (Nat.le_refl _) ob1
  have g0 := go_new (o := o0) G.go.fh G.go.dr hn
  have key := h.run pp { s with heap := s.heap.push { cls := .type "dict", data := .dict #[] }, toks := s.toks } σ _ (fun ps H' => ∀ (s2 : Shared) (ws : List (Value × Value)), Inv X pp σ H' s2 → VV ps ws → wpAny (model X.prog X.w) X.A (storeAll s.heap.objs.size ws) (fun _ s3 => EP X pp σ Q (.ref s.heap.objs.size) s3) X.xe s2) I1
    (pairs_run ms σ ρ F _ δ _ kvs _ (G.later g0) h1 fun ps F' H' g' rp s2 ws I2 rel => by
      have nd := G.go.dr.not hn
      have fa := free_F G.go.fh hn
      obtain ⟨f', ow'⟩ := g'.own nd fa (DctAt.own.mp ob2)
      refine store_run (F := F') (un1 C) nd f' ps kvs [] out ws H' s2 g'.fh g'.dr I2 rel rp (DctAt.own.mpr ow') h2 (by simpa using hc) fun H3 s3 I3 e3 dr3 ne q3 => ?_
      have gg := g0.trans g'
      refine ⟨.ref s.heap.objs.size, H3, I3, rfl, k _ F' H3 { ff := gg.ff, fh := e3, nw := gg.nw, dr := dr3, hh := fun b u z nz => ?_ } ⟨_, rfl, hn, f', nd, DctAt.own.mp q3⟩⟩
      rw [ne b (fun y => by subst y; rw [hn] at z; cases z)]
      exact gg.hh b u z nz)
  exact wpAny_Dict_any hall hl h0 h15 (thn key fun ws s2 ⟨ps, H2, I2, rel, q2⟩ => q2 s2 ws I2 rel)
end
end Py
/-! Layer, part N: defs; own classes. -/
namespace Py
open PySem L2 PyProof.Rows

/-! ### a def's meaning -/
def en0 (nn : Nat) (ds : List D) : En := ds.map (fun d => some (B.f d)) ++ List.replicate (nn - ds.length) none
def fnM (nn : Nat) (mb : MeS) : Fn := fun ds δ => (mb (en0 nn ds) δ).bind fun r => match r with
  | .rt b δ' => some (b, δ')
  | .nx _ δ' => some (.f .non, δ')
  | _ => none
theorem start_get {N : List PySem.Str} {vs : List V} {i : Nat} {v : V} (h : vs[i]? = some v) : (L2.start N vs)[i]? = some (some v) := by
  unfold L2.start
  have hl : i < vs.length := (List.getElem?_eq_some_iff.mp h).1
  rw [List.getElem?_append_left (by rw [List.length_map]; exact hl), List.getElem?_map, h]
  rfl
theorem en0_get {nn : Nat} {ds : List D} {i : Nat} {b : B} (h : (en0 nn ds)[i]? = some (some b)) : ∃ d, ds[i]? = some d ∧ b = .f d := by
  unfold en0 at h
  by_cases hl : i < ds.length
  · rw [List.getElem?_append_left (by rw [List.length_map]; exact hl), List.getElem?_map] at h
    cases e : ds[i]? with
    | none => rw [e] at h; cases h
    | some d => rw [e] at h; cases h; exact ⟨d, rfl, rfl⟩
  · rw [List.getElem?_append_right (by rw [List.length_map]; omega), List.getElem?_replicate] at h
    split at h <;> cases h
theorem start_len {N : List PySem.Str} {vs : List V} : (L2.start N vs).length = vs.length + (N.length - vs.length) := by
  unfold L2.start
  rw [List.length_append, List.length_map, List.length_replicate]
theorem en0_len {nn : Nat} {ds : List D} : (en0 nn ds).length = ds.length + (nn - ds.length) := by
  unfold en0
  rw [List.length_append, List.length_map, List.length_replicate]
theorem Good.start {W : Wd} {F H : Hp} {δ : DS} {vs : List V} {ds : List D} {N : List PySem.Str} (e : Ext F H) (d : Dr W H δ) (dn : ∀ a, W.dr a → F a = none) (r : Reps W F vs ds) : Good W F H (L2.start N vs) (en0 N.length ds) F H δ where
  go := .refl e d
  d0 := ⟨δ, d⟩
  f0 := dn
  len := by rw [start_len, en0_len, r.length]
  sl := fun i b h => by
    obtain ⟨d, hd, rfl⟩ := en0_get h
    obtain ⟨v, hv, rv⟩ := r.getD hd
    exact ⟨v, start_get hv, rv⟩
  sep := fun i j a d1 d2 h1 _ _ _ => by
    obtain ⟨d, hd, z⟩ := en0_get h1
    cases z
theorem fn_run {W : Wd} {n : Nat} {mb : MeS} {N : List PySem.Str} {vs : List V} {H : Hp} {Q : VK} {E : XK} (h : spF W n (fnM N.length mb) vs H Q E) : tS W mb { nx := fun _ H' => Q .non H', rt := Q } (L2.start N vs) H := by
  obtain ⟨F, δ, ds, b, δ', hl, e, d, dn, r, hw, hm, k⟩ := h
  obtain ⟨o, h1, hm⟩ := Option.bind_eq_some_iff.mp hm
  refine ⟨F, H, en0 N.length ds, F, δ, o, .start e d dn r, h1, ?_⟩
  cases o with
  | nx ρ δ2 => cases hm; exact fun σ' F' H' x G => k .non F' H' G.go .non
  | rt b2 δ2 => cases hm; exact ⟨hw, fun v F' H' g v' => k v F' H' g v'⟩
  | bk ρ δ2 => cases hm
  | ct ρ δ2 => cases hm
section
variable {P : Program} {w : World} {W : Wd} {mg : PySem.Str → Option Value} {base : Heap} {f : Addr} {fd : FuncData} {x qual : PySem.Str} {params : Arguments} {body : List Stmt} {scope : Scope} {N ps : List PySem.Str} {k n : Nat} {mb : MeS}
/-- a def keeps its meaning's promise -/
theorem fkFn (F : FunD W.K x qual params body scope [] [] f fd) (S : FnScope N ps scope) (hn : n = ps.length) (hb : ∀ (cdv : Value) (A : Around) (outer : List Env) (s : Shared) (H : Hp) (E : XK), Cok W k (cxOf CX0 P w W.K mg base N qual scope f cdv A outer s H E).nox →
      PSs (cxOf CX0 P w W.K mg base N qual scope f cdv A outer s H E).nox body (tS W mb)) : FnOk P w W.K mg base CX0 (k + 1) f fd ps (spF W n (fnM N.length mb)) :=
  F.ok S (spF_len hn) fun cdv A outer s H vs Q E hr h => ⟨_, PSs.nox (hb cdv A outer s H E ⟨rfl, rfl, hr, S.nd, PassesOwn.never⟩), fn_run h⟩
theorem fk0 (hn : n = ps.length) : FnOk P w W.K mg base CX0 0 f fd ps (spF W n fun _ _ => none) := ⟨spF_len hn, fun A outer s H args us vs Q E hr e0 hb r hsp => by
  obtain ⟨_, _, _, _, _, _, _, _, _, _, _, h, _⟩ := hsp
  cases h⟩
theorem fkOf {m : Fn} (F : FunD W.K x qual params body scope [] [] f fd) (G : FnOk P w W.K mg base CX0 k f fd ps (spF W n m)) (hm : mg x = some (.ref f)) (hb : Binds W.K fd ps []) : Fk P w mg base W k x n m := ⟨f, fd, ps, G, hm, F.kp, hb⟩
end

/-! ### own classes: attributes, properties, methods -/
/-- the class c of the text -/
structure Kl (W : Wd) (c : PySem.Str) (C : Addr) : Prop where
  at_ : W.cls c = some C
  cl : Cls W.K C
theorem zip_lookup {α β : Type} {F : α → β → Prop} {f : PySem.Str} : ∀ {vs : List (PySem.Str × α)} {ds : List β} {d : β}, ((vs.map (·.1)).zip ds).lookup f = some d → vs.length = ds.length → (∀ (i : Nat) v d, vs[i]? = some v → ds[i]? = some d → F v.2 d) → ∃ v, vs.lookup f = some v ∧ F v d
  | [], _, _, h, _, _ => by cases h
  | _ :: _, [], _, h, _, _ => by cases h
  | p :: vs, d0 :: ds, d, h, hl, hF => by
    obtain ⟨g, v⟩ := p
    simp only [List.map_cons, List.zip_cons_cons, List.lookup_cons] at h ⊢
    cases e : (f == g) with
    | true =>
      simp only [e] at h ⊢
      cases h
      exact ⟨v, rfl, hF 0 (g, v) _ rfl rfl⟩
    | false =>
      simp only [e] at h ⊢
      exact zip_lookup h (by simpa using hl) fun i v d h1 h2 => hF (i + 1) v d (by simpa using h1) (by simpa using h2)
theorem zip_lookup0 {α β : Type} {f : PySem.Str} : ∀ {vs : List (PySem.Str × α)} {ds : List β}, ((vs.map (·.1)).zip ds).lookup f = none → vs.length = ds.length → vs.lookup f = none
  | [], _, _, _ => rfl
  | _ :: _, [], _, hl => by cases hl
  | p :: vs, d0 :: ds, h, hl => by
    obtain ⟨g, v⟩ := p
    simp only [List.map_cons, List.zip_cons_cons, List.lookup_cons] at h ⊢
    cases e : (f == g) with
    | true => simp only [e] at h; cases h
    | false =>
      simp only [e] at h ⊢
      exact zip_lookup0 h (by simpa using hl)
section
variable {X : Cx} {W : Wd} {n k : Nat} {c f mn : PySem.Str} {C : Addr} {e o : Expr} {es : List Expr} {me : Me} {ms : MeL} {pos p apos : Pos} {m : Fn}
theorem ins_at {F H : Hp} {v : V} {fs : List (PySem.Str × D)} (e : Ext F H) (kl : Kl W c C) (r : Rep W F v (.ins c fs)) : ∃ a dx vs, v = .ref a ∧ H a = some (.ins C dx vs) ∧ (∀ f d, fs.lookup f = some d → ∃ v, vs.lookup f = some v ∧ Rep W F v d) ∧ (∀ f, fs.lookup f = none → vs.lookup f = none) := by
  cases r with
  | @ins a C2 dx _ vs ds hc q rs =>
    rw [kl.at_] at hc
    cases hc
    have hl : vs.length = ds.length := by rw [← rs.length, List.length_map]
    refine ⟨a, dx, vs, rfl, e _ _ q, fun f d h => zip_lookup h hl fun i v d h1 h2 => ?_, fun f h => zip_lookup0 h hl⟩
    obtain ⟨v', hv, rv⟩ := rs.getD h2
    rw [List.getElem?_map, h1] at hv
    cases hv
    exact rv
/-- e.f, an attribute of objects of the class c -/
def fldB (c f : PySem.Str) (b : B) : Option B := match b with
  | .f (.ins c' fs) => if c' = c then (fs.lookup f).bind fun d => some (.f d) else none
  | _ => none
theorem op1_fld (kl : Kl W c C) (na : NoAttr W.K C f) : Op1 W (fun x H Q => ∃ a C dx fs v, x = .ref a ∧ H a = some (.ins C dx fs) ∧ Cls W.K C ∧ NoAttr W.K C f ∧ fs.lookup f = some v ∧ Q v H) (fldB c f) := fun F H δ x b1 b e dr r1 hg H₀ Q k => by
  match b1, hg with
  | .f (.ins c' fs), hg =>
    have hg : (if c' = c then _ else _) = _ := hg
    by_cases hc : c' = c
    · subst hc
      rw [if_pos rfl] at hg
      obtain ⟨d, h1, hg⟩ := Option.bind_eq_some_iff.mp hg
      cases hg
      obtain ⟨a, dx, vs, rfl, ha, hl, _⟩ := ins_at e kl r1
      obtain ⟨v, hv, rv⟩ := hl f d h1
      exact ⟨a, C, dx, vs, v, rfl, ha, kl.cl, na, hv, fin e dr rv k⟩
    · rw [if_neg hc] at hg; cases hg
theorem lkFld (K : Cok W n X) (kl : Kl W c C) (na : NoAttr W.K C f) (he : PE X e (tX W me)) (hb : attributeBase e f X.env (eval e X.env) = eval e X.env := by rfl) : PE X (.Attribute e f pos) (tX W (s1 (fldB c f) me)) :=
  peImp (pe_fld he hb) fun σ H Q h => by
    rw [K.k]
    exact s1_run (op1_fld kl na) σ H Q h
/-- a def of one or more arguments, run on an object of the class c: a property's getter, a method -/
def sPrp (c : PySem.Str) (m : Fn) (me : Me) : Me := fun ρ δ => (me ρ δ).bind fun p => match p.1 with
  | .f (.ins c' fs) => if c' = c then (m [.ins c' fs] p.2).bind fun q => if q.1.isW then none else some q else none
  | _ => none
/-- a getter that keeps its promise -/
structure Gk (P : Program) (w : World) (mg : PySem.Str → Option Value) (base : Heap) (W : Wd) (k : Nat) (C : Addr) (f : PySem.Str) (m : Fn) : Prop where
  ex : ∃ p g fd ps, PropOf W.K C f p g ∧ FnOk P w W.K mg base CX0 k g fd ps (spF W 1 m) ∧ Binds W.K fd ps []
theorem lkPrp (K : Cok W n X) (kl : Kl W c C) (G : Gk X.prog X.w X.mg X.base W k C f m) (he : PE X e (tX W me)) (hk : k + 1 ≤ n) (hb : attributeBase e f X.env (eval e X.env) = eval e X.env := by rfl) : PE X (.Attribute e f pos) (tX W (sPrp c m me)) := by
  obtain ⟨pp, g, fd, ps, hp, F1, hbd⟩ := G.ex
  have cl := kl.cl
  rw [← K.k] at F1 hp hbd cl
  refine peImp (pe_prop he cl hp F1 (K.room.mono hk) hbd .nil (E := E0) (fun _ _ _ _ _ _ _ z => z.elim) hb) fun σ H Q ⟨F₀, H₀, ρ, F, δ, b, δ', G, hm, kq⟩ => ?_
  obtain ⟨⟨b1, δ1⟩, h1, hm⟩ := Option.bind_eq_some_iff.mp hm
  refine ⟨F₀, H₀, ρ, F, δ, b1, δ1, G, h1, fun x F1 H1 g1 v1 => ?_⟩
  match b1, hm, v1 with
  | .f (.ins c' fs), hm, v1 =>
    have hm : (if c' = c then _ else _) = _ := hm
    by_cases hc : c' = c
    · subst hc
      rw [if_pos rfl] at hm
      obtain ⟨⟨b2, δ2⟩, h2, hm⟩ := Option.bind_eq_some_iff.mp hm
      cases hw : b2.isW with
      | true => simp [hw] at hm
      | false =>
        simp only [hw] at hm
        cases hm
        obtain ⟨a, dx, vs, rfl, ha, _, _⟩ := ins_at g1.fh kl v1
        exact ⟨a, dx, vs, rfl, ha, F1, δ1, [.ins c' fs], b, _, rfl, g1.fh, g1.dr, (G.later g1).dn, .cons v1 .nil, hw, h2, fun v F2 H2 g2 v2 => kq v F2 H2 (g1.trans g2) ((v2.h0 hw).back g1)⟩
    · rw [if_neg hc] at hm; cases hm
def sMth (c mn : PySem.Str) (m : Fn) (me : Me) (ms : MeL) : Me := fun ρ δ => (me ρ δ).bind fun p => match p.1 with
  | .f (.ins c' fs) => if c' = c ∧ (fs.lookup mn).isNone then (ms ρ p.2).bind fun r => (m (.ins c' fs :: r.1) r.2).bind fun q => if q.1.isW then none else some q else none
  | _ => none
/-- a method that keeps its promise; n: with self -/
structure Mt (P : Program) (w : World) (mg : PySem.Str → Option Value) (base : Heap) (W : Wd) (k : Nat) (C : Addr) (mn : PySem.Str) (n : Nat) (m : Fn) : Prop where
  ex : ∃ g fd ps, Meth W.K C mn g ∧ FnOk P w W.K mg base CX0 k g fd ps (spF W n m) ∧ Binds W.K fd ps []
theorem mth_run {n : Nat} {E : XK} (kl : Kl W c C) (hn : ∀ ρ δ ds δ', ms ρ δ = some (ds, δ') → ds.length + 1 = n) : ∀ σ H Q, tX W (sMth c mn m me ms) σ H Q → tMeth C mn (spF W n m) [] E (tX W me) (tXA W ms) σ H Q := fun σ H Q ⟨F₀, H₀, ρ, F, δ, b, δ', G, hm, kq⟩ => by
  obtain ⟨⟨b1, δ1⟩, h1, hm⟩ := Option.bind_eq_some_iff.mp hm
  refine ⟨F₀, H₀, ρ, F, δ, b1, δ1, G, h1, fun x F1 H1 g1 v1 => ?_⟩
  match b1, hm, v1 with
  | .f (.ins c' fs), hm, v1 =>
    have hm1 : (if c' = c ∧ (fs.lookup mn).isNone = true then _ else _) = _ := hm
    by_cases hc : c' = c ∧ (fs.lookup mn).isNone = true
    · rw [if_pos hc] at hm1
      obtain ⟨hc, hl⟩ := hc
      obtain ⟨⟨ds, δ2⟩, h2, hm2⟩ := Option.bind_eq_some_iff.mp hm1
      obtain ⟨⟨b3, δ3⟩, h3, hm3⟩ := Option.bind_eq_some_iff.mp hm2
      clear hm hm1 hm2
      subst hc
      cases hw : b3.isW with
      | true => simp [hw] at hm3
      | false =>
        simp only [hw] at hm3
        cases hm3
        obtain ⟨a, dx, vs, rfl, ha, _, ha0⟩ := ins_at g1.fh kl v1
        refine ⟨a, dx, vs, rfl, ha, ha0 mn (by simpa using hl), F₀, H₀, ρ, F1, δ1, ds, δ2, G.later g1, h2, fun ws F2 H2 g2 r2 => ?_⟩
        refine ⟨F2, δ2, .ins c' fs :: ds, b, _, ?_, g2.fh, g2.dr, (G.later (g1.trans g2)).dn, .cons (Rep.ext g2.ff v1) (by rw [List.append_nil]; exact r2), hw, h3, fun v F3 H3 g3 v3 => kq v F3 H3 ((g1.trans g2).trans g3) ((v3.h0 hw).back (g1.trans g2))⟩
        exact hn _ _ _ _ h2
    · rw [if_neg hc] at hm1; cases hm1
theorem lkMth {pl : Sem Bool} (K : Cok W n X) (kl : Kl W c C) (G : Mt X.prog X.w X.mg X.base W k C mn (es.length + 2) m) (he : PE X o (tX W me)) (ha : PA X (e :: es) (tXA W ms)) (hn : ∀ ρ δ ds δ', ms ρ δ = some (ds, δ') → ds.length = es.length + 1) (hk : k ≤ n)
    (hst : starEach (e :: es) X.env = (false, eval e X.env) :: starEach es X.env := by rfl) (hpl : (backTo pos (starEach es X.env)).any (·.1) = false := by rfl)
    (ht : eval (.Call (.Attribute o mn apos) (e :: es) [] pos) X.env = (do
      let ov ← eval o X.env
      standAt apos.atName
      let (f, first) ← holding [ov] (getMethod ov mn pl)
      callWith pos f first (backTo pos (starEach (e :: es) X.env)) (backToKw pos (keywordEach [] X.env))) := by rfl) : PE X (.Call (.Attribute o mn apos) (e :: es) [] pos) (tX W (sMth c mn m me ms)) := by
  obtain ⟨g, fd, ps, hp, F1, hbd⟩ := G.ex
  have cl := kl.cl
  rw [← K.k] at F1 hp hbd cl
  exact peImp (pe_meth he cl hp F1 (K.room.mono hk) hbd .nil pass0 ha hst hpl ht) (mth_run kl fun ρ δ ds δ' z => by rw [hn ρ δ ds δ' z])
theorem lkMth0 {pl : Sem Bool} (K : Cok W n X) (kl : Kl W c C) (G : Mt X.prog X.w X.mg X.base W k C mn 1 m) (he : PE X o (tX W me)) (hk : k ≤ n)
    (ht : eval (.Call (.Attribute o mn apos) [] [] pos) X.env = (do
      let ov ← eval o X.env
      standAt apos.atName
      let (f, first) ← holding [ov] (getMethod ov mn pl)
      callWith pos f first (backTo pos (starEach [] X.env)) (backToKw pos (keywordEach [] X.env))) := by rfl) : PE X (.Call (.Attribute o mn apos) [] [] pos) (tX W (sMth c mn m me aNil)) := by
  obtain ⟨g, fd, ps, hp, F1, hbd⟩ := G.ex
  have cl := kl.cl
  rw [← K.k] at F1 hp hbd cl
  refine peImp (pe_meth0 he cl hp F1 (K.room.mono hk) hbd .nil pass0 ht) fun σ H Q h => ?_
  have q := mth_run (ms := aNil) (E := E0) (n := 1) kl (fun ρ δ ds δ' z => by rw [aNil_len _ _ _ _ z]) σ H Q h
  obtain ⟨F₀, H₀, ρ, F, δ, b, δ', G, hm, kq⟩ := q
  refine ⟨F₀, H₀, ρ, F, δ, b, δ', G, hm, fun x F1 H1 g1 v1 => ?_⟩
  obtain ⟨a, dx, fs, ex, ha, hl, F₀', H₀', ρ', F', δ2, ds, δ3, G2, h2, k2⟩ := kq x F1 H1 g1 v1
  cases h2
  exact ⟨a, dx, fs, ex, ha, hl, k2 [] F' H1 (.refl G2.go.fh G2.go.dr) .nil⟩
end
end Py
/-! Layer, part O: own classes made and subscripted; calls by name; stars; what is walked in pairs. -/
namespace Py
open PySem L2 PyProof.Rows

/-! ### __init__ -/
def enI (nn : Nat) (x : Addr) (c : PySem.Str) (ds : List D) : En := some (.o (.obj x c [])) :: en0 (nn - 1) ds
abbrev Fi := Addr → List D → DS → Option (List (PySem.Str × D) × DS)
def fiM (nn : Nat) (c : PySem.Str) (mb : MeS) : Fi := fun x ds δ => (mb (enI nn x c ds) δ).bind fun r => match r with
  | .nx ρ δ' => match ρ[0]? with
    | some (some (B.o (D.obj y c' fs))) => if y = x ∧ c' = c then some (fs, δ') else none
    | _ => none
  | _ => none
def spI (W : Wd) (c : PySem.Str) (n : Nat) (fi : Fi) : Sp := fun vs H Q _ => ∃ F₀ H₀ F δ x vs' ds fs δ', vs = .ref x :: vs' ∧ ds.length = n ∧ Go W F₀ H₀ F H δ ∧ (∃ δ₀, Dr W H₀ δ₀) ∧ (∀ a, W.dr a → F₀ a = none) ∧ F x = none ∧ H₀ x = none ∧ ¬ W.dr x ∧ Own W F H x (.obj x c []) ∧ Reps W F vs' ds ∧ fi x ds δ = some (fs, δ') ∧
  ∀ F' H', Go W F₀ H₀ F' H' δ' → F' x = none → Own W F' H' x (.obj x c fs) → Q .non H'
theorem spI_len {W : Wd} {c : PySem.Str} {n : Nat} {fi : Fi} {ps : List PySem.Str} (h : n + 1 = ps.length) : ∀ vs H Q E, spI W c n fi vs H Q E → vs.length = ps.length := fun vs H Q E ⟨_, _, _, _, x, vs', ds, _, _, e, hl, _, _, _, _, _, _, _, r, _⟩ => by
  rw [e, List.length_cons, r.length, hl, h]
theorem start_cons {N : List PySem.Str} {v : V} {vs : List V} (hN : 0 < N.length) : L2.start N (v :: vs) = some v :: (vs.map some ++ List.replicate (N.length - 1 - vs.length) none) := by
  unfold L2.start
  rw [List.map_cons, List.cons_append, List.length_cons]
  congr 3
  omega
theorem init_run {W : Wd} {c : PySem.Str} {n : Nat} {mb : MeS} {N : List PySem.Str} {vs : List V} {H : Hp} {Q : VK} {E : XK} (hN : 0 < N.length) (h : spI W c n (fiM N.length c mb) vs H Q E) : tS W mb { nx := fun _ H' => Q .non H', rt := Q } (L2.start N vs) H := by
  obtain ⟨F₀, H₀, F, δ, x, vs', ds, fs, δ', rfl, hl, g, d0, f0, fx, hx, nd, ow, r, hm, k⟩ := h
  obtain ⟨o, h1, hm⟩ := Option.bind_eq_some_iff.mp hm
  have G : Good W F₀ H₀ (L2.start N (.ref x :: vs')) (enI N.length x c ds) F H δ := by
    rw [start_cons hN]
    refine { go := g, d0 := d0, f0 := f0, len := ?_, sl := fun i b h => ?_, sep := fun i j a d1 d2 h1 h2 _ _ => ?_ }
    · unfold enI
      rw [List.length_cons, List.length_cons, en0_len, List.length_append, List.length_map, List.length_replicate, r.length]
    · cases i with
      | zero =>
        cases h
        exact ⟨_, rfl, x, rfl, fx, hx, nd, ow⟩
      | succ i =>
        obtain ⟨d, hd, rfl⟩ := en0_get (show (en0 (N.length - 1) ds)[i]? = some (some b) from h)
        obtain ⟨v, hv, rv⟩ := r.getD hd
        refine ⟨v, ?_, rv⟩
        show (vs'.map some ++ _)[i]? = _
        have hlt : i < vs'.length := (List.getElem?_eq_some_iff.mp hv).1
        rw [List.getElem?_append_left (by rw [List.length_map]; exact hlt), List.getElem?_map, hv]
        rfl
    · cases i with
      | zero => cases j with
        | zero => rfl
        | succ j => obtain ⟨d, _, z⟩ := en0_get (show (en0 (N.length - 1) ds)[j]? = _ from h2); cases z
      | succ i => obtain ⟨d, _, z⟩ := en0_get (show (en0 (N.length - 1) ds)[i]? = _ from h1); cases z
  refine ⟨F₀, H₀, _, F, δ, o, G, h1, ?_⟩
  cases o with
  | nx ρ δ2 =>
    intro σ' F' H' xe G'
    simp only at hm
    split at hm
    · next y c' fs' e =>
      split at hm
      · next hc =>
        cases hm
        obtain ⟨rfl, rfl⟩ := hc
        obtain ⟨v, hv, a, q, f, n0, nd', ow'⟩ := G'.sl 0 _ e
        obtain rfl : a = y := ow'.1
        exact k F' H' G'.go f ow'
      · cases hm
    · cases hm
  | rt b2 δ2 => cases hm
  | bk ρ δ2 => cases hm
  | ct ρ δ2 => cases hm
section
variable {P : Program} {w : World} {W : Wd} {mg : PySem.Str → Option Value} {base : Heap} {f : Addr} {fd : FuncData} {x qual c : PySem.Str} {params : Arguments} {body : List Stmt} {scope : Scope} {N ps : List PySem.Str} {k n : Nat} {mb : MeS}
theorem fkIn (F : FunD W.K x qual params body scope [] [] f fd) (S : FnScope N ps scope) (hn : n + 1 = ps.length) (hN : 0 < N.length) (hb : ∀ (cdv : Value) (A : Around) (outer : List Env) (s : Shared) (H : Hp) (E : XK), Cok W k (cxOf CX0 P w W.K mg base N qual scope f cdv A outer s H E).nox →
      PSs (cxOf CX0 P w W.K mg base N qual scope f cdv A outer s H E).nox body (tS W mb)) : FnOk P w W.K mg base CX0 (k + 1) f fd ps (spI W c n (fiM N.length c mb)) :=
  F.ok S (spI_len hn) fun cdv A outer s H vs Q E hr h => ⟨_, PSs.nox (hb cdv A outer s H E ⟨rfl, rfl, hr, S.nd, PassesOwn.never⟩), init_run hN h⟩
end
/-- self.f = e -/
def putFD (f : PySem.Str) (v : D) : List (PySem.Str × D) → List (PySem.Str × D)
  | [] => [(f, v)]
  | (g, x) :: r => if g = f then (g, v) :: r else (g, x) :: putFD f v r
theorem putFD_rep {W : Wd} {F : Hp} {f : PySem.Str} {v : V} {d : D} (rv : Rep W F v d) : ∀ {vs : List (PySem.Str × V)} {fs : List (PySem.Str × D)}, fs.map (·.1) = vs.map (·.1) → Reps W F (vs.map (·.2)) (fs.map (·.2)) → (putFD f d fs).map (·.1) = (putF f v vs).map (·.1) ∧ Reps W F ((putF f v vs).map (·.2)) ((putFD f d fs).map (·.2))
  | [], [], _, _ => ⟨rfl, .cons rv .nil⟩
  | [], _ :: _, h, _ => by cases h
  | _ :: _, [], h, _ => by cases h
  | (g, x) :: vs, (g2, y) :: fs, h, r => by
    simp only [List.map_cons, List.cons.injEq] at h
    obtain ⟨h1, h2⟩ := h
    subst h1
    cases r with
    | cons r1 rs =>
      unfold putFD putF
      by_cases e : g2 = f
      · rw [if_pos e, if_pos e]
        exact ⟨by simp [h2], .cons rv rs⟩
      · rw [if_neg e, if_neg e]
        obtain ⟨i1, i2⟩ := putFD_rep rv h2 rs
        exact ⟨by simp [i1], .cons r1 i2⟩
def ownO (ρ : En) (i : Nat) (c : PySem.Str) : Option (Addr × List (PySem.Str × D)) := match ρ[i]? with
  | some (some (.o (.obj a c' fs))) => if c' = c then some (a, fs) else none
  | _ => none
theorem ownO_at {ρ : En} {i : Nat} {c : PySem.Str} {a : Addr} {fs : List (PySem.Str × D)} (h : ownO ρ i c = some (a, fs)) : ρ[i]? = some (some (.o (.obj a c fs))) := by
  unfold ownO at h
  split at h
  · next e =>
    split at h
    · next hc => cases h; rw [← hc]; exact e
    · cases h
  · cases h
def sSetF (i : Nat) (c f : PySem.Str) (me : Me) : MeS := fun ρ δ => (me ρ δ).bind fun p => if p.1.isW then none else (ownO ρ i c).bind fun q => if q.2.length < 1000 then some (.nx (ρ.set i (some (.o (.obj q.1 c (putFD f p.1.d q.2))))) p.2) else none
section
variable {X : Cx} {W : Wd} {n k : Nat} {c f x : PySem.Str} {C : Addr} {e e2 o : Expr} {es : List Expr} {me ma mb : Me} {ms : MeL} {pos pos' p : Pos} {m : Fn} {fi : Fi}
theorem setF_run {i : Nat} (kl : Kl W c C) (na : NoAttr W.K C f) : ∀ D σ H, tS W (sSetF i c f me) D σ H → sFld W.K (tVar i) (tX W me) f D σ H := fun D σ H ⟨F₀, H₀, ρ, F, δ, r, G, hm, k⟩ => by
  obtain ⟨⟨b1, δ1⟩, h1, hm⟩ := Option.bind_eq_some_iff.mp hm
  cases hw : b1.isW with
  | true => simp [hw] at hm
  | false =>
    simp only [hw] at hm
    obtain ⟨⟨a0, fs⟩, h3, hm⟩ := Option.bind_eq_some_iff.mp (show _ = _ from hm)
    split at hm
    · next hc =>
      cases hm
      have hi := ownO_at h3
      refine ⟨F₀, H₀, ρ, F, δ, b1, δ1, G, h1, fun v F1 H1 g1 v1 => ?_⟩
      obtain ⟨F2, x2, g2, r2⟩ := v1.fix g1 hw
      have G2 := G.later g2
      obtain ⟨v', hv, a, q, f0, n0, nd, ea, C2, dx, vs, hC, ha, hn, hr⟩ := G2.sl i _ hi
      subst ea q
      rw [kl.at_] at hC
      cases hC
      obtain ⟨p1, p2⟩ := putFD_rep (f := f) r2 hn hr
      refine ⟨_, hv, _, C, dx, vs, rfl, ha, kl.cl, na, ?_, k σ F2 _ g2.ff (G2.write (d' := .obj a c (putFD f b1.d fs)) hi hv ⟨rfl, C, dx, _, kl.at_, upd_same, p1, p2⟩)⟩
      have : vs.length = fs.length := by rw [← List.length_map (·.1), ← hn, List.length_map]
      rw [this]; exact hc
    · cases hm
theorem lkSetF (K : Cok W n X) (kl : Kl W c C) (na : NoAttr W.K C f) (i : Nat) {px : Pos} (hv : PE X e (tX W me)) (hN : X.N[i]? = some x := by rfl) (hx : Vis X.env.scope x := by first | exact Or.inl rfl | exact Or.inr (Or.inl rfl) | exact Or.inr (Or.inr rfl)) (hd : (x == ("__debug__" : PySem.Str)) = false := by decide) (hcd : (x == ("__classdict__" : PySem.Str)) = false := by decide)
    (hs : swapsWith e (some (.Attribute (.Name x px) f pos')) pos.line X.env = pure false := by rfl) : PS X (.Assign [.Attribute (.Name x px) f pos'] e pos) (tS W (sSetF i c f me)) :=
  psImp (ps_fld (pe_var hN hx hd hcd) hv hs) fun D σ H h => by
    rw [K.k]
    exact setF_run kl na D σ H h

/-! ### C(..) -/
/-- the class's maker that keeps its promise; n: without self -/
structure Mk1 (P : Program) (w : World) (mg : PySem.Str → Option Value) (base : Heap) (W : Wd) (k : Nat) (c : PySem.Str) (C : Addr) (n : Nat) (fi : Fi) : Prop where
  ex : ∃ f fd ps, Mk W.K C f ∧ FnOk P w W.K mg base CX0 k f fd ps (spI W c n fi) ∧ Binds W.K fd ps []
  at_ : mg c = some (.ref C)
open Classical in
/-- made, where the address plays no part -/
noncomputable def fiS (fi : Fi) (ds : List D) (δ : DS) : Option (List (PySem.Str × D) × DS) := if ∀ x, fi x ds δ = fi 0 ds δ then fi 0 ds δ else none
theorem fiS_at {fi : Fi} {ds : List D} {δ : DS} {r : List (PySem.Str × D) × DS} (h : fiS fi ds δ = some r) (x : Addr) : fi x ds δ = some r := by
  unfold fiS at h
  split at h
  · next k => rw [k x]; exact h
  · cases h
theorem fiS_of {fi : Fi} {ds : List D} {δ : DS} {r : List (PySem.Str × D) × DS} (h : ∀ x, fi x ds δ = some r) : fiS fi ds δ = some r := by
  unfold fiS
  rw [if_pos (fun x => (h x).trans (h 0).symm)]
  exact h 0
noncomputable def sMk (c : PySem.Str) (fi : Fi) (ms : MeL) : Me := fun ρ δ => (ms ρ δ).bind fun p => (fiS fi p.1 p.2).bind fun q => some (.f (.ins c q.1), q.2)
theorem lkMk (K : Cok W n X) (kl : Kl W c C) (G : Mk1 X.prog X.w X.mg X.base W k c C (es.length + 1) fi) (ha : PA X (e :: es) (tXA W ms)) (hn : ∀ ρ δ ds δ', ms ρ δ = some (ds, δ') → ds.length = es.length + 1) (hk : k + 1 ≤ n) (hg : Gl X c := by rfl) (hdb : (c == ("__debug__" : PySem.Str)) = false := by decide)
    (he : starEach (e :: es) X.env = (false, eval e X.env) :: starEach es X.env := by rfl) (hpl : (backTo pos (starEach es X.env)).any (·.1) = false := by rfl) : PE X (.Call (.Name c p) (e :: es) [] pos) (tX W (sMk c fi ms)) := by
  obtain ⟨ff, fd, ps, M, F1, hb⟩ := G.ex
  rw [← K.k] at M F1 hb
  refine peImp (pe_make M F1 (K.room.mono hk) hg G.at_ hb .nil pass0 ha hdb he hpl) fun σ H Q ⟨F₀, H₀, ρ, F, δ, b, δ', GG, hm, kq⟩ => ?_
  obtain ⟨⟨ds, δ1⟩, h1, hm⟩ := Option.bind_eq_some_iff.mp hm
  obtain ⟨⟨fs, δ2⟩, h2, hm⟩ := Option.bind_eq_some_iff.mp hm
  cases hm
  refine ⟨F₀, H₀, ρ, F, δ, ds, δ1, GG, h1, fun vs F1 H1 g1 r1 x dx hx hdx ne => ?_⟩
  have ga := go_new (o := .own x) g1.fh g1.dr hdx
  have hx2 : upd H1 dx (.own x) x = none := by rw [upd_ne (fun z => ne z.symm)]; exact hx
  have gb := ga.trans (go_new (o := .ins C dx []) ga.fh ga.dr hx2)
  have fx := free_F g1.fh hx
  have nd := g1.dr.not hx
  rw [List.append_nil]
  refine ⟨F1, H1, F1, δ1, x, vs, ds, fs, _, rfl, hn _ _ _ _ h1, gb, ⟨_, g1.dr⟩, (GG.later g1).dn, fx, hx, nd, ⟨rfl, C, dx, [], kl.at_, upd_same, rfl, .nil⟩, r1, fiS_at h2 x, fun F' H' g' f' ow => ⟨rfl, ?_⟩⟩
  obtain ⟨_, C2, dx2, vs2, hC, ha2, hn2, hr2⟩ := ow
  have ho : ∃ o, H' x = some o := ⟨_, ha2⟩
  obtain ⟨F2, x2, g2, r2⟩ := Own.fix (d := .obj x c fs) g' hx f' ⟨rfl, C2, dx2, vs2, hC, ha2, hn2, hr2⟩
  have e2 : F2 x = some (.ins C2 dx2 vs2) := by
    cases r2 with
    | obj hc hF hr =>
      have z := g2.fh _ _ hF
      rw [ha2] at z
      rw [hF, z]
  have q := Rep.ins hC e2 (hr2.ext x2)
  rw [← hn2, zip_pair] at q
  exact kq _ F2 H' (g1.trans g2) q

/-! ### own __getitem__ -/
theorem pe_ownix {CX : CXT} {ta tb : TE} {f : Addr} {fd : FuncData} {ps : List PySem.Str} {sp : Sp} (ha : PE X e ta) (hb : PE X e2 tb) (hgi : PySem.W.findIn X.K (.ref C) "__getitem__" = some (some (.ref f))) (hf : PySem.W.fnIn X.K f = true) (hfn : PySem.W.isFn X.K (.ref f) = true)
    (F : FnOk X.prog X.w X.K X.mg X.base CX0 k f fd ps sp) (hr : Room (k + 1) X.A) (hbd : Binds X.K fd ps []) (hsl : ∀ o i, subscripted e2 true o i = runValue (.builtin "lifetime.subscript" ⟨[o, i], []⟩)) :
    PE X (.Subscript e e2 pos) (fun σ H Q => ta σ H fun x H1 => tb σ H1 fun y H2 => ∃ p dx fs, x = .ref p ∧ H2 p = some (.ins C dx fs) ∧ sp [x, y] H2 Q E0) := by
  refine ⟨fun pp s σ H Q I h => Subscript_ (thn (ha.run pp s σ H _ I h) fun u s1 ⟨x, H1, I1, rx, q1⟩ => thn (hb.run pp s1 σ H1 _ I1 q1) fun v s2 ⟨y, H2, I2, ry, p, dx, fs, ex, ea, q⟩ => ?_)⟩
  subst ex
  obtain rfl : u = Value.ref p := rx
  obtain ⟨mA, O, _, _, _, _⟩ := ins_get I2.hok ea
  obtain ⟨od, J, _⟩ := O.look
  obtain ⟨mm, fr⟩ := I2.fr
  have hl : ([Value.ref p, v] ++ ([] : List Value)).length = ps.length := F.len _ _ _ _ q
  refine PySem.W.sub_K fr I2.ok.mod.kin J hgi hf hfn (wpAny_call (codeAny_mono (F.run X.A.in1 X.stack s2 H2 ⟨[.ref p, v], []⟩ ([.ref p, v] ++ []) [.ref p, y] Q E0 hr.in1 I2.env0.in1 (hbd _ [.ref p, v] I2.kIn hl) (.cons rfl (.cons ry .nil)) q) fun r s' hq => ?_)) (hsl _ _)
  cases r with
  | error er => exact hq.elim
  | ok fl =>
    cases fl with
    | ret z => exact I2.after hq
    | next => exact hq.elim
    | brk => exact hq.elim
    | cont => exact hq.elim
structure Gi (P : Program) (w : World) (mg : PySem.Str → Option Value) (base : Heap) (W : Wd) (k : Nat) (C : Addr) (m : Fn) : Prop where
  ex : ∃ f fd ps, PySem.W.findIn W.K (.ref C) "__getitem__" = some (some (.ref f)) ∧ PySem.W.fnIn W.K f = true ∧ PySem.W.isFn W.K (.ref f) = true ∧ FnOk P w W.K mg base CX0 k f fd ps (spF W 2 m) ∧ Binds W.K fd ps []
def sOix (c : PySem.Str) (m : Fn) (ma mb : Me) : Me := fun ρ δ => (ma ρ δ).bind fun p => match p.1 with
  | .f (.ins c' fs) => if c' = c then (mb ρ p.2).bind fun r => if r.1.isW then none else (m [.ins c' fs, r.1.d] r.2).bind fun q => if q.1.isW then none else some q else none
  | _ => none
theorem lkOix (K : Cok W n X) (kl : Kl W c C) (G : Gi X.prog X.w X.mg X.base W k C m) (ha : PE X e (tX W ma)) (hb : PE X e2 (tX W mb)) (hk : k + 1 ≤ n) (hsl : ∀ o i, subscripted e2 true o i = runValue (.builtin "lifetime.subscript" ⟨[o, i], []⟩) := by exact fun _ _ => rfl) : PE X (.Subscript e e2 pos) (tX W (sOix c m ma mb)) := by
  obtain ⟨ff, fd, ps, h1, h2, h3, F1, hbd⟩ := G.ex
  rw [← K.k] at h1 h2 h3 F1 hbd
  refine peImp (pe_ownix ha hb h1 h2 h3 F1 (K.room.mono hk) hbd hsl (CX := CX0)) fun σ H Q ⟨F₀, H₀, ρ, F, δ, b, δ', GG, hm, kq⟩ => ?_
  obtain ⟨⟨b1, δ1⟩, h1, hm⟩ := Option.bind_eq_some_iff.mp hm
  refine ⟨F₀, H₀, ρ, F, δ, b1, δ1, GG, h1, fun x F1 H1 g1 v1 => ?_⟩
  match b1, hm, v1 with
  | .f (.ins c' fs), hm, v1 =>
    have hm1 : (if c' = c then _ else _) = _ := hm
    by_cases hc : c' = c
    · rw [if_pos hc] at hm1
      obtain ⟨⟨b2, δ2⟩, h2, hm2⟩ := Option.bind_eq_some_iff.mp hm1
      clear hm hm1
      subst hc
      cases hw : b2.isW with
      | true => simp [hw] at hm2
      | false =>
        simp only [hw] at hm2
        obtain ⟨⟨b3, δ3⟩, h3, hm3⟩ := Option.bind_eq_some_iff.mp (show _ = _ from hm2)
        cases hw3 : b3.isW with
        | true => simp [hw3] at hm3
        | false =>
          simp only [hw3] at hm3
          cases hm3
          refine ⟨F₀, H₀, ρ, F1, δ1, b2, δ2, GG.later g1, h2, fun y F2 H2 g2 v2 => ?_⟩
          obtain ⟨F3, x3, g3, r3⟩ := v2.fix g2 hw
          obtain ⟨a, dx, vs, rfl, ha, _, _⟩ := ins_at g3.fh kl (Rep.ext g3.ff v1)
          exact ⟨a, dx, vs, rfl, ha, F3, δ2, [.ins c' fs, b2.d], b, _, rfl, g3.fh, g3.dr, (GG.later (g1.trans g3)).dn, .cons (Rep.ext g3.ff v1) (.cons r3 .nil), hw3, h3, fun v F4 H4 g4 v4 => kq v F4 H4 ((g1.trans g3).trans g4) ((v4.h0 hw3).back (g1.trans g3))⟩
    · rw [if_neg hc] at hm1; cases hm1
end
end Py
/-! Layer, part P: calls by name; stars; pairs that are walked; methods of lists and texts. -/
namespace Py
open PySem L2 PyProof.Rows

/-! ### calls by name -/
def pick {α : Type} (is : List Nat) (l : List α) : List α := is.filterMap (l[·]?)
theorem pick_cons {α : Type} {i : Nat} {is : List Nat} {l : List α} : pick (i :: is) l = (match l[i]? with | some a => [a] | none => []) ++ pick is l := by
  unfold pick
  rw [List.filterMap_cons]
  cases l[i]? <;> rfl
theorem pick_vals {vs : List V} {us : List Value} (r : Vals vs us) : ∀ is : List Nat, Vals (pick is vs) (pick is us)
  | [] => .nil
  | i :: is => by
    rw [pick_cons, pick_cons]
    cases e : vs[i]? with
    | some v =>
      obtain ⟨u, hu, ru⟩ := r.get e
      rw [hu]
      exact .cons ru (pick_vals r is)
    | none =>
      have : us[i]? = none := by
        rw [List.getElem?_eq_none_iff] at e ⊢
        rw [← r.length]; exact e
      rw [this]
      exact pick_vals r is
theorem pick_reps {W : Wd} {F : Hp} {vs : List V} {ds : List D} (r : Reps W F vs ds) : ∀ is : List Nat, Reps W F (pick is vs) (pick is ds)
  | [] => .nil
  | i :: is => by
    rw [pick_cons, pick_cons]
    cases e : vs[i]? with
    | some v =>
      obtain ⟨u, hu, ru⟩ := r.get e
      rw [hu]
      exact .cons ru (pick_reps r is)
    | none =>
      have : ds[i]? = none := by
        rw [List.getElem?_eq_none_iff] at e ⊢
        rw [← r.length]; exact e
      rw [this]
      exact pick_reps r is
/-- a def called by the names ks alone: the i-th parameter is the (is i)-th of them -/
structure Fkk (P : Program) (w : World) (mg : PySem.Str → Option Value) (base : Heap) (W : Wd) (k : Nat) (x : PySem.Str) (ks : List PySem.Str) (is : List Nat) (m : Fn) : Prop where
  ex : ∃ f fd ps, FnOk P w W.K mg base CX0 k f fd ps (spF W is.length m) ∧ mg x = some (.ref f) ∧ PySem.W.keepIn W.K (.ref f) = true ∧ ∀ us : List Value, us.length = ks.length → bindArgs fd ⟨[], ks.zip us⟩ = pure (ps.zip (pick is us))
section
variable {X : Cx} {W : Wd} {n k : Nat} {x : PySem.Str} {f : Fn} {e e2 o : Expr} {es : List Expr} {kws : List Keyword} {ks : List PySem.Str} {is : List Nat} {me ma mb : Me} {ms : MeL} {p pos kpos apos : Pos} {nm : Option PySem.Str}
theorem pkImp {t t' : TA} (h : PK X kws t) (i : ∀ σ H Q, t' σ H Q → t σ H Q) : PK X kws t' := ⟨fun pos pins s σ H Q I q => h.run pos pins s σ H Q I (i σ H Q q)⟩
theorem cons_run : ∀ σ H Q, tXA W (aCons me ms) σ H Q → tCons (tX W me) (tXA W ms) σ H Q := fun σ H Q ⟨F₀, H₀, ρ, F, δ, ds, δ', G, hm, k⟩ => by
  obtain ⟨⟨b1, δ1⟩, h1, hm⟩ := Option.bind_eq_some_iff.mp hm
  cases hw : b1.isW with
  | true => simp [hw] at hm
  | false =>
    simp only [hw] at hm
    obtain ⟨⟨es', δ2⟩, h2, hm⟩ := Option.bind_eq_some_iff.mp (show _ = _ from hm)
    cases hm
    refine ⟨F₀, H₀, ρ, F, δ, b1, δ1, G, h1, fun x F1 H1 g1 v1 => ?_⟩
    obtain ⟨F2, x2, g2, r2⟩ := v1.fix g1 hw
    exact ⟨F₀, H₀, ρ, F2, δ1, es', _, G.later g2, h2, fun vs F3 H3 g3 r3 => k _ F3 H3 (g2.trans g3) (.cons (r2.ext g3.ff) r3)⟩
theorem lkKNil : PK X [] (tXA W aNil) := pkImp pk_nil fun σ H Q ⟨F₀, H₀, ρ, F, δ, ds, δ', G, hm, k⟩ => by
  cases hm
  exact k [] F H (.refl G.go.fh G.go.dr) .nil
theorem lkKCons (ha : PE X e (tX W me)) (hr : PK X kws (tXA W ms)) : PK X (⟨nm, e, kpos⟩ :: kws) (tXA W (aCons me ms)) := pkImp (pk_cons ha hr) cons_run
theorem pe_callK0 {fa : Addr} {fd : FuncData} {ps : List PySem.Str} {sp : Sp} {tk : TA} (F : FnOk X.prog X.w X.K X.mg X.base CX0 k fa fd ps sp) (hr : Room k X.A) (hg : Gl X x) (hm : X.mg x = some (.ref fa))
    (hk : PySem.W.keepIn X.K (.ref fa) = true) (hb : ∀ us : List Value, us.length = ks.length → bindArgs fd ⟨[], ks.zip us⟩ = pure (ps.zip (pick is us))) (hkw : PK X kws tk) (hall : (backToKw pos (keywordEach kws X.env)).all (·.1.isSome) = true) (hks : (backToKw pos (keywordEach kws X.env)).filterMap (·.1) = ks)
    (hdb : (x == ("__debug__" : PySem.Str)) = false) (hpl : ((backTo pos (starEach [] X.env)).any (·.1) || (backToKw pos (keywordEach kws X.env)).any (·.1.isNone)) = false) : PE X (.Call (.Name x p) [] kws pos) (fun σ H Q => tk σ H fun zs H2 => zs.length = ks.length ∧ sp (pick is zs) H2 Q E0) := by
  refine ⟨fun pp s0 σ H Q I h => wpAny_Call_Name_kw (ld_glob I hg hm ?_ hdb)⟩
  refine PySem.W.callWith_KW0 (h₀ := X.base) I.ok.mod.kin hk hall (thn (hkw.run pos pp s0 σ H _ I h) fun ws s1 ⟨zs, H1, I1, rz, hz, q⟩ => ⟨I1.kIn, ?_⟩) hpl
  rw [hks]
  have r2 := pick_vals rz is
  refine wpAny_call (codeAny_mono (F.run X.A X.stack s1 H1 ⟨[], ks.zip ws⟩ (pick is ws) (pick is zs) Q E0 hr I1.env0 (BindsTo.of_eq (hb ws (rz.length.symm.trans hz))) r2 q) fun r s' hq => ?_)
  cases r with
  | error er => exact hq.elim
  | ok fl =>
    cases fl with
    | ret z => exact I1.after hq
    | next => exact hq.elim
    | brk => exact hq.elim
    | cont => exact hq.elim
def sCallK (is : List Nat) (f : Fn) (ms : MeL) : Me := fun ρ δ => (ms ρ δ).bind fun p => if (pick is p.1).length = is.length then (f (pick is p.1) p.2).bind fun q => if q.1.isW then none else some q else none
theorem lkCallK (C : Cok W n X) (F : Fkk X.prog X.w X.mg X.base W k x ks is f) (ha : PK X kws (tXA W ms)) (hn : ∀ ρ δ ds δ', ms ρ δ = some (ds, δ') → ds.length = ks.length) (hk : k ≤ n) (hg : Gl X x := by rfl) (hdb : (x == ("__debug__" : PySem.Str)) = false := by decide) (hall : (backToKw pos (keywordEach kws X.env)).all (·.1.isSome) = true := by rfl)
    (hks : (backToKw pos (keywordEach kws X.env)).filterMap (·.1) = ks := by rfl) (hpl : ((backTo pos (starEach [] X.env)).any (·.1) || (backToKw pos (keywordEach kws X.env)).any (·.1.isNone)) = false := by rfl) : PE X (.Call (.Name x p) [] kws pos) (tX W (sCallK is f ms)) := by
  obtain ⟨fa, fd, ps, F1, hm, hkp, hb⟩ := F.ex
  rw [← C.k] at F1 hkp
  refine peImp (pe_callK0 F1 (C.room.mono hk) hg hm hkp hb ha hall hks hdb hpl) fun σ H Q ⟨F₀, H₀, ρ, F, δ, b, δ', G, hm, kq⟩ => ?_
  obtain ⟨⟨ds, δ1⟩, h1, hm⟩ := Option.bind_eq_some_iff.mp hm
  split at hm
  · next hl =>
    obtain ⟨⟨b2, δ2⟩, h2, hm⟩ := Option.bind_eq_some_iff.mp hm
    cases hw : b2.isW with
    | true => simp [hw] at hm
    | false =>
      simp only [hw] at hm
      cases hm
      exact ⟨F₀, H₀, ρ, F, δ, ds, δ1, G, h1, fun vs F1 H1 g1 r1 => ⟨r1.length.trans (hn _ _ _ _ h1), F1, δ1, pick is ds, b, _, hl, g1.fh, g1.dr, (G.later g1).dn, pick_reps r1 is, hw, h2, fun v F2 H2 g2 v2 => kq v F2 H2 (g1.trans g2) ((v2.h0 hw).back g1)⟩⟩
  · cases hm
end
end Py
/-! Layer, part Q: stars; pairs that are walked; methods of lists and texts. -/
namespace Py
open PySem L2 PyProof.Rows
section
variable {X : Cx} {W : Wd} {n k : Nat} {x : PySem.Str} {e e2 o tg : Expr} {es : List Expr} {me ma mb : Me} {ms : MeL} {mg : MeG} {p p2 pos pos' apos tpos : Pos}

/-! ### (*e, ..) -/
def aStar (m : Me) (ms : MeL) : MeL := fun ρ δ => (m ρ δ).bind fun p => (seqOf p.1).bind fun ds => (ms ρ p.2).bind fun q => some (ds ++ q.1, q.2)
theorem lkStar (C : Cok W n X) (he : PE X e (tX W me)) (hr : PA X es (tXA W ms)) (hs : starEach (.Starred e p :: es) X.env = (true, eval e X.env) :: starEach es X.env := by rfl) : PA X (.Starred e p :: es) (tXA W (aStar me ms)) := paImp (StX.pa_star he hr hs) fun σ H Q ⟨F₀, H₀, ρ, F, δ, ds, δ', G, hm, k⟩ => by
  obtain ⟨⟨b1, δ1⟩, h1, hm⟩ := Option.bind_eq_some_iff.mp hm
  obtain ⟨d1, h2, hm⟩ := Option.bind_eq_some_iff.mp hm
  obtain ⟨⟨es', δ2⟩, h3, hm⟩ := Option.bind_eq_some_iff.mp hm
  cases hm
  refine ⟨F₀, H₀, ρ, F, δ, b1, δ1, G, h1, fun v F1 H1 g1 v1 => ?_⟩
  obtain ⟨a, vs, rfl, q, rs⟩ := v1.rv.seq g1.fh h2
  rw [C.k]
  exact ⟨a, vs, rfl, q.symm, F₀, H₀, ρ, F1, δ1, es', _, G.later g1, h3, fun ws F2 H2 g2 r2 => k _ F2 H2 (g1.trans g2) ((rs.ext g2.ff).append r2)⟩

/-! ### enumerate, zip -/
def enumD : Nat → List D → List D
  | _, [] => []
  | i, d :: ds => .tup [.int i, d] :: enumD (i + 1) ds
theorem enumD_len : ∀ (i : Nat) (ds : List D), (enumD i ds).length = ds.length
  | _, [] => rfl
  | i, _ :: ds => congrArg Nat.succ (enumD_len (i + 1) ds)
theorem enumD_get : ∀ (i j : Nat) (ds : List D) (d : D), ds[j]? = some d → (enumD i ds)[j]? = some (.tup [.int (i + j : Nat), d])
  | i, j, [], d, h => by cases h
  | i, 0, _ :: ds, d, h => by cases h; rfl
  | i, j + 1, _ :: ds, d, h => by
    have := enumD_get (i + 1) j ds d h
    show (enumD (i + 1) ds)[j]? = _
    rw [this, show i + 1 + j = i + (j + 1) by omega]
def zipD : List D → List D → List D
  | d :: ds, e :: es => .tup [d, e] :: zipD ds es
  | _, _ => []
theorem zipD_len : ∀ (ds es : List D), (zipD ds es).length = min ds.length es.length
  | [], _ => by simp [zipD]
  | _ :: _, [] => by simp [zipD]
  | _ :: ds, _ :: es => by
    show (zipD ds es).length + 1 = _
    rw [zipD_len ds es, List.length_cons, List.length_cons]
    omega
theorem zipD_get : ∀ (j : Nat) (ds es : List D) (d e : D), ds[j]? = some d → es[j]? = some e → (zipD ds es)[j]? = some (.tup [d, e])
  | _, [], _, _, _, h, _ => by cases h
  | _, _ :: _, [], _, _, _, h => by cases h
  | 0, _ :: _, _ :: _, _, _, h, h2 => by cases h; cases h2; rfl
  | j + 1, _ :: ds, _ :: es, d, e, h, h2 => zipD_get j ds es d e h h2
/-- a source at a later point of the run -/
structure Src (W : Wd) (F H : Hp) (kd : Kd) (ds : List D) (l : Bool) : Prop where
  len : kd.len = ds.length
  at_ : ∀ F2 H2 δ2, Wt W F H l F2 H2 δ2 → kd.ok W.K H2
  nth : ∃ vs, Reps W F vs ds ∧ ∀ i x, kd.nth i = some x → vs[i]? = some x
theorem src_of {H₀ H0 F H : Hp} {v : V} (e : Ext F H) {b : B} {ds : List D} {l : Bool} (r : Val W H₀ H0 F H v b) (h : itB b = some (ds, l)) : ∃ kd : Kd, kd.v = v ∧ Src W F H kd ds l := by
  match b, h, r with
  | .f (.tup _), h, r =>
    cases h
    cases r with
    | @tup a vs _ q rs => exact ⟨.t a vs, rfl, rs.length, fun F2 H2 δ2 w => tq ((wt_ext w).2.1 _ _ ((wt_ext w).1 _ _ q)), vs, rs, fun i x z => z⟩
  | .f (.lst _), h, r =>
    cases h
    cases r with
    | @lst a vs _ q rs => exact ⟨.l a vs, rfl, rs.length, fun F2 H2 δ2 w => .inl (.inl ((wt_ext w).2.1 _ _ ((wt_ext w).1 _ _ q))), vs, rs, fun i x z => z⟩
  | .f (.scr ns), h, r =>
    cases h
    cases r with
    | @scr a _ q => exact ⟨.l a (ns.map V.int), rfl, by show (ns.map V.int).length = _; simp, fun F2 H2 δ2 w => sql_ext (wt_ext w).2.1 (sql_ext (wt_ext w).1 q), _, Reps.mapInt ns, fun i x z => z⟩
  | .f (.str z), h, r =>
    cases h
    cases r
    refine ⟨.s z, rfl, by show z.cps.size = _; unfold chs; simp, fun _ _ _ _ => True.intro, z.cps.toList.map fun c => V.str ⟨#[c]⟩, ?_, fun i x hx => ?_⟩
    · unfold chs
      generalize z.cps.toList = l
      induction l with
      | nil => exact .nil
      | cons c l ih => exact .cons (.str _) ih
    · rw [List.getElem?_map, Array.getElem?_toList]
      exact hx
  | .w (.lst _), h, r =>
    cases h
    obtain ⟨a, rfl, n0, f0, nd, vs, q, rs⟩ := r
    exact ⟨.l a vs, rfl, rs.length, fun F2 H2 δ2 (w : Go W F H F2 H2 δ2) => .inl (.inl (w.hh _ _ q nd)), vs, rs, fun i x z => z⟩
theorem Wt.weak {F H F2 H2 : Hp} {δ2 : DS} : ∀ {l l' : Bool}, Wt W F H (l || l') F2 H2 δ2 → Wt W F H l F2 H2 δ2 ∧ Wt W F H l' F2 H2 δ2
  | true, true, h => ⟨h, h⟩
  | true, false, h => ⟨h, wt_ext h⟩
  | false, true, h => ⟨wt_ext h, h⟩
  | false, false, h => ⟨h, h⟩
/-- a source's place moves on -/
theorem Src.go {F H F1 H1 : Hp} {δ1 : DS} {kd : Kd} {ds : List D} : ∀ {l : Bool}, Src W F H kd ds l → Go W F H F1 H1 δ1 → Src W F1 H1 kd ds l := fun {l} s g =>
  ⟨s.len, fun F2 H2 δ2 w => by
    cases l with
    | true => exact s.at_ F2 H2 δ2 (g.trans (show Go W F1 H1 F2 H2 δ2 from w))
    | false => exact s.at_ F2 H2 δ2 ⟨g.ff.trans w.1, w.2⟩, let ⟨vs, r, z⟩ := s.nth; ⟨vs, r.ext g.ff, z⟩⟩
def mEnum (me : Me) : MeI := fun ρ δ => (me ρ δ).bind fun p => (itB p.1.frz).bind fun r => some ((enumD 0 r.1, r.2), p.2)
def mZip (ma mb : Me) : MeI := fun ρ δ => (ma ρ δ).bind fun p => (mb ρ p.2).bind fun q => (itB p.1.frz).bind fun r => (itB q.1.frz).bind fun s => some ((zipD r.1 s.1, r.2 || s.2), q.2)
theorem enum_wlk {F H : Hp} {kd : Kd} {ds : List D} {l : Bool} (s : Src W F H kd ds l) : Wlk W (ItE W.K kd) (enumD 0 ds) l F H := by
  refine wlk_mk (n := kd.len) (G := fun H => kd.ok W.K H) (Y := fun i H v H' => ∃ T x, v = .ref T ∧ H T = none ∧ H' = upd H T (.tup [.int (i : Nat), x]) ∧ kd.nth i = some x) ⟨fun i H hi h => ⟨h, hi⟩, fun H h => ⟨h, rfl⟩, fun i H x H' _ _ y => y⟩ (by rw [enumD_len, s.len]) s.at_ fun i H2 x H3 F2 δ2 hi w ⟨T, y, e1, hT, e2, hy⟩ => ?_
  subst e1 e2
  obtain ⟨w1, w2, w3⟩ := wt_ext w
  obtain ⟨vs, rs, hv⟩ := s.nth
  obtain ⟨d, hd, rd⟩ := rs.get (hv i y hy)
  have g := go_tup (xs := [.int (i : Nat), y]) w2 w3 hT
  refine ⟨_, _, g, by have := enumD_get 0 i ds d hd; rwa [Nat.zero_add] at this, .tup upd_same (.cons (.int _) (.cons (rd.ext (w1.trans g.ff)) .nil))⟩
theorem zip_wlk {F H : Hp} {kd jd : Kd} {ds es : List D} {l l2 : Bool} (s : Src W F H kd ds l) (t : Src W F H jd es l2) : Wlk W (ItZ W.K kd jd) (zipD ds es) (l || l2) F H := by
  refine wlk_mk (n := min kd.len jd.len) (G := fun H => kd.ok W.K H ∧ jd.ok W.K H) (Y := fun i H v H' => ∃ T x y, v = .ref T ∧ H T = none ∧ H' = upd H T (.tup [x, y]) ∧ kd.nth i = some x ∧ jd.nth i = some y) ⟨fun i H hi h => ⟨h, hi⟩, fun H h => ⟨h, rfl⟩, fun i H x H' _ _ y => y⟩ (by rw [zipD_len, s.len, t.len])
    (fun F2 H2 δ2 w => ⟨s.at_ _ _ _ w.weak.1, t.at_ _ _ _ w.weak.2⟩) fun i H2 x H3 F2 δ2 hi w ⟨T, y, z, e1, hT, e2, hy, hz⟩ => ?_
  subst e1 e2
  obtain ⟨w1, w2, w3⟩ := wt_ext w
  obtain ⟨vs, rs, hv⟩ := s.nth
  obtain ⟨us, ru, hu⟩ := t.nth
  obtain ⟨d, hd, rd⟩ := rs.get (hv i y hy)
  obtain ⟨d2, hd2, rd2⟩ := ru.get (hu i z hz)
  have g := go_tup (xs := [y, z]) w2 w3 hT
  exact ⟨_, _, g, zipD_get i ds es d d2 hd hd2, .tup upd_same (.cons (rd.ext (w1.trans g.ff)) (.cons (rd2.ext (w1.trans g.ff)) .nil))⟩
theorem lkEnum (C : Cok W n X) {elts : List Expr} {kk : Nat} (hm : X.mg "enumerate" = none) (ha : PE X e (tX W me)) (hg : Gl X "enumerate" := by rfl) (hs : starEach [e] X.env = [(false, eval e X.env)] := by rfl) : PI X (.Tuple elts kk tpos) (.Call (.Name "enumerate" p) [e] [] pos) (iX W (mEnum me)) :=
  piImp (piE hg hm (pa_cons ha pa_nil hs) hs) fun σ H R ⟨F₀, H₀, ρ, F, δ, r, δ', G, hm, k⟩ => by
    obtain ⟨⟨b1, δ1⟩, h1, hm⟩ := Option.bind_eq_some_iff.mp hm
    obtain ⟨⟨ds, l⟩, h2, hm⟩ := Option.bind_eq_some_iff.mp hm
    cases hm
    refine ⟨F₀, H₀, ρ, F, δ, b1, _, G, h1, fun v F0 H1 g0 v0 => ?_⟩
    obtain ⟨F1, x1, g1, v1⟩ := v0.frz g0
    obtain ⟨kd, e1, s⟩ := src_of g1.fh v1 h2
    rw [C.k]
    exact ⟨kd, by rw [e1], s.at_ F1 H1 _ (.of (.refl g1.fh g1.dr) l), k _ F1 H1 g1 (enum_wlk s)⟩
theorem lkZip (C : Cok W n X) {elts : List Expr} {kk : Nat} (hm : X.mg "zip" = none) (ha : PE X e (tX W ma)) (hb : PE X e2 (tX W mb)) (hg : Gl X "zip" := by rfl) (hs : starEach [e, e2] X.env = (false, eval e X.env) :: starEach [e2] X.env := by rfl) (hs2 : starEach [e2] X.env = (false, eval e2 X.env) :: starEach [] X.env := by rfl)
    (hpl : (backTo pos (starEach [e2] X.env)).any (·.1) = false := by rfl) : PI X (.Tuple elts kk tpos) (.Call (.Name "zip" p) [e, e2] [] pos) (iX W (mZip ma mb)) :=
  piImp (piZ hg hm (pa_cons ha (pa_cons hb pa_nil hs2) hs) hs hpl) fun σ H R ⟨F₀, H₀, ρ, F, δ, r, δ', G, hm, k⟩ => by
    obtain ⟨⟨b1, δ1⟩, h1, hm⟩ := Option.bind_eq_some_iff.mp hm
    obtain ⟨⟨b2, δ2⟩, h2, hm⟩ := Option.bind_eq_some_iff.mp hm
    obtain ⟨⟨ds, l⟩, h3, hm⟩ := Option.bind_eq_some_iff.mp hm
    obtain ⟨⟨ds2, l2⟩, h4, hm⟩ := Option.bind_eq_some_iff.mp hm
    cases hm
    refine ⟨F₀, H₀, ρ, F, δ, b1, _, G, h1, fun v F0 H1 g0 v0 => ?_⟩
    obtain ⟨F1, x1, g1, v1⟩ := v0.frz g0
    refine ⟨F₀, H₀, ρ, F1, _, b2, _, G.later g1, h2, fun w F0' H2 g0' w0 => ?_⟩
    obtain ⟨F2, x2, g2, w2⟩ := w0.frz g0'
    obtain ⟨kd, e1, s⟩ := src_of g1.fh v1 h3
    obtain ⟨jd, e2, t⟩ := src_of g2.fh w2 h4
    have s2 := s.go g2
    rw [C.k]
    exact ⟨kd, jd, by rw [e1, e2], s2.at_ F2 H2 _ (.of (.refl g2.fh g2.dr) l), t.at_ F2 H2 _ (.of (.refl g2.fh g2.dr) l2), k _ F2 H2 (g1.trans g2) (zip_wlk s2 t)⟩

/-! ### x.index(y) of texts -/
def sIdx (ma mb : Me) : Me := fun ρ δ => (ma ρ δ).bind fun p => (mb ρ p.2).bind fun q => match p.1, q.1 with
  | .f (.str a), .f (.str b) => match Builtin.Str.occurrences a b 0 a.length 1 with
    | i :: _ => some (.f (.int (i : Nat)), q.2)
    | [] => none
  | _, _ => none
theorem lkIdx (ho : PE X o (tX W ma)) (he : PE X e (tX W mb)) (hs : starEach [e] X.env = [(false, eval e X.env)] := by rfl) (hbase : attributeBase o "index" X.env (eval o X.env) = eval o X.env := by rfl) (hline : (apos.endLine == pos.line) = true := by rfl) :
    PE X (.Call (.Attribute o "index" apos) [e] [] pos) (tX W (sIdx ma mb)) := peImp (pe_m1 PySem.F.slot_str_index PySem.F.type_str_index mt_sindex ho he hs hbase hline) fun σ H Q ⟨F₀, H₀, ρ, F, δ, b, δ', G, hm, k⟩ => by
  obtain ⟨⟨b1, δ1⟩, h1, hm⟩ := Option.bind_eq_some_iff.mp hm
  obtain ⟨⟨b2, δ2⟩, h2, hm⟩ := Option.bind_eq_some_iff.mp hm
  refine ⟨F₀, H₀, ρ, F, δ, b1, δ1, G, h1, fun v F1 H1 g1 v1 => ?_⟩
  simp only at hm
  split at hm
  · next a b' =>
    split at hm
    · next i rest hi =>
      cases hm
      cases v1
      refine ⟨⟨_, rfl⟩, F₀, H₀, ρ, F1, δ1, _, _, G.later g1, h2, fun w F2 H2 g2 w2 => ?_⟩
      cases w2
      exact ⟨_, _, i, rest, rfl, rfl, hi, k _ F2 H2 (g1.trans g2) (.int _)⟩
    · cases hm
  · cases hm

/-! ### statements with methods of lists -/
theorem lkAppend (C : Cok W n X) (i : Nat) {px pa : Pos} (ha : PA X [e] (tXA W ms)) (hN : X.N[i]? = some x := by rfl) (hv : Vis X.env.scope x := by first | exact Or.inl rfl | exact Or.inr (Or.inl rfl) | exact Or.inr (Or.inr rfl)) (hd : (x == ("__debug__" : PySem.Str)) = false := by decide) (hcd : (x == ("__classdict__" : PySem.Str)) = false := by decide)
    (hbase : attributeBase (.Name x px) "append" X.env (eval (.Name x px) X.env) = eval (.Name x px) X.env := by rfl)
    (hfew : ((backTo pos (starEach [e] X.env)).all (fun x => !x.1) && (backToKw pos (keywordEach [] X.env)).all (fun x => x.1.isSome) && decide (([e] : List Expr).length + ([] : List Keyword).length + (if ([] : List Keyword).isEmpty then 0 else 1) < 30)) = true := by rfl)
    (hline : (pa.endLine == pos.line) = true := by rfl) (hs : starEach [e] X.env = (false, eval e X.env) :: starEach [] X.env := by rfl) (hplain : (backTo pos (starEach [] X.env)).any (·.1) = false := by rfl) (hsw : swapsWith (.Call (.Attribute (.Name x px) "append" pa) [e] [] pos) none pos'.line X.env = pure false := by rfl) :
    PS X (.Expr (.Call (.Attribute (.Name x px) "append" pa) [e] [] pos) pos') (tS W (sApp i ms)) :=
  lkApp i C ha hN hv hd hcd (pe_bm PySem.F.plainAttrs_list PySem.F.slot_list_append PySem.F.type_list_append mt_append (pe_var hN hv hd hcd) ha hbase hfew hline hs hplain) hsw
theorem lkPop0 (C : Cok W n X) (i : Nat) {px pa pk : Pos} {is : List Nat} {j : Nat} (hgt : PG X tg (gX W is mg)) (hN : X.N[i]? = some x := by rfl) (hv : Vis X.env.scope x := by first | exact Or.inl rfl | exact Or.inr (Or.inl rfl) | exact Or.inr (Or.inr rfl)) (hd : (x == ("__debug__" : PySem.Str)) = false := by decide) (hcd : (x == ("__classdict__" : PySem.Str)) = false := by decide)
    (hbase : attributeBase (.Name x px) "pop" X.env (eval (.Name x px) X.env) = eval (.Name x px) X.env := by rfl)
    (hfew : ((backTo pos (starEach [.Constant (.int 0) j pk] X.env)).all (fun x => !x.1) && (backToKw pos (keywordEach [] X.env)).all (fun x => x.1.isSome) && decide (([Expr.Constant (.int 0) j pk] : List Expr).length + ([] : List Keyword).length + (if ([] : List Keyword).isEmpty then 0 else 1) < 30)) = true := by rfl)
    (hline : (pa.endLine == pos.line) = true := by rfl) (hs : starEach [.Constant (.int 0) j pk] X.env = (false, eval (.Constant (.int 0) j pk) X.env) :: starEach [] X.env := by rfl) (hplain : (backTo pos (starEach [] X.env)).any (·.1) = false := by rfl)
    (hsw : swapsWithSole [tg] (.Call (.Attribute (.Name x px) "pop" pa) [.Constant (.int 0) j pk] [] pos) pos'.line X.env = pure false := by rfl) (hw : swappedStores [tg] (.Call (.Attribute (.Name x px) "pop" pa) [.Constant (.int 0) j pk] [] pos) X.env = pure none := by rfl) (h1 : (assignEach [tg] X.env).map (·.2) = [assign tg X.env] := by rfl) :
    PS X (.Assign [tg] (.Call (.Attribute (.Name x px) "pop" pa) [.Constant (.int 0) j pk] [] pos) pos') (tS W (sPop0 i mg)) :=
  psImp (ps_asg (pe_bm PySem.F.plainAttrs_list PySem.F.slot_list_pop PySem.F.type_list_pop mt_popAt (pe_var hN hv hd hcd) (pa_cons pe_int pa_nil hs) hbase hfew hline hs hplain) hgt hsw hw h1) pop0_run
end
end Py
/-! Layer, part R: sorted(set(..)) of texts. -/
namespace Py
open PySem PySem.Spec PySem.Froz L2 PyProof.Rows
/-- the payload stands at a, holds the texts l, and may be walked -/
structure TxR (P : Program) (w : World) (h : Heap) (a : Addr) (D : SD) (l : List PySem.Str) : Prop where
  at_ : h.get? a = some (sObj "set" D)
  ok : TxOk P w D l
  nd : l.Nodup
  ris : Ris D.2.2.place.toList
  led : w.params.followText "set-order" = true ∨ D.2.2.led = true
theorem add_table {h : Int} {v : Value} {D : SD} (r : Ris D.2.2.place.toList) : Ris (addTx h v D).2.2.place.toList ∧ (addTx h v D).2.2.led = D.2.2.led := by
  obtain ⟨es, ep, t⟩ := D
  have r1 := layNew_ris t es h v r
  have l1 := layNew_led t es h v
  unfold addTx tailTx
  dsimp only
  generalize layNew t es h v = L at r1 l1 ⊢
  obtain ⟨es1, t1, wd, gv⟩ := L
  dsimp only at r1 l1 ⊢
  have k : ∀ t2 : SetTable, Ris t2.place.toList → t2.led = t.led → Ris ((if (!wd && t2.tooFull) = true then ((relayAll t2 es1 (SetTable.grown es1.size)).1, ep + 2, (relayAll t2 es1 (SetTable.grown es1.size)).2.1) else (es1, ep + 1, t2)) : SD).2.2.place.toList ∧
      ((if (!wd && t2.tooFull) = true then ((relayAll t2 es1 (SetTable.grown es1.size)).1, ep + 2, (relayAll t2 es1 (SetTable.grown es1.size)).2.1) else (es1, ep + 1, t2)) : SD).2.2.led = t.led := fun t2 a b => by
    split
    · exact ⟨relayAll_ris t2 es1 _, (relayAll_led t2 es1 _).trans b⟩
    · exact ⟨a, b⟩
  split
  · exact k _ r1 l1
  · exact k _ r1 l1
section
variable {P : Program} {w : World} {A : Around} {E : Value → Shared → Prop} {s : Shared} {a : Addr} {D : SD} {l : List PySem.Str} {k : PySem.Str} {u : Tok}
theorem add_old {Q : Bool → Shared → Prop} (R : TxR P w s.heap a D l) (hk : k ∈ l) (hb : l.length < scanBound) (h : Q false s) : wpAny (model P w) A (setAddHashed a (.str k u) (hashStr w k)) Q E s := by
  obtain ⟨es, ep, t⟩ := D
  have hel : ElemsOf (strKind P w) es.toList := R.ok.el
  have hz : es.size < scanBound := (show es.size = l.length from R.ok.sz) ▸ hb
  obtain ⟨j, hj⟩ : ∃ j, List.findIdx? (fun e => (strKind P w).is k e.2) es.toList = some j := by
    cases q : List.findIdx? (fun e => (strKind P w).is k e.2) es.toList with
    | some j => exact ⟨j, rfl⟩
    | none =>
      obtain ⟨e, he, z⟩ := (R.ok.mem k).mp hk
      have c := List.findIdx?_eq_none_iff.mp q e he
      rw [z] at c; cases c
  unfold setAddHashed setAddHashedIn
  refine wpAny_holding (wpAny_bind (wpAny_setState_of R.at_ rfl R.ok.fit ?_)); dsimp only
  rw [byScan_of rfl hz hel]; simp only [↓reduceIte]; unfold setAddByScan
  refine wpAny_bind (wpAny_bind (wpAny_rule (wpAny_bind (wpAny_setScan_of (knd := strKind P w) (is_str k u) R.at_ rfl R.ok.fit hel ?_))))
  rw [hj]; dsimp only
  exact wpAny_pure (wpAny_pure h)
/-- one text more, there or not -/
def putS (l : List PySem.Str) (k : PySem.Str) : List PySem.Str := if k ∈ l then l else k :: l
theorem putS_len (l : List PySem.Str) (k : PySem.Str) : (putS l k).length ≤ l.length + 1 := by
  unfold putS
  split
  · omega
  · exact Nat.le_refl _
theorem add_any {Q : Bool → Shared → Prop} (R : TxR P w s.heap a D l) (hb : l.length + 1 < scanBound) (h : ∀ b D' h', Heap.SameBut a s.heap h' → TxR P w h' a D' (putS l k) → Q b { s with heap := h' }) : wpAny (model P w) A (setAddHashed a (.str k u) (hashStr w k)) Q E s := by
  by_cases hk : k ∈ l
  · refine add_old R hk (Nat.lt_of_succ_lt hb) ?_
    have q := h false D s.heap (Heap.SameBut.refl a s.heap)
    unfold putS at q
    rw [if_pos hk] at q
    exact q R
  · obtain ⟨r1, l1⟩ := add_table (h := hashStr w k) (v := .str k u) R.ris
    refine add_x R.at_ R.ok hk hb (h true (addTx (hashStr w k) (.str k u) D) _ (Heap.SameBut.update s.heap a _) ?_)
    unfold putS
    rw [if_neg hk]
    exact ⟨get_upd _ R.at_ rfl, add_ok u R.ok, List.nodup_cons.mpr ⟨hk, R.nd⟩, r1, R.led.imp (fun z => z) fun z => l1.trans z⟩
theorem TxR.at' {h h' : Heap} (R : TxR P w h a D l) (k : ∀ o, h.get? a = some o → h'.get? a = some o) : TxR P w h' a D l := ⟨k _ R.at_, R.ok, R.nd, R.ris, R.led⟩
/-- all of a list put in, from the left -/
def allS (ks l : List PySem.Str) : List PySem.Str := ks.foldl putS l
theorem allS_len : ∀ (ks l : List PySem.Str), (allS ks l).length ≤ l.length + ks.length
  | [], l => Nat.le_refl _
  | k :: ks, l => by
    have h1 := allS_len ks (putS l k)
    have h2 := putS_len l k
    show (allS ks (putS l k)).length ≤ l.length + (ks.length + 1)
    omega
theorem upd_texts {I : Addr} {fp wr : List Addr} {G : Array GenState → Array GenState → Prop} {n : Nat} {Pv : Nat → Value → Prop} {St : Nat → Shared → Prop} {Z : Result → Shared → Prop} (W : WalksS P w A.in1 I fp wr G n Pv St) (hSf : a ∉ fp) (ks : List PySem.Str) (hn : n = ks.length) (hb : ks.length + 1 < scanBound)
    (hval : ∀ i v, Pv i v → ∃ x t, ks[i]? = some x ∧ v = .str x t) : ∀ (m i : Nat) (s : Shared) (D : SD) (l : List PySem.Str), n - i = m → i ≤ n → St i s → TxR P w s.heap a D l → l.length ≤ i →
      (∀ s' D', Moved (a :: wr) G s s' → TxR P w s'.heap a D' (allS (ks.drop i) l) → Z (.ok (.ret .none)) s') → codeAny (model P w) A (.builtin "set.update.loop" ⟨[.ref a, .ref I], []⟩) Z s := by
  have hSw : a ∉ wr := fun h => hSf (W.sub _ h)
  have sub : ∀ b ∈ wr, b ∈ a :: wr := fun b hb => List.mem_cons_of_mem _ hb
  intro m
  induction m with
  | zero =>
    intro i s D l hm hi st R hl q
    obtain rfl : i = n := by omega
    refine codeAny_builtin F.entry_set_update_loop ?_; rw [Around.under_plainId F.plain_set_update_loop _]
    show wpAny _ A.in1 (pyNext (.ref I) >>= _) _ _ s
    refine wpAny_bind (W.done s _ _ st fun s1 mv => ?_)
    refine wpAny_pure (q s1 D (mv.mono sub) ?_)
    rw [List.drop_eq_nil_of_le (by omega)]
    exact R.at' fun o e => mv.heap a o hSw e
  | succ m ih =>
    intro i s D l hm hi st R hl q
    have hlt : i < n := by omega
    refine codeAny_builtin F.entry_set_update_loop ?_; rw [Around.under_plainId F.plain_set_update_loop _]
    show wpAny _ A.in1 (pyNext (.ref I) >>= _) _ _ s
    refine wpAny_bind (W.item i s _ _ hlt st fun v s1 hP st1 mv => ?_)
    obtain ⟨x, t, hx, rfl⟩ := hval i v hP
    have R1 : TxR P w s1.heap a D l := R.at' fun o e => mv.heap a o hSw e
    show wpAny _ A.in1 (holding [Value.str x t] (setAdd a (.str x t)) >>= _) _ _ s1
    unfold setAdd
    refine wpAny_bind (wpAny_holding (wpAny_holding (wpAny_bind ((strKind P w).pyHash (k := x) (is_str x t) ?_))))
    refine add_any (s := { s1 with toks := s1.toks + 1 }) R1 (by omega) fun b D' h' sb R2 => wpAny_pure ⟨plainId_quiet F.plain_set_update_loop _, ?_⟩
    have kp : ∀ c o, c ≠ a → s1.heap.get? c = some o → h'.get? c = some o := fun c o ne e => by rw [sb.2 c ne]; exact e
    refine ih (i + 1) _ D' _ (by omega) hlt (W.frame _ s1 _ _ st1 (Nat.le_succ _) fun c hc o e => kp c o (fun z => hSf (z ▸ hc)) e) R2 (by have := putS_len l x; omega) fun s2 D2 mv2 R3 => ?_
    refine q s2 D2 (Moved.trans W.gtrans ((mv.mono sub).then_heap (Nat.le_succ _) fun c o hc e => kp c o (fun z => hc (by rw [z]; exact List.mem_cons_self)) e) mv2) ?_
    have hd : ks.drop i = x :: ks.drop (i + 1) := by
      obtain ⟨h1, h2⟩ := List.getElem?_eq_some_iff.mp hx
      rw [List.drop_eq_getElem_cons h1, h2]
    rw [hd]
    exact R3
abbrev nSet (w : World) : Obj := { cls := .type "set", dict := none, data := .set #[] 0 (.fresh 0 0 (!w.params.followText "set-order")) }
theorem txR_new {h : Heap} {b : Addr} (e : h.get? b = some (nSet w)) : TxR P w h b (#[], 0, .fresh 0 0 (!w.params.followText "set-order")) [] := ⟨e, TxOk.nil rfl, List.nodup_nil, List.Pairwise.nil, by
  show _ ∨ (!w.params.followText "set-order") = true
  cases w.params.followText "set-order" <;> simp⟩
theorem strs_val {ks : List PySem.Str} {us : List Value} (r : StrsAre us ks) : ∀ (i : Nat) (v : Value), us[i]? = some v → ∃ x t, ks[i]? = some x ∧ v = .str x t := by
  induction r with
  | nil => intro i v h; cases h
  | cons y t r ih => intro i v h; cases i with
    | zero => cases h; exact ⟨y, t, rfl, rfl⟩
    | succ i => exact ih i v h
set_option maxHeartbeats 6400000 in
/-- set(a list of texts) -/
theorem set_texts {b : Addr} {items : Array Value} {ks : List PySem.Str} {Q : Value → Shared → Prop} (hh : A.handled = none) (hl : s.heap.IsList b items) (hi : StrsAre items.toList ks) (hb : ks.length + 1 < scanBound)
    (h : ∀ (h' : Heap) (tk : Nat) D, TxR P w h' s.heap.objs.size D (allS ks []) → (∀ c o, s.heap.get? c = some o → h'.get? c = some o) → Q (.ref s.heap.objs.size) { s with heap := h', toks := tk }) : wpAny (model P w) A (call (.type "set") [.ref b]) Q E s := by
  have hz : items.size = ks.length := by rw [← StrsAre.len_eq hi, Array.length_toList]
  obtain ⟨c, tl, hmro⟩ := F.called_set.mro
  have hm1 := F.called_set.made; have hm2 := F.called_set.sub
  refine wpAny_call (codeAny_of_tree ?_); show wpAny _ _ (callAny (.type "set") _) _ _ _
  refine wpAny_pure ⟨Code.quiet_builtin _ (by decide +kernel), codeAny_builtin F.entry_type_call ?_⟩; rw [Around.under_plain (weight_type_call_type "set" [.ref b] []) rfl]
  have h1 := F.called_set.notType; have h2 := F.called_set.canCreate; have hct := F.typeCall_set_1 (.ref b)
  repeat (any_goals (first | assumption | wp_step))
  refine codeAny_mono (code_set_led1 (.ref b) (E := E) (Q₁ := fun obj s₁ => obj = .ref s.heap.objs.size ∧ s₁ = { s with heap := s.heap.push (nSet w) }) ⟨rfl, rfl⟩) fun r s₁ hr => ?_
  cases r with
  | error e => exact hr
  | ok fl => cases fl with
    | next => exact hr.elim
    | brk => exact hr.elim
    | cont => exact hr.elim
    | ret obj =>
      obtain ⟨rfl, rfl⟩ := hr
      have hS : (s.heap.push (nSet w)).get? s.heap.objs.size = some (nSet w) := Heap.get?_push_size _ rfl
      have hT : Shared.TypeIs { s with heap := s.heap.push (nSet w) } (.ref s.heap.objs.size) "set" := ⟨_, hS, rfl⟩
      have hl0 := F.called_set.init.lookup; have hb0 := F.called_set.init.bind (.ref s.heap.objs.size)
      repeat (any_goals (first | assumption | wp_step))
      refine codeAny_mono (codeAny_call_builtin (R := wants (fun r s₂ => r = .none ∧ ∃ h' tk D, s₂ = { s with heap := h', toks := tk } ∧ TxR P w h' s.heap.objs.size D (allS ks []) ∧ (∀ c o, s.heap.get? c = some o → h'.get? c = some o)) E) F.called_set.init.plain F.entry_set_init (check_set_init_1 hT ?_)) fun r₂ s₂ hr₂ => ?_
      · obtain ⟨⟨oc, od, odt, osl⟩, hol, hcl, nl, hdl⟩ := hl
        simp only at hcl hdl; subst hcl; subst hdl
        have hol' : (s.heap.push (nSet w)).get? b = some { cls := .type "list", dict := od, data := .seq items nl, slots := osl } := Heap.get?_push_of_some _ hol
        have q1 := F.sub_list_set; have q2 := F.sub_list_frozenset; have q3 : (Value.type "list" == Value.type "dict") = false := by decide
        have hl1 : (s.heap.push (nSet w)).IsList b items := ⟨_, hol', rfl, nl, rfl⟩
        unfold Builtin.«set.__init__» noKeywords Builtin.Frozenset.updateFrom
        generalize hPI : pyIter = PI; wp_walk; subst hPI
        refine wpAny_pyIter_list hl1 (wpAny_bind (wpAny_runValue ?_))
        have hlt : b < s.heap.objs.size := Heap.lt_size hol
        have hz1 : (s.heap.push (nSet w)).objs.size = s.heap.objs.size + 1 := Heap.size_push ..
        have hne : b ≠ (s.heap.push (nSet w)).objs.size := by rw [hz1]; exact Nat.ne_of_lt (Nat.lt_succ_of_lt hlt)
        have hf : s.heap.objs.size ∉ [(s.heap.push (nSet w)).objs.size, b] := by
          rw [hz1]; simp only [List.mem_cons, List.not_mem_nil, or_false, not_or]; exact ⟨Nat.ne_of_lt (Nat.lt_succ_self _), Nat.ne_of_gt hlt⟩
        have h3 : A.in1.in1.in1.handled = none := by simp [hh]
        refine upd_texts ((Walks.list h3 _ b hne items).toS) hf ks hz hb (fun i v hv => strs_val hi i v (by rw [Array.getElem?_toList]; exact hv)) (items.size - 0) 0 _ _ [] (by omega) (Nat.zero_le _) ⟨⟨_, Heap.get?_push_size _ rfl, rfl, rfl⟩, hl1.push _⟩ (txR_new (Heap.get?_push_of_some _ hS)) (Nat.le_refl _) fun s' D' mv R' => ?_
        obtain ⟨h', g', d', tk', os'⟩ := s'
        obtain rfl : g' = s.gens := mv.gens
        obtain rfl : d' = s.drawn := mv.drawn
        obtain rfl : os' = s.os := mv.os
        refine wpAny_pure ?_; show wpAny _ _ (ret Value.none) _ _ _
        refine wpAny_pure ⟨rfl, h', tk', D', rfl, R', fun c o e => mv.heap c o (fun hc => ?_) (Heap.get?_push_of_some _ (Heap.get?_push_of_some _ e))⟩
        have hcl := Heap.lt_size e
        simp only [List.mem_cons, List.not_mem_nil, or_false] at hc
        rcases hc with z | z
        · exact Nat.ne_of_lt hcl z
        · rw [hz1] at z; exact Nat.ne_of_lt (Nat.lt_succ_of_lt hcl) z
      · cases r₂ with
        | error e => exact hr₂
        | ok f2 => cases f2 with
          | ret r =>
            obtain ⟨rfl, h', tk, D', rfl, R', hk'⟩ := hr₂
            repeat (any_goals (first | assumption | wp_step))
            exact h _ _ _ R' hk'
          | _ => exact hr₂.elim
end
end Py
/-! Layer, part S: sorted(set(..)) of texts, as an expression. -/
namespace Py
open PySem PySem.Spec PySem.Froz L2 PyProof.Rows
theorem perm_of {α : Type} [DecidableEq α] : ∀ (l m : List α), l.Nodup → (∀ x ∈ l, x ∈ m) → m.length = l.length → m.Perm l
  | [], m, _, _, h => by cases m with
    | nil => exact .nil
    | cons _ _ => cases h
  | x :: l, m, nd, h, hl => by
    obtain ⟨n1, n2⟩ := List.nodup_cons.mp nd
    have hx := h x (List.mem_cons_self ..)
    have p := List.perm_cons_erase hx
    refine p.trans (.cons x (perm_of l (m.erase x) n2 (fun y hy => ?_) ?_))
    · exact (List.mem_erase_of_ne fun e : y = x => n1 (by rw [← e]; exact hy)).mpr (h y (List.mem_cons_of_mem _ hy))
    · rw [List.length_erase_of_mem hx, hl]; rfl
theorem str_is {P : Program} {w : World} {k : PySem.Str} {v : Value} (h : (strKind P w).is k v = true) : ∃ t, v = .str k t := by
  have h : Value.isStrOf k v = true := h
  cases v with
  | str y t =>
    have h : (y == k) = true := h
    exact ⟨t, by rw [beq_iff_eq.mp h]⟩
  | _ => cases h
theorem strs_are : ∀ (vs : List Value), (∀ v ∈ vs, ∃ k t, v = Value.str k t) → StrsAre vs (vs.map strOf)
  | [], _ => .nil
  | v :: vs, h => by
    obtain ⟨k, t, rfl⟩ := h v (List.mem_cons_self ..)
    exact .cons k t (strs_are vs fun u hu => h u (List.mem_cons_of_mem _ hu))
section
variable {P : Program} {w : World} {A : Around} {E : Value → Shared → Prop} {s : Shared} {a : Addr} {D : SD} {l : List PySem.Str}
theorem sorted_texts {Q : Value → Shared → Prop} (R : TxR P w s.heap a D l) (hh : A.handled = none) (h64 : l.length < 64)
    (q : ∀ (s1 : Shared) (vs : List Value) (out : Array Value) (ys : List PySem.Str) (c : Nat), (∀ b o, s.heap.get? b = some o → s1.heap.get? b = some o) → s1.gens = s.gens → s1.os = s.os → s.heap.objs.size ≤ s1.heap.objs.size →
      (sortedHeap (s1.heap.push (seqObj "list" vs.toArray 0)) s1.heap.objs.size vs out).get? s1.heap.objs.size = some (seqObj "list" out c) → StrsAre out.toList ys → ys.Perm l → sortedS ys = true →
      Q (.ref s1.heap.objs.size) { s1 with heap := sortedHeap (s1.heap.push (seqObj "list" vs.toArray 0)) s1.heap.objs.size vs out }) : wpAny (model P w) A (call (.builtin "sorted") [.ref a]) Q E s := by
  obtain ⟨es, ep, t⟩ := D
  have hz : es.size = l.length := R.ok.sz
  have hb : es.size < scanBound := by rw [hz]; exact Nat.lt_trans h64 (by decide)
  refine Calls.call_function_entry kind_sorted plain_sorted entry_sorted (args_sorted1 _) ?_; unfold Builtin.«sorted»
  refine wpAny_bind (m := checkCount "sorted" 1 1 _) (wpAny_pure ?_)
  refine wpAny_bind (collect_set (A := A.in1) hh ⟨_, R.at_, rfl, rfl⟩ R.ok.fit hb R.ris R.led fun s1 vs k1 z1 g1 o1 pm => ?_)
  have hv : ∀ v ∈ vs, ∃ k t, v = Value.str k t := fun v hv => by
    obtain ⟨e, he, rfl⟩ := List.mem_map.mp (pm.mem_iff.mp hv)
    obtain ⟨⟨k, hk, _⟩, _⟩ := R.ok.el e he
    obtain ⟨t, ht⟩ := str_is hk
    exact ⟨k, t, ht⟩
  have hS := strs_are vs hv
  have hl : vs.length = l.length := by rw [pm.length_eq, List.length_map, Array.length_toList, hz]
  have pl : (vs.map strOf).Perm l := perm_of l _ R.nd (fun x hx => by
    obtain ⟨e, he, hk⟩ := (R.ok.mem x).mp hx
    obtain ⟨t, ht⟩ := str_is hk
    exact List.mem_map.mpr ⟨e.2, pm.mem_iff.mpr (List.mem_map.mpr ⟨e, he, rfl⟩), by rw [ht]; rfl⟩) (by rw [List.length_map, hl])
  refine wpAny_bind (wpAny_newList ?_ (by rw [hl, sizeLine_eq]; omega))
  have ho : (s1.heap.push (seqObj "list" vs.toArray 0)).get? s1.heap.objs.size = some (seqObj "list" vs.toArray 0) := Heap.get?_push_size _ rfl
  refine wpAny_bind (wpAny_holding (wpAny_call_entry slot_list_sort ⟨_, ho, rfl⟩ entry_list_sort (list_sort_treeK strKind_oneLt ho hS.keysOf (fun v₁ v₂ rest e => keyKind_strs (by rw [← e]; exact hS)) (by rw [hl]; exact h64) fun st' hp hs => ⟨_, rfl, ?_⟩) (args_list_sort _)))
  obtain ⟨ys, y1, y2, y3⟩ := sorted_out_str hS hp hs
  obtain ⟨c, hc⟩ := sortedHeap_at (vs := vs) (out := (arrOf st').map (·.2)) ho
  exact wpAny_pure ⟨_, rfl, q s1 vs _ ys c k1 g1 o1 z1 hc y1 (y2.trans pl) y3⟩
end

/-! ### in the layer below -/
def TxO (P : Program) (w : World) (a : Addr) (l : List PySem.Str) : HO := .ext fun h => ∃ D, TxR P w h a D l
theorem txO_ok {P : Program} {w : World} {H : Hp} {h : Heap} {a : Addr} {l : List PySem.Str} (R : ∃ D, TxR P w h a D l) : ObjOk P w H h a (TxO P w a l) := by
  obtain ⟨D, R⟩ := R
  exact ⟨⟨D, R⟩, ⟨_, R.at_⟩, fun h1 h2 ⟨D', R'⟩ k => ⟨D', R'.at' k⟩⟩
section
variable {X : Cx}
def rSetTx (P : Program) (w : World) (K : PySem.W.Frag) : List V → Hp → VK → Prop := fun xs H Q => ∃ (b : Addr) (ks : List PySem.Str), xs = [.ref b] ∧ SqL K H b (ks.map V.str) ∧ ks.length < 1000 ∧ ∀ p, H p = none → Q (.ref p) (upd H p (TxO P w p (allS ks [])))
theorem cr_setTx (hc : X.calm = true) : CallR X (.type "set") (rSetTx X.prog X.w X.K) := fun pp s0 σ H xs us Q I r ⟨b, ks, ex, hs, hb, q⟩ => by
  subst ex
  obtain ⟨its, rv, pl, _⟩ := I.list hs
  rw [Vals.ref1 r]
  refine set_texts (I.ok.hd hc) pl.isList (by rw [List.toList_toArray]; exact rv.strs) (Nat.lt_trans (Nat.succ_lt_succ hb) (by decide)) fun h' tk D R k => ?_
  exact ⟨.ref _, _, I.laid (a := s0.heap.objs.size) (o := TxO X.prog X.w s0.heap.objs.size (allS ks [])) (h' := h') (t' := tk) k (Nat.le_refl _) (txO_ok ⟨D, R⟩), rfl, q _ (I.hok.fresh (Nat.le_refl _))⟩
def rSortTx (P : Program) (w : World) : List V → Hp → VK → Prop := fun xs H Q => ∃ (a : Addr) (l : List PySem.Str), xs = [.ref a] ∧ H a = some (TxO P w a l) ∧ l.length < 64 ∧ ∀ (ys : List PySem.Str) p, ys.Perm l → sortedS ys = true → H p = none → Q (.ref p) (upd H p (.lst (ys.map V.str)))
theorem cr_sortTx (hc : X.calm = true) : CallR X (.builtin "sorted") (rSortTx X.prog X.w) := fun pp s0 σ H xs us Q I r ⟨a, l, ex, ha, hl, q⟩ => by
  subst ex
  rw [Vals.ref1 r]
  obtain ⟨D, R⟩ := (show ObjOk X.prog X.w H s0.heap a (TxO X.prog X.w a l) from I.hok a _ ha).1
  refine sorted_texts R (I.ok.hd hc) hl fun s1 vs out ys c k g o z at_ y1 y2 y3 => ?_
  have hlen : (ys.map V.str).length ≤ sizeLine := by rw [List.length_map, y2.length_eq]; exact small64 hl
  obtain ⟨hp, gg, dd, tt, oo⟩ := s1
  obtain rfl : gg = s0.gens := g
  obtain rfl : oo = s0.os := o
  have kk : ∀ b ob, s0.heap.get? b = some ob → (sortedHeap (hp.push (seqObj "list" vs.toArray 0)) hp.objs.size vs out).get? b = some ob := fun b ob e => by
    have e1 := k b ob e
    have lt := Heap.lt_size e1
    rw [sortedHeap_old (Nat.ne_of_lt lt) (by rw [size_push']; exact Nat.lt_succ_of_lt lt)]
    exact Heap.get?_push_of_some _ e1
  have J : Inv X pp σ (upd H hp.objs.size (.lst (ys.map V.str))) { s0 with heap := sortedHeap (hp.push (seqObj "list" vs.toArray 0)) hp.objs.size vs out, gens := s0.gens, drawn := dd, toks := tt } :=
    I.call (ch := []) (Un.laid kk z (I.hok.fresh z)) (I.hok.laid kk z ⟨hlen, out.toList, c, vals_of_strs y1, by simpa using at_⟩) I.bare (fun _ zz => nomatch zz)
  exact ⟨.ref hp.objs.size, _, J, rfl, q ys _ y2 y3 (I.hok.fresh z)⟩
end
end Py
/-! Layer, part T: the rule for sorted(set(e)) of texts. -/
namespace Py
open PySem PySem.Spec L2 PyProof.Rows PyProof.V
def ltS (a b : PySem.Str) : Prop := a.cps.toList < b.cps.toList
instance : ∀ a b, Decidable (ltS a b) := fun a b => inferInstanceAs (Decidable (a.cps.toList < b.cps.toList))
theorem ltS_trans {a b c : PySem.Str} (h : ltS a b) (k : ltS b c) : ltS a c := List.lt_trans h k
theorem ltS_irr (a : PySem.Str) : ¬ ltS a a := List.lt_irrefl _
theorem ltS_tri {a b : PySem.Str} (h : ¬ ltS a b) (k : ¬ ltS b a) : a = b := by
  have e : a.cps.toList = b.cps.toList := List.le_antisymm (List.not_lt.mp k) (List.not_lt.mp h)
  obtain ⟨⟨x⟩⟩ := a
  obtain ⟨⟨y⟩⟩ := b
  simp only at e
  rw [e]
def insS (x : PySem.Str) : List PySem.Str → List PySem.Str
  | [] => [x]
  | y :: r => if x = y then y :: r else if ltS x y then x :: y :: r else y :: insS x r
/-- the different texts, in order -/
def sortSet : List PySem.Str → List PySem.Str
  | [] => []
  | x :: r => insS x (sortSet r)
theorem insS_mem {x z : PySem.Str} : ∀ {l : List PySem.Str}, z ∈ insS x l ↔ z = x ∨ z ∈ l
  | [] => by simp [insS]
  | y :: r => by
    unfold insS
    by_cases e : x = y
    · rw [if_pos e]; subst e; simp
    · rw [if_neg e]
      by_cases h : ltS x y
      · rw [if_pos h]; simp
      · rw [if_neg h, List.mem_cons, insS_mem (l := r), List.mem_cons]
        constructor
        · rintro (h | h | h) <;> simp [h]
        · rintro (h | h | h) <;> simp [h]
theorem sortSet_mem {z : PySem.Str} : ∀ {l : List PySem.Str}, z ∈ sortSet l ↔ z ∈ l
  | [] => Iff.rfl
  | x :: r => by
    show z ∈ insS x (sortSet r) ↔ _
    rw [insS_mem, sortSet_mem, List.mem_cons]
theorem insS_ord {x : PySem.Str} : ∀ {l : List PySem.Str}, l.Pairwise ltS → (insS x l).Pairwise ltS
  | [], _ => List.pairwise_singleton _ _
  | y :: r, h => by
    obtain ⟨h1, h2⟩ := List.pairwise_cons.mp h
    unfold insS
    by_cases e : x = y
    · rw [if_pos e]; exact h
    · rw [if_neg e]
      by_cases k : ltS x y
      · rw [if_pos k]
        refine List.pairwise_cons.mpr ⟨fun z hz => ?_, h⟩
        rcases List.mem_cons.mp hz with q | q
        · subst q; exact k
        · exact ltS_trans k (h1 z q)
      · rw [if_neg k]
        refine List.pairwise_cons.mpr ⟨fun z hz => ?_, insS_ord h2⟩
        rcases insS_mem.mp hz with q | q
        · subst q
          exact Classical.byContradiction fun c => e (ltS_tri k c)
        · exact h1 z q
theorem sortSet_ord : ∀ l : List PySem.Str, (sortSet l).Pairwise ltS
  | [] => .nil
  | _ :: r => insS_ord (sortSet_ord r)
theorem ord_uniq : ∀ {l m : List PySem.Str}, l.Pairwise ltS → m.Pairwise ltS → (∀ z, z ∈ l ↔ z ∈ m) → l = m
  | [], [], _, _, _ => rfl
  | [], y :: _, _, _, h => absurd ((h y).mpr (List.mem_cons_self ..)) (by simp)
  | x :: _, [], _, _, h => absurd ((h x).mp (List.mem_cons_self ..)) (by simp)
  | x :: l, y :: m, hl, hm, h => by
    obtain ⟨l1, l2⟩ := List.pairwise_cons.mp hl
    obtain ⟨m1, m2⟩ := List.pairwise_cons.mp hm
    have e : x = y := by
      rcases List.mem_cons.mp ((h x).mp (List.mem_cons_self ..)) with q | q
      · exact q
      · rcases List.mem_cons.mp ((h y).mpr (List.mem_cons_self ..)) with q2 | q2
        · exact q2.symm
        · exact absurd (ltS_trans (m1 x q) (l1 y q2)) (ltS_irr _)
    subst e
    refine congrArg _ (ord_uniq l2 m2 fun z => ⟨fun hz => ?_, fun hz => ?_⟩)
    · rcases List.mem_cons.mp ((h z).mp (List.mem_cons_of_mem _ hz)) with q | q
      · subst q; exact absurd (l1 z hz) (ltS_irr _)
      · exact q
    · rcases List.mem_cons.mp ((h z).mpr (List.mem_cons_of_mem _ hz)) with q | q
      · subst q; exact absurd (m1 z hz) (ltS_irr _)
      · exact q
theorem rising_ord : ∀ {p : PySem.Str} {r : List PySem.Str}, risingS p r = true → (p :: r).Nodup → (p :: r).Pairwise ltS
  | p, [], _, _ => List.pairwise_singleton _ _
  | p, x :: r, h, nd => by
    have h : (!ltCps x.cps.toList p.cps.toList && risingS x r) = true := h
    obtain ⟨h1, h2⟩ := Bool.and_eq_true_iff.mp h
    obtain ⟨n1, n2⟩ := List.nodup_cons.mp nd
    have ih := rising_ord h2 n2
    have hpx : ltS p x := by
      refine Classical.byContradiction fun c => ?_
      have c2 : ¬ ltS x p := by
        rw [ltCps_eq] at h1
        simpa [ltS] using h1
      exact n1 (ltS_tri c c2 ▸ List.mem_cons_self ..)
    refine List.pairwise_cons.mpr ⟨fun z hz => ?_, ih⟩
    rcases List.mem_cons.mp hz with q | q
    · subst q; exact hpx
    · exact ltS_trans hpx ((List.pairwise_cons.mp ih).1 z q)
theorem sorted_ord {l : List PySem.Str} (h : sortedS l = true) (nd : l.Nodup) : l.Pairwise ltS := by
  cases l with
  | nil => exact .nil
  | cons x r => exact rising_ord h nd
theorem putS_mem {l : List PySem.Str} {k z : PySem.Str} : z ∈ putS l k ↔ z = k ∨ z ∈ l := by
  unfold putS
  split
  · next h => exact ⟨.inr, fun q => q.elim (fun e => e ▸ h) id⟩
  · exact List.mem_cons
theorem putS_nd {l : List PySem.Str} {k : PySem.Str} (h : l.Nodup) : (putS l k).Nodup := by
  unfold putS
  split
  · exact h
  · next c => exact List.nodup_cons.mpr ⟨c, h⟩
theorem allS_mem {z : PySem.Str} : ∀ {ks l : List PySem.Str}, z ∈ allS ks l ↔ z ∈ ks ∨ z ∈ l
  | [], l => by simp [allS]
  | k :: ks, l => by
    show z ∈ allS ks (putS l k) ↔ _
    rw [allS_mem, putS_mem, List.mem_cons]
    constructor
    · rintro (h | h | h) <;> simp [h]
    · rintro ((h | h) | h) <;> simp [h]
theorem allS_nd : ∀ {ks l : List PySem.Str}, l.Nodup → (allS ks l).Nodup
  | [], _, h => h
  | k :: ks, l, h => by
    show (allS ks (putS l k)).Nodup
    exact allS_nd (putS_nd h)
theorem sorted_is {ks ys : List PySem.Str} (p : ys.Perm (allS ks [])) (h : sortedS ys = true) : ys = sortSet ks :=
  ord_uniq (sorted_ord h (p.nodup_iff.mpr (allS_nd .nil))) (sortSet_ord ks) fun z => by rw [p.mem_iff, allS_mem, sortSet_mem]; simp
theorem insS_len (x : PySem.Str) : ∀ l : List PySem.Str, (insS x l).length ≤ l.length + 1
  | [] => Nat.le_refl _
  | y :: r => by
    unfold insS
    split
    · simp
    · split
      · simp
      · have := insS_len x r
        simp only [List.length_cons]; omega
theorem sortSet_len : ∀ l : List PySem.Str, (sortSet l).length ≤ l.length
  | [] => Nat.le_refl _
  | x :: r => by
    have h1 := insS_len x (sortSet r)
    have h2 := sortSet_len r
    show (insS x (sortSet r)).length ≤ r.length + 1
    omega
def sSortSet (me : Me) : Me := fun ρ δ => (me ρ δ).bind fun p => (listOf p.1).bind fun ds => (strsD ds).bind fun ys => if ys.length < 64 then some (.o (.lst ((sortSet ys).map .str)), p.2) else none
theorem reps_strs {W : Wd} {F : Hp} : ∀ ys : List PySem.Str, Reps W F (ys.map V.str) (ys.map D.str)
  | [] => .nil
  | _ :: r => .cons (.str _) (reps_strs r)
theorem lkSortSet {X : Cx} {W : Wd} {n : Nat} {e : Expr} {me : Me} {pos pos' p p' : Pos} (C : Cok W n X) (hm : X.mg "sorted" = none) (hm2 : X.mg "set" = none) (he : PE X e (tX W me)) (hg : Gl X "sorted" := by rfl) (hg2 : Gl X "set" := by rfl)
    (hs : starEach [e] X.env = (false, eval e X.env) :: starEach [] X.env := by rfl) (hs2 : starEach [.Call (.Name "set" p') [e] [] pos'] X.env = (false, eval (.Call (.Name "set" p') [e] [] pos') X.env) :: starEach [] X.env := by rfl)
    (hpl : (backTo pos' (starEach [] X.env)).any (·.1) = false := by rfl) (hpl2 : (backTo pos (starEach [] X.env)).any (·.1) = false := by rfl) : PE X (.Call (.Name "sorted" p) [.Call (.Name "set" p') [e] [] pos'] [] pos) (tX W (sSortSet me)) :=
  peImp (pe_callB (cr_sortTx C.calm) hg hm (by decide +kernel) (pa_cons (pe_callTy (cr_setTx C.calm) hg2 hm2 (by decide +kernel) (pa_cons he pa_nil hs) (he := hs) (hpl := hpl)) pa_nil hs2) (he := hs2) (hpl := hpl2)) fun σ H Q ⟨F₀, H₀, ρ, F, δ, b, δ', G, hm, k⟩ => by
    obtain ⟨⟨b1, δ1⟩, h1, hm⟩ := Option.bind_eq_some_iff.mp hm
    obtain ⟨ds, h2, hm⟩ := Option.bind_eq_some_iff.mp hm
    obtain ⟨ys, h3, hm⟩ := Option.bind_eq_some_iff.mp hm
    split at hm
    · next hc =>
      cases hm
      refine ⟨F₀, H₀, ρ, F, δ, b1, _, G, h1, fun v F1 H1 g1 v1 => ?_⟩
      obtain ⟨a, vs, rfl, q, rs⟩ := v1.rv.lst g1.fh h2
      have ev := strs_rep rs h3
      subst ev
      refine ⟨a, ys, rfl, .inl (.inl q), Nat.lt_trans hc (by decide), fun p1 hp1 => ?_⟩
      have g2 := go_new (o := TxO X.prog X.w p1 (allS ys [])) g1.fh g1.dr hp1
      refine ⟨p1, allS ys [], rfl, upd_same, ?_, fun zs p2 pm so hp2 => ?_⟩
      · have := allS_len ys []
        simp only [List.length_nil, Nat.zero_add] at this
        exact Nat.lt_of_le_of_lt this hc
      · rw [sorted_is pm so]
        exact newL (F := F1) g2.fh g2.dr hp2 (reps_strs _) fun v F' H' g3 v3 => k v F' H' ((g1.trans g2).trans g3) (v3.back (g1.trans g2))
    · cases hm
end Py
/-! Layer, part U: the draws. -/
namespace Py
open PySem L2 PyProof.Rows

inductive DK where
  | rest | turn | mix
def DK.nm : DK → PySem.Str
  | .rest => "rest" | .turn => "turn" | .mix => "mix"
def DK.get : DK → DS → Int
  | .rest, δ => δ.rest | .turn, δ => δ.turn | .mix, δ => δ.mix
def DK.set : DK → Int → DS → DS
  | .rest, v, δ => { δ with rest := v } | .turn, v, δ => { δ with turn := v } | .mix, v, δ => { δ with mix := v }
def DK.ok : DK → Int → Bool
  | .rest, v => decide (0 ≤ v) | .turn, _ => true | .mix, v => decide (0 ≤ v ∧ v < 2147483629)
def isDrw (ρ : En) (i : Nat) : Bool := match ρ[i]? with
  | some (some (.f .drw)) => true
  | _ => false
theorem isDrw_at {ρ : En} {i : Nat} (h : isDrw ρ i = true) : ρ[i]? = some (some (.f .drw)) := by
  unfold isDrw at h
  split at h
  · next e => exact e
  · cases h
section
variable {W : Wd} {F₀ H₀ F H : Hp} {σ : L2.St} {ρ : En} {δ : DS}
theorem Good.drw (G : Good W F₀ H₀ σ ρ F H δ) {i : Nat} (h : isDrw ρ i = true) : σ[i]? = some (some (.ref W.ad)) ∧ W.on = true ∧ DrawOk W H δ := by
  obtain ⟨v, hv, s⟩ := G.sl i _ (isDrw_at h)
  have s : Rep W F v .drw := s
  cases s with
  | drw on => exact ⟨hv, on, G.go.dr on⟩
theorem drw_get (k : DK) (h : DrawOk W H δ) : DGet H W.ad (.str k.nm) (some (.int (k.get δ))) := by
  have q := DGet.k (k := .inr k.nm) h.d
  have e : valV (drawFs W δ) (.inr k.nm) = some (.int (k.get δ)) := by cases k <;> rfl
  rw [e] at q
  exact q
theorem drw_large (h : DrawOk W H δ) : DGet H W.ad (.str "large") (some (.ref W.al)) := DGet.k (k := .inr "large") h.d
theorem drw_cells (h : DrawOk W H δ) : DGet H W.ad (.str "cells") (some (.ref W.ac)) := DGet.k (k := .inr "cells") h.d
theorem drw_ne (h : DrawOk W H δ) : W.al ≠ W.ad ∧ W.ac ≠ W.ad := ⟨fun e => (by have q := h.l; rw [e, h.d] at q; cases q), fun e => (by have q := h.c; rw [e, h.d] at q; cases q)⟩
theorem drw_put {k : DK} {v : Int} (h : DrawOk W H δ) (hv : k.ok v = true) : DPut H W.ad (.str k.nm) (.int v) (upd H W.ad (.dK (drawFs W (k.set v δ)))) ∧ DrawOk W (upd H W.ad (.dK (drawFs W (k.set v δ)))) (k.set v δ) := by
  have e : putK (drawFs W δ) (.inr k.nm) (.int v) = drawFs W (k.set v δ) := by cases k <;> rfl
  have q := DPut.k (k := .inr k.nm) (v := .int v) h.d (show 5 < sizeLine by decide)
  rw [e] at q
  obtain ⟨n1, n2⟩ := drw_ne h
  refine ⟨q, { d := upd_same, l := ?_, c := ?_, lc := ?_, r0 := ?_, m0 := ?_, lg := ?_, ne := h.ne }⟩
  · rw [upd_ne n1]; cases k <;> exact h.l
  · rw [upd_ne n2]; cases k <;> exact h.c
  · cases k <;> exact h.lc
  · cases k with
    | rest => exact of_decide_eq_true hv
    | turn => exact h.r0
    | mix => exact h.r0
  · cases k with
    | rest => exact h.m0
    | turn => exact h.m0
    | mix => exact of_decide_eq_true hv
  · cases k <;> exact h.lg
/-- the draws' own objects change -/
theorem Go.drw {δ' : DS} {o : HO} {H1 : Hp} (e : Ext F H) (on : W.on = true) (dn : ∀ a, W.dr a → F a = none) (hh : ∀ a, ¬ W.dr a → H1 a = H a) (d : DrawOk W H1 δ') (d0 : DrawOk W H δ) : Go W F H F H1 δ' where
  ff := .refl
  fh := fun a o h => by
    rw [hh a fun z => by rw [dn a z] at h; cases h]
    exact e a o h
  hh := fun a o h n => by rw [hh a n]; exact h
  nw := fun a o h => .inl h
  dr := fun _ => d
end
section
variable {X : Cx} {W : Wd} {n : Nat} {x : PySem.Str} {e : Expr} {me : Me} {pos pos' p px pk : Pos} {j j2 : Nat}
def sDrI (i : Nat) (k : DK) : Me := fun ρ δ => if isDrw ρ i then some (.f (.int (k.get δ)), δ) else none
theorem lkDrI (C : Cok W n X) (i : Nat) (k : DK) (hN : X.N[i]? = some x := by rfl) (hv : Vis X.env.scope x := by first | exact Or.inl rfl | exact Or.inr (Or.inl rfl) | exact Or.inr (Or.inr rfl)) (hd : (x == ("__debug__" : PySem.Str)) = false := by decide) (hcd : (x == ("__classdict__" : PySem.Str)) = false := by decide)
    (hs : NoSl (.Constant (.str k.nm) j pk) := by exact fun _ _ => rfl) : PE X (.Subscript (.Name x px) (.Constant (.str k.nm) j pk) pos) (tX W (sDrI i k)) := peImp (pe_dget (un1 C) (pe_var hN hv hd hcd) pe_str hs) fun σ H Q ⟨F₀, H₀, ρ, F, δ, b, δ', G, hm, kq⟩ => by
  unfold sDrI at hm
  split at hm
  · next h =>
    cases hm
    obtain ⟨h1, on, ok⟩ := G.drw h
    exact ⟨_, h1, W.ad, _, rfl, drw_get k ok, kq _ F H (.refl G.go.fh G.go.dr) (.int _)⟩
  · cases hm
/-- draw['large'] != [] -/
def tDrL (i : Nat) : MeT := fun ρ δ => if isDrw ρ i then some (!δ.large.isEmpty, δ) else none
theorem eqv_nil (ns : List Int) : PyData.eqv (.list (ns.map PyData.int)) (.list []) = ns.isEmpty := by cases ns <;> rfl
theorem dp_ints {K : PySem.W.Frag} {H : Hp} : ∀ ns : List Int, DpAll K H (ns.map V.int) (ns.map PyData.int)
  | [] => .nil
  | n :: ns => .cons (.int n) (dp_ints ns)
theorem lkDrL (C : Cok W n X) (i : Nat) (hN : X.N[i]? = some x := by rfl) (hv : Vis X.env.scope x := by first | exact Or.inl rfl | exact Or.inr (Or.inl rfl) | exact Or.inr (Or.inr rfl)) (hd : (x == ("__debug__" : PySem.Str)) = false := by decide) (hcd : (x == ("__classdict__" : PySem.Str)) = false := by decide)
    (hs : NoSl (.Constant (.str "large") j pk) := by exact fun _ _ => rfl) : PT X (.Compare (.Subscript (.Name x px) (.Constant (.str "large") j pk) pos) [.NotEq] [.List [] p] pos') (tXT W (tDrL i)) :=
  ptImp (pt_cmpR (op_neD C.room.units) (pe_dget (un1 C) (pe_var hN hv hd hcd) pe_str hs) (pe_lst pa_nil) (nomark _)) fun σ H Q ⟨F₀, H₀, ρ, F, δ, b, δ', G, hm, kq⟩ => by
    unfold tDrL at hm
    split at hm
    · next h =>
      cases hm
      obtain ⟨h1, on, ok⟩ := G.drw h
      refine ⟨_, h1, W.ad, _, rfl, drw_large ok, ⟨Nat.zero_le _, fun q hq => ?_⟩⟩
      have g := go_new (o := .lst []) G.go.fh G.go.dr hq
      rw [C.k]
      refine ⟨.list (δ.large.map PyData.int), .list [], .lst (.inl (.inl ?_)) (dp_ints _), .lst (.inl (.inl upd_same)) .nil, PySem.W.ke_shaped_ints _, rfl, ?_⟩
      · rw [upd_ne (ne_of_none ok.l hq)]; exact ok.l
      · rw [eqv_nil]
        exact ⟨_, rfl, kq F _ g⟩
    · cases hm
/-- draw['rest'] = draw['large'].pop(0) -/
def sDrPop (i : Nat) : MeS := fun ρ δ => if isDrw ρ i then match δ.large with
  | z :: l => some (.nx ρ { δ with large := l, rest := z })
  | [] => none
  else none
theorem lkDrPop (C : Cok W n X) (i : Nat) {pa p0 p2 p3 p4 pc ps : Pos} {j3 : Nat} (hN : X.N[i]? = some x := by rfl) (hv : Vis X.env.scope x := by first | exact Or.inl rfl | exact Or.inr (Or.inl rfl) | exact Or.inr (Or.inr rfl)) (hd : (x == ("__debug__" : PySem.Str)) = false := by decide) (hcd : (x == ("__classdict__" : PySem.Str)) = false := by decide)
    (hs1 : NoSl (.Constant (.str "large") j pk) := by exact fun _ _ => rfl)
    (hbase : attributeBase (.Subscript (.Name x px) (.Constant (.str "large") j pk) pos) "pop" X.env (eval (.Subscript (.Name x px) (.Constant (.str "large") j pk) pos) X.env) = eval (.Subscript (.Name x px) (.Constant (.str "large") j pk) pos) X.env := by rfl)
    (hfew : ((backTo pc (starEach [.Constant (.int 0) j2 p0] X.env)).all (fun x => !x.1) && (backToKw pc (keywordEach [] X.env)).all (fun x => x.1.isSome) && decide (([Expr.Constant (.int 0) j2 p0] : List Expr).length + ([] : List Keyword).length + (if ([] : List Keyword).isEmpty then 0 else 1) < 30)) = true := by rfl)
    (hline : (pa.endLine == pc.line) = true := by rfl) (hst : starEach [.Constant (.int 0) j2 p0] X.env = (false, eval (.Constant (.int 0) j2 p0) X.env) :: starEach [] X.env := by rfl) (hplain : (backTo pc (starEach [] X.env)).any (·.1) = false := by rfl)
    (hsw : swapsWith (.Call (.Attribute (.Subscript (.Name x px) (.Constant (.str "large") j pk) pos) "pop" pa) [.Constant (.int 0) j2 p0] [] pc) (some (.Subscript (.Name x p2) (.Constant (.str "rest") j3 p3) p4)) ps.line X.env = pure false := by rfl) :
    PS X (.Assign [.Subscript (.Name x p2) (.Constant (.str "rest") j3 p3) p4] (.Call (.Attribute (.Subscript (.Name x px) (.Constant (.str "large") j pk) pos) "pop" pa) [.Constant (.int 0) j2 p0] [] pc) ps) (tS W (sDrPop i)) :=
  psImp (ps_dput (un1 C) (pe_var hN hv hd hcd) pe_str (pe_bm PySem.F.plainAttrs_list PySem.F.slot_list_pop PySem.F.type_list_pop mt_popAt (pe_dget (un1 C) (pe_var hN hv hd hcd) pe_str hs1) (pa_cons pe_int pa_nil hst) hbase hfew hline hst hplain) hsw) fun D σ H ⟨F₀, H₀, ρ, F, δ, r, G, hm, kq⟩ => by
    unfold sDrPop at hm
    split at hm
    · next h =>
      obtain ⟨h1, on, ok⟩ := G.drw h
      match hL : δ.large, hm with
      | z :: l, hm =>
        cases hm
        have okl := ok.l
        rw [hL] at okl
        obtain ⟨n1, n2⟩ := drw_ne ok
        refine ⟨_, h1, W.ad, _, rfl, drw_large ok, .inl ⟨rfl, _, .inl (.inl okl)⟩, W.al, _, 0, 0, _, rfl, rfl, okl, by decide, by decide, six0 _, rfl, _, h1, ?_⟩
        have ok2 : DrawOk W (upd H W.al (.lst (l.map V.int))) { δ with large := l } := ⟨by rw [upd_ne n1.symm]; exact ok.d, upd_same, by
          rw [upd_ne ok.ne.symm]
          exact ok.c, ok.lc, ok.r0, ok.m0, fun y hy => ok.lg y (by rw [hL]; exact List.mem_cons_of_mem _ hy), ok.ne⟩
        obtain ⟨q1, q2⟩ := drw_put (k := .rest) (v := z) ok2 (decide_eq_true (ok.lg z (by rw [hL]; exact List.mem_cons_self ..)))
        refine ⟨W.ad, _, rfl, q1, kq σ F _ .refl (G.later (Go.drw (o := .lst []) G.go.fh on G.dn (fun a na => ?_) q2 ok))⟩
        have a1 : a ≠ W.ad := fun e => na ⟨on, .inl e⟩
        have a2 : a ≠ W.al := fun e => na ⟨on, .inr e⟩
        rw [upd_ne a1]
        exact upd_ne a2
    · cases hm
/-- draw[k] = e -/
def sDrSet (i : Nat) (k : DK) (me : Me) : MeS := fun ρ δ => if isDrw ρ i then (me ρ δ).bind fun p => match p.1 with
  | .f (.int v) => if k.ok v then some (.nx ρ (k.set v p.2)) else none
  | _ => none
  else none
theorem lkDrSet (C : Cok W n X) (i : Nat) (k : DK) {p2 : Pos} (he : PE X e (tX W me)) (hN : X.N[i]? = some x := by rfl) (hv : Vis X.env.scope x := by first | exact Or.inl rfl | exact Or.inr (Or.inl rfl) | exact Or.inr (Or.inr rfl)) (hd : (x == ("__debug__" : PySem.Str)) = false := by decide) (hcd : (x == ("__classdict__" : PySem.Str)) = false := by decide)
    (hsw : swapsWith e (some (.Subscript (.Name x px) (.Constant (.str k.nm) j pk) p2)) pos.line X.env = pure false := by rfl) : PS X (.Assign [.Subscript (.Name x px) (.Constant (.str k.nm) j pk) p2] e pos) (tS W (sDrSet i k me)) :=
  psImp (ps_dput (un1 C) (pe_var hN hv hd hcd) pe_str he hsw) fun D σ H ⟨F₀, H₀, ρ, F, δ, r, G, hm, kq⟩ => by
    unfold sDrSet at hm
    split at hm
    · next h =>
      obtain ⟨⟨b1, δ1⟩, h1, hm⟩ := Option.bind_eq_some_iff.mp hm
      refine ⟨F₀, H₀, ρ, F, δ, b1, δ1, G, h1, fun v F1 H1 g1 v1 => ?_⟩
      match b1, hm, v1 with
      | .f (.int z), hm, v1 =>
        have hm : (if k.ok z = true then _ else _) = _ := hm
        by_cases hc : k.ok z = true
        · rw [if_pos hc] at hm
          cases hm
          cases v1
          have G1 := G.later g1
          obtain ⟨h2, on, ok⟩ := G1.drw h
          obtain ⟨q1, q2⟩ := drw_put ok hc
          exact ⟨_, h2, W.ad, _, rfl, q1, kq σ F1 _ g1.ff (G1.later (Go.drw (o := .lst []) G1.go.fh on G1.dn (fun a na => upd_ne fun e => na ⟨on, .inl e⟩) q2 ok))⟩
        · rw [if_neg hc] at hm; cases hm
    · cases hm
/-- [draw['turn']] + draw['cells'] -/
def sDrAll (i : Nat) (ms : MeL) : Me := fun ρ δ => if isDrw ρ i then (sLst ms ρ δ).bind fun p => match p.1 with
  | .o (.lst ds) => if ds.length ≤ cap then some (.o (.lst (ds ++ p.2.cells.map .int)), p.2) else none
  | _ => none
  else none
theorem lkDrAll (C : Cok W n X) (i : Nat) {es : List Expr} {ms : MeL} {p2 p3 : Pos} (ha : PA X es (tXA W ms)) (hN : X.N[i]? = some x := by rfl) (hv : Vis X.env.scope x := by first | exact Or.inl rfl | exact Or.inr (Or.inl rfl) | exact Or.inr (Or.inr rfl)) (hd : (x == ("__debug__" : PySem.Str)) = false := by decide) (hcd : (x == ("__classdict__" : PySem.Str)) = false := by decide)
    (hs1 : NoSl (.Constant (.str "cells") j pk) := by exact fun _ _ => rfl) : PE X (.BinOp (.List es p2) .Add (.Subscript (.Name x px) (.Constant (.str "cells") j pk) pos) p3) (tX W (sDrAll i ms)) :=
  peImp (pe_op op_cat (lkLst ha) (pe_dget (un1 C) (pe_var hN hv hd hcd) pe_str hs1)) fun σ H Q ⟨F₀, H₀, ρ, F, δ, b, δ', G, hm, kq⟩ => by
    unfold sDrAll at hm
    split at hm
    · next h =>
      obtain ⟨⟨b1, δ1⟩, h1, hm⟩ := Option.bind_eq_some_iff.mp hm
      refine ⟨F₀, H₀, ρ, F, δ, b1, δ1, G, h1, fun v F1 H1 g1 v1 => ?_⟩
      match b1, hm, v1 with
      | .o (.lst ds), hm, v1 =>
        have hm : (if ds.length ≤ cap then _ else _) = _ := hm
        by_cases hc : ds.length ≤ cap
        · rw [if_pos hc] at hm
          cases hm
          obtain ⟨h2, on, ok⟩ := (G.later g1).drw h
          obtain ⟨a, rfl, n0, f0, nd, vs, q, rs⟩ := v1
          refine ⟨_, h2, W.ad, _, rfl, drw_cells ok, a, W.ac, vs, _, rfl, rfl, q, ok.c, ?_, fun p hp => newL g1.fh g1.dr hp (rs.append (Reps.mapInt _)) fun v F2 H2 g2 v2 => kq v F2 H2 (g1.trans g2) (v2.back g1)⟩
          have h63 := ok.lc
          rw [rs.length, List.length_map]
          exact Nat.le_trans (Nat.add_le_add hc h63) (by decide)
        · rw [if_neg hc] at hm; cases hm
    · cases hm
/-- draw['rest'], x = e -/
def sDrPair (i l : Nat) (me : Me) : MeS := fun ρ δ => if isDrw ρ i then (me ρ δ).bind fun p => match p.1 with
  | .f (.tup [.int a, d]) => if DK.ok .rest a then some (.nx (ρ.set l (some (.f d))) (DK.set .rest a p.2)) else none
  | _ => none
  else none
theorem lkDrPair (C : Cok W n X) (i l : Nat) {y : PySem.Str} {py p2 pt : Pos} {kt : Nat} (he : PE X e (tX W me)) (hy : X.N[l]? = some y) (hyl : Loc X.env.scope y) (hf : X.fn y = true ∨ X.env.scope.names.lookup y = some .local) (hN : X.N[i]? = some x := by rfl) (hv : Vis X.env.scope x := by first | exact Or.inl rfl | exact Or.inr (Or.inl rfl) | exact Or.inr (Or.inr rfl)) (hd : (x == ("__debug__" : PySem.Str)) = false := by decide) (hcd : (x == ("__classdict__" : PySem.Str)) = false := by decide)
    (hsg : ∀ v, assign (.Subscript (.Name x px) (.Constant (.str "rest") j pk) p2) X.env v = (do
      let ov ← holding [v] (eval (.Name x px) X.env)
      let iv ← holding [v, ov] (eval (.Constant (.str "rest") j pk) X.env)
      standAt p2
      holding [v, ov, iv] (setItem ov iv v)
      release [v, ov, iv] []) := by intro _; rfl)
    (hsc : (assignEach [.Subscript (.Name x px) (.Constant (.str "rest") j pk) p2, .Name y py] X.env).map (·.2) = assign (.Subscript (.Name x px) (.Constant (.str "rest") j pk) p2) X.env :: (assignEach [.Name y py] X.env).map (·.2) := by rfl) (hsc2 : (assignEach [.Name y py] X.env).map (·.2) = assign (.Name y py) X.env :: (assignEach [] X.env).map (·.2) := by rfl)
    (hn : (assignEach [.Subscript (.Name x px) (.Constant (.str "rest") j pk) p2, .Name y py] X.env).length = 2 := by rfl) (hst : (assignEach [.Subscript (.Name x px) (.Constant (.str "rest") j pk) p2, .Name y py] X.env).findIdx? (·.1) = none := by rfl)
    (hs : swapsWithSole [.Tuple [.Subscript (.Name x px) (.Constant (.str "rest") j pk) p2, .Name y py] kt pt] e pos.line X.env = pure false := by rfl) (hw : swappedStores [.Tuple [.Subscript (.Name x px) (.Constant (.str "rest") j pk) p2, .Name y py] kt pt] e X.env = pure none := by rfl)
    (h1 : (assignEach [.Tuple [.Subscript (.Name x px) (.Constant (.str "rest") j pk) p2, .Name y py] kt pt] X.env).map (·.2) = [assign (.Tuple [.Subscript (.Name x px) (.Constant (.str "rest") j pk) p2, .Name y py] kt pt) X.env] := by rfl) :
    PS X (.Assign [.Tuple [.Subscript (.Name x px) (.Constant (.str "rest") j pk) p2, .Name y py] kt pt] e pos) (tS W (sDrPair i l me)) :=
  psImp (ps_asg he (pg_tup C.calm (pgs_cons (pg_sub (pe_var hN hv hd hcd) pe_str (set_dict (un1 C)) hsg) (pgs_cons (pg_name C.nd hy hyl hf) pgs_nil hsc2) hsc) hn hst) hs hw h1) fun D σ H ⟨F₀, H₀, ρ, F, δ, r, G, hm, kq⟩ => by
    unfold sDrPair at hm
    split at hm
    · next h =>
      obtain ⟨⟨b1, δ1⟩, h1, hm⟩ := Option.bind_eq_some_iff.mp hm
      refine ⟨F₀, H₀, ρ, F, δ, b1, δ1, G, h1, fun v F1 H1 g1 v1 => ?_⟩
      match b1, hm, v1 with
      | .f (.tup [.int z, d]), hm, v1 =>
        have hm : (if DK.ok .rest z = true then _ else _) = _ := hm
        by_cases hc : DK.ok .rest z = true
        · rw [if_pos hc] at hm
          cases hm
          cases v1 with
          | tup q rs =>
            cases rs with
            | cons r1 rs => cases rs with
              | cons r2 rs =>
                cases rs
                cases r1
                have G1 := G.later g1
                obtain ⟨h2, on, ok⟩ := G1.drw h
                obtain ⟨q1, q2⟩ := drw_put (k := .rest) ok hc
                have G2 := G1.later (Go.drw (o := .lst []) G1.go.fh on G1.dn (fun a na => upd_ne fun e => na ⟨on, .inl e⟩) q2 ok)
                exact ⟨_, _, rfl, tq (g1.fh _ _ q), rfl, _, _, rfl, _, h2, W.ad, _, rfl, q1, _, _, rfl, rfl, kq _ F1 _ g1.ff (G2.setF l r2)⟩
        · rw [if_neg hc] at hm; cases hm
    · cases hm
/-! ### ints -/
def powI : B → B → Option B := iiC (fun i j => decide (0 ≤ j ∧ j ≤ 1000000 ∧ i.natAbs < 2 ^ 64)) fun i j => .int (i ^ j.toNat)
theorem lkPow {a b : Expr} {ma mb : Me} (ha : PE X a (tX W ma)) (hb : PE X b (tX W mb)) : PE X (.BinOp a .Pow b pos) (tX W (s2 powI ma mb)) := lkBin op_pow (op2_I (fun _ _ h => show _ ∧ _ ∧ _ from of_decide_eq_true h) fun _ _ _ => .int _) ha hb
def intB : List B → Option B
  | [.f (.int i)] => some (.f (.int i))
  | [.f (.bl k)] => some (.f (.int (if k then 1 else 0)))
  | _ => none
theorem opn_int : OpN W (fun xs H Q => (∃ i, xs = [V.int i] ∧ Q (.int i) H) ∨ ∃ k, xs = [V.bl k] ∧ Q (.int (if k then 1 else 0)) H) intB := fun F H δ xs bs b e dr rs hg H₀ Q k => by
  match bs, hg, rs with
  | [.f (.int i)], hg, .cons r .nil => cases hg; cases r; exact .inl ⟨i, rfl, fin e dr (.int _) k⟩
  | [.f (.bl i)], hg, .cons r .nil => cases hg; cases r; exact .inr ⟨i, rfl, fin e dr (.int _) k⟩
theorem lkInt1 {es : List Expr} {ms : MeV} (hm : X.mg "int" = none) (ha : PA X (e :: es) (tXV W ms)) (hg : Gl X "int" := by rfl) (he : starEach (e :: es) X.env = (false, eval e X.env) :: starEach es X.env := by rfl) (hpl : (backTo pos (starEach es X.env)).any (·.1) = false := by rfl) :
    PE X (.Call (.Name "int" p) (e :: es) [] pos) (tX W (sB intB ms)) := lkTy call_int1 opn_int hm ha (hg := hg) (he := he) (hpl := hpl)
end
end Py
/-! Layer, part V: a law's beginning. -/
namespace Py
open PySem L2 PyProof.Rows

/-! ### _law_begin -/
def absI (z : Int) : Int := if z < 0 then -z else z
def largeOf (ns : List Int) : List Int := (ns.filter fun z => decide (1000000000000000000 ≤ absI z)).map absI
def begD (ns : List Int) : DS := { large := largeOf ns, cells := ns, rest := 0, turn := 0, mix := 7 }
def mBeg : MeS := sAsg 1 (sLc (mIt (sVar 0)) (gNm 2) (sTest (s2 geA (sB absB (vCons (sVar 2) vNil)) (s2 powI (sC (.int 10)) (sC (.int 18))))) (sB absB (vCons (sVar 2) vNil)) [2])
theorem beg_lc (ρ0 : Option B) (δ : DS) : ∀ ns : List Int, lcF (gNm 2) (sTest (s2 geA (sB absB (vCons (sVar 2) vNil)) (s2 powI (sC (.int 10)) (sC (.int 18))))) (sB absB (vCons (sVar 2) vNil)) [ρ0, none, none] (ns.map D.int) δ = some ((largeOf ns).map D.int, δ)
  | [] => rfl
  | n :: ns => by
    have ih := beg_lc ρ0 δ ns
    have h1 : (sTest (s2 geA (sB absB (vCons (sVar 2) vNil)) (s2 powI (sC (.int 10)) (sC (.int 18))))) [ρ0, none, some (.f (.int n))] δ = some (decide (1000000000000000000 ≤ absI n), δ) := rfl
    have h2 : (sB absB (vCons (sVar 2) vNil)) [ρ0, none, some (.f (.int n))] δ = some (.f (.int (absI n)), δ) := rfl
    show lcF _ _ _ _ (D.int n :: ns.map D.int) δ = _
    rw [lcF, show gNm 2 (.int n) [ρ0, none, none] = some [ρ0, none, some (.f (.int n))] from rfl, Option.bind_some, h1]
    show (if decide (1000000000000000000 ≤ absI n) = true then _ else _) = _
    by_cases c : 1000000000000000000 ≤ absI n
    · rw [if_pos (decide_eq_true c), h2]
      show (lcF _ _ _ _ (ns.map D.int) δ).bind _ = _
      rw [ih]
      unfold largeOf
      rw [show (n :: ns).filter (fun z => decide (1000000000000000000 ≤ absI z)) = n :: ns.filter (fun z => decide (1000000000000000000 ≤ absI z)) by simp [List.filter_cons, c]]
      rfl
    · rw [if_neg (by simpa using c), ih]
      unfold largeOf
      rw [show (n :: ns).filter (fun z => decide (1000000000000000000 ≤ absI z)) = ns.filter (fun z => decide (1000000000000000000 ≤ absI z)) by simp [List.filter_cons, c]]
theorem mBeg_is (ns : List Int) (δ : DS) (hl : ns.length ≤ 63) : mBeg [some (.f (.scr ns)), none, none] δ = some (.nx [some (.f (.scr ns)), some (.o (.lst ((largeOf ns).map D.int))), none] δ) := by
  unfold mBeg sAsg sLc
  show (Option.bind (if (ns.map D.int).length ≤ cap then _ else _) _) = _
  rw [if_pos (by rw [List.length_map]; exact Nat.le_trans hl (by decide))]
  show (Option.bind (Option.bind (lcF _ _ _ [some (.f (.scr ns)), none, none] (ns.map D.int) δ) _) _) = _
  rw [beg_lc]
  rfl
def begFs (al ac : Addr) : List (Key × V) := [(.inr "large", .ref al), (.inr "cells", .ref ac), (.inr "rest", .int 0), (.inr "turn", .int 0), (.inr "mix", .int 7)]
def spBeg (K : PySem.W.Frag) : Sp := fun vs H Q _ => ∃ a ns, vs = [.ref a] ∧ SqL K H a (ns.map V.int) ∧ ns.length ≤ 63 ∧ ∀ ad al ac H', H ad = none → H al = none → H ac = none → al ≠ ac → Ext H H' → H' ad = some (.dK (begFs al ac)) → H' al = some (.lst ((largeOf ns).map V.int)) → H' ac = some (.lst (ns.map V.int)) → Q (.ref ad) H'
abbrev tBeg (W : Wd) : TS := tSeq (tS W mBeg) (tRet (tDisp [(tC (.str "large"), tVar 1), (tC (.str "cells"), tCB (fun xs H Q => ∃ p ys, xs = [.ref p] ∧ (SqL W.K H p ys ∨ SqT W.K H p ys) ∧ ∀ l, H l = none → Q (.ref l) (upd H l (.lst ys))) (tCons (tVar 0) tNil)), (tC (.str "rest"), tC (.int 0)), (tC (.str "turn"), tC (.int 0)), (tC (.str "mix"), tC (.int 7))]))
def offW (K : PySem.W.Frag) (cls : PySem.Str → Option Addr) : Wd := ⟨K, cls, false, 0, 0, 0⟩
theorem ints_of {W : Wd} {F : Hp} {vs : List V} {ns : List Int} (r : Reps W F vs (ns.map D.int)) : vs = ns.map V.int := ints_rep r (by
  induction ns generalizing vs with
  | nil => rfl
  | cons n ns ih =>
    cases r with
    | cons r rs =>
      show (intsD (ns.map D.int)).bind _ = _
      rw [ih rs]
      rfl)
theorem beg_run {K : PySem.W.Frag} {cls : PySem.Str → Option Addr} {vs : List V} {H : Hp} {Q : VK} {E : XK} (h : spBeg K vs H Q E) : tBeg (offW K cls) { nx := fun _ H' => Q .non H', rt := Q } (L2.start ["_law_script", "_law_large", "_law_cell"] vs) H := by
  obtain ⟨a, ns, rfl, hs, hl, q⟩ := h
  have off : ∀ a, ¬ (offW K cls).dr a := fun a z => by cases z.1
  have G := Good.start (W := offW K cls) (F := H) (H := H) (δ := ⟨[], [], 0, 0, 0⟩) (vs := [.ref a]) (ds := [.scr ns]) (N := ["_law_script", "_law_large", "_law_cell"]) .refl (fun on => by cases on) (fun a z => absurd z (off a)) (.cons (.scr hs) .nil)
  refine ⟨H, H, _, H, _, _, G, mBeg_is ns _ hl, fun σ1 F1 H1 x1 G1 => fun p hp => ?_⟩
  obtain ⟨v0, h0, r0⟩ := G1.sl 0 _ rfl
  obtain ⟨v1, h1, al, e1, f1, n1, _, vs1, q1, rs1⟩ := G1.sl 1 _ rfl
  subst e1
  have e2 := ints_of rs1
  subst e2
  have r0 : Rep (offW K cls) F1 v0 (.scr ns) := r0
  cases r0 with
  | @scr a2 _ hs2 =>
    have nal : al ≠ p := ne_of_none q1 hp
    refine ⟨_, h1, _, h0, a2, _, rfl, .inl (sql_ext ?_ (sql_ext G1.go.fh hs2)), fun ac hac => ?_⟩
    · exact fun b o e => by rw [upd_ne (ne_of_none e hp)]; exact e
    · have nac : ac ≠ p := fun e => by rw [e, upd_same] at hac; cases hac
      have hac1 : H1 ac = none := by rwa [upd_ne nac] at hac
      have hp0 : H p = none := G1.go.free hp
      refine ⟨by rw [upd_ne nac.symm, upd_same], begFs al ac, rfl, show 5 ≤ 15 by decide, ?_⟩
      have em : mergeK [] (begFs al ac) = begFs al ac := rfl
      rw [em]
      refine q p al ac _ hp0 n1 (G1.go.free hac1) (ne_of_none q1 hac1) (fun b o e => ?_) upd_same ?_ ?_
      · have e1 := G1.go.hh b o e (off b)
        rw [upd_ne (ne_of_none e1 hp), upd_ne (ne_of_none e1 hac1), upd_ne (ne_of_none e1 hp)]
        exact e1
      · rw [upd_ne nal, upd_ne (ne_of_none q1 hac1), upd_ne nal]; exact q1
      · rw [upd_ne nac, upd_same]
section
variable {P : Program} {w : World} {K : PySem.W.Frag} {cls : PySem.Str → Option Addr} {mg : PySem.Str → Option Value} {base : Heap} {f : Addr} {fd : FuncData} {x qual : PySem.Str} {params : Arguments} {body : List Stmt} {scope : Scope} {N : List PySem.Str} {k : Nat} {m : MeS}
theorem fkBeg (F : FunD K x qual params body scope [] [] f fd) (S : FnScope ["_law_script", "_law_large", "_law_cell"] ["_law_script"] scope) (hb : ∀ (cdv : Value) (A : Around) (outer : List Env) (s : Shared) (H : Hp) (E : XK), Cok (offW K cls) k (cxOf CX0 P w K mg base ["_law_script", "_law_large", "_law_cell"] qual scope f cdv A outer s H E).nox →
      PSs (cxOf CX0 P w K mg base ["_law_script", "_law_large", "_law_cell"] qual scope f cdv A outer s H E).nox body (tBeg (offW K cls))) : FnOk P w K mg base CX0 (k + 1) f fd ["_law_script"] (spBeg K) :=
  F.ok S (fun vs H Q E ⟨a, ns, e, _⟩ => by rw [e]; rfl) fun cdv A outer s H vs Q E hr h => ⟨_, PSs.nox (hb cdv A outer s H E ⟨rfl, rfl, hr, S.nd, PassesOwn.never⟩), beg_run h⟩

/-! ### law -/
def lawM (nn : Nat) (m : MeS) (ns : List Int) : Option Bool := (m (some (.f (.scr ns)) :: some (.f .drw) :: List.replicate (nn - 2) none) (begD ns)).bind fun r => match r with
  | .rt (.f (.bl b)) _ => some b
  | _ => none
def spLawP (K : PySem.W.Frag) (nn : Nat) (m : MeS) : Sp := fun vs H Q _ => ∃ a ns, vs = [.ref a] ∧ SqL K H a (ns.map V.int) ∧ ns.length ≤ 63 ∧ lawM nn m ns = some true ∧ ∀ H', Q (.bl true) H'
def tLawR (K : PySem.W.Frag) (cls : PySem.Str → Option Addr) (m : MeS) : TS := fun D σ H => ∃ W : Wd, W.K = K ∧ W.cls = cls ∧ tS W m D σ H
theorem lawR {X : Cx} {rest : List Stmt} (h : ∀ W : Wd, W.K = K → W.cls = cls → PSs X rest (tS W m)) : PSs X rest (tLawR K cls m) := ⟨fun pp s σ H D I ⟨W, h1, h2, q⟩ => (h W h1 h2).run pp s σ H D I q⟩
theorem law_run {vs : List V} {H : Hp} {Q : VK} {E : XK} (hN : 2 ≤ N.length) (h : spLawP K N.length m vs H Q E) : tSeq (tAsg (tCall (spBeg K) [] E0 (tCons (tVar 0) tNil)) (gName 1)) (tLawR K cls m) { nx := fun _ H' => Q .non H', rt := Q } (L2.start N vs) H := by
  obtain ⟨a, ns, rfl, hs, hl, hm, q⟩ := h
  have e0 : L2.start N [V.ref a] = some (.ref a) :: List.replicate (N.length - 1) none := rfl
  refine ⟨.ref a, by rw [e0]; rfl, a, ns, rfl, hs, hl, fun ad al ac H' h1 h2 h3 ne ex q1 q2 q3 => ⟨⟨K, cls, true, ad, al, ac⟩, rfl, rfl, ?_⟩⟩
  obtain ⟨r, hr, hm⟩ := Option.bind_eq_some_iff.mp hm
  have dn : ∀ b, (⟨K, cls, true, ad, al, ac⟩ : Wd).dr b → H b = none := fun b ⟨_, z⟩ => z.elim (fun e => e ▸ h1) (fun e => e ▸ h2)
  have dr : Dr ⟨K, cls, true, ad, al, ac⟩ H' (begD ns) := fun _ => ⟨q1, q2, q3, hl, Int.le_refl _, ⟨show (0 : Int) ≤ 7 by decide, show (7 : Int) < 2147483629 by decide⟩, fun z hz => by
    obtain ⟨y, _, rfl⟩ := List.mem_map.mp (show z ∈ (ns.filter _).map absI from hz)
    unfold absI
    split <;> omega, ne⟩
  obtain ⟨k2, hk⟩ : ∃ k2, N.length = k2 + 2 := ⟨N.length - 2, by omega⟩
  refine ⟨H, H', _, H, begD ns, r, { go := .refl ex dr, d0 := ⟨_, dr⟩, f0 := dn, len := ?_, sl := fun i b e => ?_, sep := fun i j b d e z1 _ _ _ => ?_ }, hr, ?_⟩
  · rw [e0, hk]; simp
  · rw [e0, hk]
    match i, e with
    | 0, e => cases e; exact ⟨.ref a, rfl, Rep.scr hs⟩
    | 1, e => cases e; exact ⟨.ref ad, rfl, Rep.drw rfl⟩
    | i + 2, e =>
      have e : (List.replicate (N.length - 2) (none : Option B))[i]? = some (some b) := e
      rw [List.getElem?_replicate] at e
      split at e <;> cases e
  · match i, z1 with
    | 0, z1 => cases z1
    | 1, z1 => cases z1
    | i + 2, z1 =>
      have z1 : (List.replicate (N.length - 2) (none : Option B))[i]? = some (some (.o d)) := z1
      rw [List.getElem?_replicate] at z1
      split at z1 <;> cases z1
  · match r, hm with
    | .rt (.f (.bl b)) δ', hm =>
      cases hm
      refine ⟨rfl, fun v F' H2 g v2 => ?_⟩
      cases v2
      exact q _
theorem fkLaw (F : FunD K x qual params body scope [] [] f fd) (S : FnScope N ["_law_script"] scope) (hN : 2 ≤ N.length) (hb : ∀ (cdv : Value) (A : Around) (outer : List Env) (s : Shared) (H : Hp) (E : XK), (∀ W : Wd, W.K = K → W.cls = cls → Cok W k (cxOf CX0 P w K mg base N qual scope f cdv A outer s H E).nox) →
      PSs (cxOf CX0 P w K mg base N qual scope f cdv A outer s H E).nox body (tSeq (tAsg (tCall (spBeg K) [] E0 (tCons (tVar 0) tNil)) (gName 1)) (tLawR K cls m))) : FnOk P w K mg base CX0 (k + 1) f fd ["_law_script"] (spLawP K N.length m) :=
  F.ok S (fun vs H Q E ⟨a, ns, e, _⟩ => by rw [e]; rfl) fun cdv A outer s H vs Q E hr h => ⟨_, PSs.nox (hb cdv A outer s H E fun W hW _ => ⟨hW.symm, rfl, hr, S.nd, PassesOwn.never⟩), law_run hN h⟩
end
end Py
/-! Layer, part W: what a law's top leaves. -/
namespace Py
open PySem L2 PyProof.Rows
abbrev Frag := PySem.W.Frag
/-- a def found by a path -/
structure DefY where
  adr : Frag → Addr
  d : He.DefD
/-- the property f of the class x; its getter -/
def prA (x f : PySem.Str) (K : Frag) : Addr := He.ma K (He.ga K x) f
def pgA (x f : PySem.Str) (K : Frag) : Addr := match PySem.W.recIn K (prA x f K) "property" with
  | some (.ref g :: _) => g
  | _ => 0
def prB (x f : PySem.Str) (K : Frag) : Bool := He.eqO (PySem.W.findIn K (.ref (He.ga K x)) f) (some (some (.ref (prA x f K)))) && (He.eqO (PySem.W.specialIn K (.ref (prA x f K)) "__get__") (some (some (.builtin "property.__get__"))) && (decide (PySem.W.takesIn K (.ref (prA x f K)) = some true) &&
  (match PySem.W.recIn K (prA x f K) "property" with
  | some (.ref _ :: _) => true
  | _ => false)))
theorem prB_ok {K : Frag} {x f : PySem.Str} (h : prB x f K = true) : PropOf K (He.ga K x) f (prA x f K) (pgA x f K) := by
  obtain ⟨h1, h⟩ := ba h
  obtain ⟨h2, h⟩ := ba h
  obtain ⟨h3, h4⟩ := ba h
  refine ⟨He.eqO_ok h1, He.eqO_ok h2, of_decide_eq_true h3, ?_⟩
  unfold pgA
  split at h4
  · next g rest e => exact ⟨rest, by rw [e]⟩
  · cases h4
/-- the own __getitem__ of the class x -/
def giB (x : PySem.Str) (K : Frag) : Bool := He.eqO (PySem.W.findIn K (.ref (He.ga K x)) "__getitem__") (some (some (.ref (He.ma K (He.ga K x) "__getitem__")))) && (PySem.W.fnIn K (He.ma K (He.ga K x) "__getitem__") && PySem.W.isFn K (.ref (He.ma K (He.ga K x) "__getitem__")))
def fnY (K : Frag) (a : Addr) : He.FnW := match K.lookup a with
  | some ⟨_, _, .func fd, _⟩ => some (fd.name, fd.qualname, fd.params, fd.body, fd.scope, fd.globals, fd.closure, fd.builtins)
  | _ => none
def okY (K : Frag) (a : Addr) (d : He.DefD) : Bool := PySem.W.keepIn K (.ref a) && (match K.lookup a with
  | some ⟨_, _, .func fd, _⟩ => PySem.W.codeIn K fd.code d.qual && (He.dflB K fd.defaults (d.dvs K) && He.kwdB K fd.kwdefaults (d.kws K))
  | _ => false)
theorem funY {K : Frag} {a : Addr} {d : He.DefD} (e : fnY K a = d.val) (c : okY K a d = true) : ∃ fd, FunD K d.name d.qual d.params d.body d.scope (d.dvs K) (d.kws K) a fd := by
  obtain ⟨kp, c⟩ := ba c
  cases q : K.lookup a with
  | none => rw [q] at c; cases c
  | some o =>
    obtain ⟨oc, od, dt, sl⟩ := o
    cases dt with
    | func fd =>
      rw [q] at c
      unfold fnY at e
      rw [q] at e
      obtain ⟨a1, a2, a3, a4, a5, a6, a7, a8, a9, a10, a11, a12, a13, a14, a15⟩ := fd
      have e : (some (a1, a2, a3, a4, a5, a6, a7, a15) : He.FnW) = some (d.name, d.qual, d.params, .stmts d.body, d.scope, mainGlobals, [], builtinsNs) := e
      injection e with e
      injection e with b1 e; injection e with b2 e; injection e with b3 e; injection e with b4 e; injection e with b5 e; injection e with b6 e; injection e with b7 b8
      subst b1 b2 b3 b4 b5 b6 b7 b8
      obtain ⟨k1, k2⟩ := ba (show (PySem.W.codeIn K a13 d.qual && (He.dflB K a8 (d.dvs K) && He.kwdB K a9 (d.kws K))) = true from c)
      obtain ⟨k3, k4⟩ := ba k2
      exact ⟨_, ⟨oc, od, a8, a9, a10, a11, a12, a13, a14, sl, rfl, q, k1, He.dflB_ok k3, He.kwdB_ok k4⟩, kp⟩
    | _ => rw [q] at c; cases c
abbrev AlY : Type := Bool × List He.FnW
def obsY (fa : List He.Fa) (ck : List (Frag → Bool)) (fn : List DefY) (K : Frag) : AlY := ((fa.all fun f => f.ok K) && ((ck.all fun f => f K) && fn.all fun d => okY K (d.adr K) d.d), fn.map fun d => fnY K (d.adr K))
def valY (fn : List DefY) : AlY := (true, fn.map fun d => d.d.val)
def SaysY (fa : List He.Fa) (ck : List (Frag → Bool)) (fn : List DefY) (K : Frag) : Prop := obsY fa ck fn K = valY fn
def obsYG (n : Nat) (fa : List He.Fa) (ck : List (Frag → Bool)) (fn : List DefY) (g : Addr → Option Obj) : AlY := obsY fa ck fn (He.frG g (He.asD g n))
def hookY (n : Nat) (fa : List He.Fa) (ck : List (Frag → Bool)) (fn : List DefY) : PySem.W.Hook where
  α := AlY
  obs := fun s => obsYG n fa ck fn s.heap.get?
  val := fun _ => valY fn
  says := fun _ h => ∃ K : Frag, K.In h ∧ SaysY fa ck fn K
  of := fun _ _ e => ⟨_, He.frG_in, e⟩
  keeps := fun _ _ _ ⟨K, hK, c⟩ k => ⟨K, PySem.W.Frag.In.keeps hK k, c⟩
theorem obsYG_eq {n : Nat} {fa : List He.Fa} {ck : List (Frag → Bool)} {fn : List DefY} {g : Addr → Option Obj} {s : Shared} (h : ∀ a, g a = s.heap.get? a) : obsYG n fa ck fn g = (hookY n fa ck fn).obs s := by
  have e : g = s.heap.get? := funext h
  rw [e]; rfl
section
variable {fa : List He.Fa} {ck : List (Frag → Bool)} {fn : List DefY} {K : Frag}
theorem SaysY.fact (c : SaysY fa ck fn K) (i : Nat) {f : He.Fa} (h : fa[i]? = some f := by rfl) : f.ok K = true := by
  have z : ((fa.all fun f => f.ok K) && ((ck.all fun f => f K) && fn.all fun d => okY K (d.adr K) d.d)) = true := congrArg (·.1) c
  exact List.all_eq_true.mp (ba z).1 f (List.mem_of_getElem? h)
theorem SaysY.chk (c : SaysY fa ck fn K) (i : Nat) {f : Frag → Bool} (h : ck[i]? = some f := by rfl) : f K = true := by
  have z : ((fa.all fun f => f.ok K) && ((ck.all fun f => f K) && fn.all fun d => okY K (d.adr K) d.d)) = true := congrArg (·.1) c
  exact List.all_eq_true.mp (ba (ba z).2).1 f (List.mem_of_getElem? h)
theorem SaysY.def_ (c : SaysY fa ck fn K) (i : Nat) {d : DefY} (h : fn[i]? = some d := by rfl) : ∃ fd, FunD K d.d.name d.d.qual d.d.params d.d.body d.d.scope (d.d.dvs K) (d.d.kws K) (d.adr K) fd := by
  have z : ((fa.all fun f => f.ok K) && ((ck.all fun f => f K) && fn.all fun d => okY K (d.adr K) d.d)) = true := congrArg (·.1) c
  have e : (fn.map fun d => fnY K (d.adr K)) = fn.map fun d => d.d.val := congrArg (·.2) c
  have e2 : (fn.map fun d => fnY K (d.adr K))[i]? = (fn.map fun d => d.d.val)[i]? := by rw [e]
  rw [List.getElem?_map, List.getElem?_map, h] at e2
  exact funY (Option.some.inj e2) (List.all_eq_true.mp (ba (ba z).2).2 d (List.mem_of_getElem? h))
end
/-- what a def's derivation leans on -/
structure EnvY (fa : List He.Fa) (ck : List (Frag → Bool)) (fn : List DefY) (K : Frag) (cls : PySem.Str → Option Addr) (mg : PySem.Str → Option Value) : Prop where
  cls : cls = fun x => some (He.ga K x)
  at_ : ∃ h : Heap, K.In h ∧ h.Ns mainGlobals mg
  says : SaysY fa ck fn K
section
variable {fa : List He.Fa} {ck : List (Frag → Bool)} {fn : List DefY} {K : Frag} {cls : PySem.Str → Option Addr} {mg : PySem.Str → Option Value} {x f : PySem.Str}
theorem EnvY.fn_ (E : EnvY fa ck fn K cls mg) (i : Nat) {d : DefY} (h : fn[i]? = some d := by rfl) : ∃ fd, FunD K d.d.name d.d.qual d.d.params d.d.body d.d.scope (d.d.dvs K) (d.d.kws K) (d.adr K) fd := E.says.def_ i h
theorem EnvY.free (E : EnvY fa ck fn K cls mg) (i : Nat) (h : fa[i]? = some (.free x) := by rfl) : mg x = none := let ⟨_, X, G⟩ := E.at_; He.free_ok X G (E.says.fact i h)
theorem EnvY.glo (E : EnvY fa ck fn K cls mg) (i : Nat) (h : fa[i]? = some (.glo x) := by rfl) : mg x = some (.ref (He.ga K x)) := let ⟨_, X, G⟩ := E.at_; He.glo_ok X G (E.says.fact i h)
theorem EnvY.str (E : EnvY fa ck fn K cls mg) (i : Nat) {z : PySem.Str} (h : fa[i]? = some (.str x z) := by rfl) : ∃ t, mg x = some (.str z t) := let ⟨_, X, G⟩ := E.at_; He.str_ok X G (E.says.fact i h)
theorem EnvY.int (E : EnvY fa ck fn K cls mg) (i : Nat) {z : Int} (h : fa[i]? = some (.int x z) := by rfl) : ∃ t, mg x = some (.int z t) := let ⟨_, X, G⟩ := E.at_; He.int_ok X G (E.says.fact i h)
theorem EnvY.noat (E : EnvY fa ck fn K cls mg) (i : Nat) (h : fa[i]? = some (.noat x f) := by rfl) : NoAttr K (He.ga K x) f := He.noat_ok (E.says.fact i h)
theorem EnvY.meth (E : EnvY fa ck fn K cls mg) (i : Nat) (h : fa[i]? = some (.meth x f) := by rfl) : Meth K (He.ga K x) f (He.ma K (He.ga K x) f) := He.meth_ok (E.says.fact i h)
theorem EnvY.mkr (E : EnvY fa ck fn K cls mg) (i : Nat) (h : fa[i]? = some (.mkr x) := by rfl) : Mk K (He.ga K x) (He.ma K (He.ga K x) "__init__") := He.mkr_ok (E.says.fact i h)
theorem EnvY.prop (E : EnvY fa ck fn K cls mg) (i : Nat) (h : ck[i]? = some (prB x f) := by rfl) : PropOf K (He.ga K x) f (prA x f K) (pgA x f K) := prB_ok (E.says.chk i h)
theorem EnvY.gi (E : EnvY fa ck fn K cls mg) (i : Nat) (h : ck[i]? = some (giB x) := by rfl) : PySem.W.findIn K (.ref (He.ga K x)) "__getitem__" = some (some (.ref (He.ma K (He.ga K x) "__getitem__"))) ∧ PySem.W.fnIn K (He.ma K (He.ga K x) "__getitem__") = true ∧ PySem.W.isFn K (.ref (He.ma K (He.ga K x) "__getitem__")) = true := by
  obtain ⟨h1, h2⟩ := ba (E.says.chk i h)
  obtain ⟨h2, h3⟩ := ba h2
  exact ⟨He.eqO_ok h1, h2, h3⟩
end
theorem EnvY.kl {fa : List He.Fa} {ck : List (Frag → Bool)} {fn : List DefY} {W : Wd} {mg : PySem.Str → Option Value} {x : PySem.Str} (E : EnvY fa ck fn W.K W.cls mg) (i : Nat) (h : fa[i]? = some (.cls x) := by rfl) : Kl W x (He.ga W.K x) := ⟨by rw [E.cls], He.cls_ok (E.says.fact i h)⟩
section
variable {X : Cx} {W : Wd} {n : Nat} {x : PySem.Str} {pos : Pos}
theorem lkGStr {z : PySem.Str} (h : ∃ t, X.mg x = some (.str z t)) (hg : Gl X x := by rfl) (hd : (x == ("__debug__" : PySem.Str)) = false := by decide) : PE X (.Name x pos) (tX W (sC (.str z))) := let ⟨t, h⟩ := h; lkGlob (v := .str z) h ⟨t, rfl⟩ (fun _ => .str z) hg hd
theorem lkGInt {z : Int} (h : ∃ t, X.mg x = some (.int z t)) (hg : Gl X x := by rfl) (hd : (x == ("__debug__" : PySem.Str)) = false := by decide) : PE X (.Name x pos) (tX W (sC (.int z))) := let ⟨t, h⟩ := h; lkGlob (v := .int z) h ⟨t, rfl⟩ (fun _ => .int z) hg hd
def negB : B → Option B
  | .f (.int i) => some (.f (.int (-i)))
  | _ => none
theorem lkNeg {a : Expr} {ma : Me} (ha : PE X a (tX W ma)) : PE X (.UnaryOp .USub a pos) (tX W (s1 negB ma)) := peImp (pe_un un_neg ha) fun σ H Q h =>
  s1_run (r := rU fun i => .int (-i)) (fun F H δ x b1 b e dr r1 hg H₀ Q k => by
    match b1, hg, r1 with
    | .f (.int i), hg, r1 =>
      cases hg
      cases r1
      exact ⟨i, rfl, fin e dr (.int _) k⟩) σ H Q h
end
end Py
/-! Layer, part X: more statements and slices. -/
namespace Py
open PySem L2 PyProof.Rows
section
variable {X : Cx} {W : Wd} {n : Nat} {a e : Expr} {ma me mk : Me} {x : PySem.Str} {pos pos' p p2 : Pos}
/-- x op= e, ints -/
def sAug (i : Nat) (g : Int → Int → Int) (me : Me) : MeS := fun ρ δ => match ρ[i]? with
  | some (some (B.f (D.int a))) => (me ρ δ).bind fun p => match p.1 with
    | .f (.int b) => some (.nx (ρ.set i (some (.f (.int (g a b))))) p.2)
    | _ => none
  | _ => none
theorem aug_run {i : Nat} {g : Int → Int → Int} : ∀ D σ H, tS W (sAug i g me) D σ H → tAug i (tX W me) (ipI g) D σ H := fun D σ H ⟨F₀, H₀, ρ, F, δ, r, G, hm, k⟩ => by
  unfold sAug at hm
  split at hm
  · next a e1 =>
    obtain ⟨⟨b1, δ1⟩, h1, hm⟩ := Option.bind_eq_some_iff.mp hm
    obtain ⟨v, hv, s⟩ := G.sl i _ e1
    have s : Rep W F v (.int a) := s
    cases s
    refine ⟨_, hv, F₀, H₀, ρ, F, δ, b1, δ1, G, h1, fun y F1 H1 g1 v1 => ?_⟩
    match b1, hm, v1 with
    | .f (.int b), hm, v1 =>
      cases hm
      cases v1
      exact ⟨a, b, rfl, rfl, k _ F1 H1 g1.ff ((G.later g1).setF i (.int _))⟩
  · cases hm
theorem lkAugAdd (C : Cok W n X) (i : Nat) (he : PE X e (tX W me)) (hi : X.N[i]? = some x := by rfl) (hx : Loc X.env.scope x := by first | exact .inl rfl | exact .inr rfl) (hf : X.fn x = true ∨ X.env.scope.names.lookup x = some .local := by first | exact .inl rfl | exact .inr rfl | assumption) :
    PS X (.AugAssign (.Name x pos') .Add e pos) (tS W (sAug i (fun a b => a + b) me)) := psImp (ps_aug C.nd hi hx he ip_add hf) aug_run
theorem lkAugSub (C : Cok W n X) (i : Nat) (he : PE X e (tX W me)) (hi : X.N[i]? = some x := by rfl) (hx : Loc X.env.scope x := by first | exact .inl rfl | exact .inr rfl) (hf : X.fn x = true ∨ X.env.scope.names.lookup x = some .local := by first | exact .inl rfl | exact .inr rfl | assumption) :
    PS X (.AugAssign (.Name x pos') .Sub e pos) (tS W (sAug i (fun a b => a - b) me)) := psImp (ps_aug C.nd hi hx he ip_sub hf) aug_run
/-- a new object that is not written later: shared -/
def sFrz (me : Me) : Me := fun ρ δ => (me ρ δ).bind fun p => some (p.1.frz, p.2)
theorem frz_run : ∀ σ H Q, tX W (sFrz me) σ H Q → tX W me σ H Q := fun σ H Q ⟨F₀, H₀, ρ, F, δ, b, δ', G, hm, k⟩ => by
  obtain ⟨⟨b1, δ1⟩, h1, hm⟩ := Option.bind_eq_some_iff.mp hm
  cases hm
  refine ⟨F₀, H₀, ρ, F, δ, b1, _, G, h1, fun v F1 H1 g1 v1 => ?_⟩
  obtain ⟨F2, x2, g2, v2⟩ := v1.frz g1
  exact k v F2 H1 g2 v2
theorem lkFrz (h : PE X e (tX W me)) : PE X e (tX W (sFrz me)) := peImp h frz_run
/-- x = [.. for ..] -/
theorem lkSetLc {elt tg iter : Expr} {ifs : List Expr} {scope : Scope} {ow : List (PySem.Str × Nat)} {i : Nat} {is : List Nat} {mi : MeI} {mg : MeG} {mt : MeT} {y : PySem.Str} {py spos : Pos} (C : Cok W n X) (hy : X.N[i]? = some y) (hyl : X.env.scope.names.lookup y = some .local) (hi : PI X tg iter (iX W mi)) (ok : blkC X.N X.env.scope scope ow = true)
    (hg : ∀ (s : Shared) (H : Hp) (c : Addr) (cl : List (PySem.Str × Addr)) (fp : List Addr), Cok W n (X.blk s H scope (compEnvC scope cl c X.env) fp) → PG (X.blk s H scope (compEnvC scope cl c X.env) fp) tg (gX W is mg))
    (ht : ∀ (s : Shared) (H : Hp) (c : Addr) (cl : List (PySem.Str × Addr)) (fp : List Addr), Cok W n (X.blk s H scope (compEnvC scope cl c X.env) fp) → PTs (X.blk s H scope (compEnvC scope cl c X.env) fp) ifs (tXT W mt))
    (he : ∀ (s : Shared) (H : Hp) (c : Addr) (cl : List (PySem.Str × Addr)) (fp : List Addr), Cok W n (X.blk s H scope (compEnvC scope cl c X.env) fp) → PE (X.blk s H scope (compEnvC scope cl c X.env) fp) elt (tX W me))
    (his : ∀ i ∈ is, i ∈ ow.map (·.2)) (hsw : swapsWith (.ListComp elt [⟨tg, iter, ifs, 0⟩] scope pos) (some (.Name y py)) spos.line X.env = pure true := by rfl) (hs : ∀ x, foldedSetIterable iter X.env x = pure x := by intro _; rfl) :
    PS X (.Assign [.Name y py] (.ListComp elt [⟨tg, iter, ifs, 0⟩] scope pos) spos) (tS W (sAsg i (sLc mi mg mt me (ow.map (·.2))))) :=
  have c : ∀ s H cc cl fp, Cok W n (X.blk s H scope (compEnvC scope cl cc X.env) fp) := fun _ _ _ _ _ => ⟨C.k, C.calm, C.room, C.nd, PassesOwn.never⟩
  psImp (ps_setLc C.calm C.nd hy hyl hsw hi (blkOk_by ok) (fun s H cc cl fp => hg s H cc cl fp (c s H cc cl fp)) (fun s H cc cl fp => ht s H cc cl fp (c s H cc cl fp)) (fun s H cc cl fp => he s H cc cl fp (c s H cc cl fp)) hs) fun D σ H h => lc_run his σ H _ (asg_run D σ H h)
theorem lkSetLcF {elt tg iter : Expr} {ifs : List Expr} {scope : Scope} {ow : List (PySem.Str × Nat)} {i : Nat} {is : List Nat} {mi : MeI} {mg : MeG} {mt : MeT} {y : PySem.Str} {py spos : Pos} (C : Cok W n X) (hy : X.N[i]? = some y) (hyl : X.env.scope.names.lookup y = some .local) (hi : PI X tg iter (iX W mi)) (ok : blkC X.N X.env.scope scope ow = true)
    (hg : ∀ (s : Shared) (H : Hp) (c : Addr) (cl : List (PySem.Str × Addr)) (fp : List Addr), Cok W n (X.blk s H scope (compEnvC scope cl c X.env) fp) → PG (X.blk s H scope (compEnvC scope cl c X.env) fp) tg (gX W is mg))
    (ht : ∀ (s : Shared) (H : Hp) (c : Addr) (cl : List (PySem.Str × Addr)) (fp : List Addr), Cok W n (X.blk s H scope (compEnvC scope cl c X.env) fp) → PTs (X.blk s H scope (compEnvC scope cl c X.env) fp) ifs (tXT W mt))
    (he : ∀ (s : Shared) (H : Hp) (c : Addr) (cl : List (PySem.Str × Addr)) (fp : List Addr), Cok W n (X.blk s H scope (compEnvC scope cl c X.env) fp) → PE (X.blk s H scope (compEnvC scope cl c X.env) fp) elt (tX W me))
    (his : ∀ i ∈ is, i ∈ ow.map (·.2)) (hsw : swapsWith (.ListComp elt [⟨tg, iter, ifs, 0⟩] scope pos) (some (.Name y py)) spos.line X.env = pure true := by rfl) (hs : ∀ x, foldedSetIterable iter X.env x = pure x := by intro _; rfl) :
    PS X (.Assign [.Name y py] (.ListComp elt [⟨tg, iter, ifs, 0⟩] scope pos) spos) (tS W (sAsg i (sFrz (sLc mi mg mt me (ow.map (·.2)))))) :=
  have c : ∀ s H cc cl fp, Cok W n (X.blk s H scope (compEnvC scope cl cc X.env) fp) := fun _ _ _ _ _ => ⟨C.k, C.calm, C.room, C.nd, PassesOwn.never⟩
  psImp (ps_setLc C.calm C.nd hy hyl hsw hi (blkOk_by ok) (fun s H cc cl fp => hg s H cc cl fp (c s H cc cl fp)) (fun s H cc cl fp => ht s H cc cl fp (c s H cc cl fp)) (fun s H cc cl fp => he s H cc cl fp (c s H cc cl fp)) hs) fun D σ H h => lc_run his σ H _ (frz_run σ H _ (asg_run D σ H h))
/-- x[k] = e, x an own list -/
theorem lkSetL (C : Cok W n X) (i : Nat) {px : Pos} (he : PE X e (tX W me)) (hk : PE X a (tX W mk)) (hN : X.N[i]? = some x := by rfl) (hv : Vis X.env.scope x := by first | exact Or.inl rfl | exact Or.inr (Or.inl rfl) | exact Or.inr (Or.inr rfl)) (hd : (x == ("__debug__" : PySem.Str)) = false := by decide) (hcd : (x == ("__classdict__" : PySem.Str)) = false := by decide)
    (hsg : ∀ v, assign (.Subscript (.Name x px) a p2) X.env v = (do
      let ov ← holding [v] (eval (.Name x px) X.env)
      let iv ← holding [v, ov] (eval a X.env)
      standAt p2
      holding [v, ov, iv] (setItem ov iv v)
      release [v, ov, iv] []) := by intro _; rfl)
    (hs : swapsWithSole [.Subscript (.Name x px) a p2] e pos.line X.env = pure false := by rfl) (hw : swappedStores [.Subscript (.Name x px) a p2] e X.env = pure none := by rfl) (h1 : (assignEach [.Subscript (.Name x px) a p2] X.env).map (·.2) = [assign (.Subscript (.Name x px) a p2) X.env] := by rfl) :
    PS X (.Assign [.Subscript (.Name x px) a p2] e pos) (tS W (sSetL i mk me)) := psImp (ps_asg he (pg_sub (pe_var hN hv hd hcd) hk set_list hsg) hs hw h1) setL_run
theorem lkPop (C : Cok W n X) (i : Nat) {tg : Expr} {mg : MeG} {px pa pc : Pos} {is : List Nat} (hgt : PG X tg (gX W is mg)) (hN : X.N[i]? = some x := by rfl) (hv : Vis X.env.scope x := by first | exact Or.inl rfl | exact Or.inr (Or.inl rfl) | exact Or.inr (Or.inr rfl)) (hd : (x == ("__debug__" : PySem.Str)) = false := by decide) (hcd : (x == ("__classdict__" : PySem.Str)) = false := by decide)
    (hbase : attributeBase (.Name x px) "pop" X.env (eval (.Name x px) X.env) = eval (.Name x px) X.env := by rfl) (hline : (pa.endLine == pc.line) = true := by rfl)
    (hsw : swapsWithSole [tg] (.Call (.Attribute (.Name x px) "pop" pa) [] [] pc) pos'.line X.env = pure false := by rfl) (hw : swappedStores [tg] (.Call (.Attribute (.Name x px) "pop" pa) [] [] pc) X.env = pure none := by rfl) (h1 : (assignEach [tg] X.env).map (·.2) = [assign tg X.env] := by rfl) :
    PS X (.Assign [tg] (.Call (.Attribute (.Name x px) "pop" pa) [] [] pc) pos') (tS W (sPopE i mg)) :=
  psImp (ps_asg (pe_bm0 PySem.F.plainAttrs_list PySem.F.slot_list_pop PySem.F.type_list_pop mt_pop (pe_var hN hv hd hcd) hbase hline) hgt hsw hw h1) popE_run

/-! ### slices of tuples, lists, texts -/
theorem Op3.or {r r' : V → Option Int → Option Int → Hp → VK → Prop} {g g' : B → Option Int → Option Int → Option B} (h : Op3 W r g) (h' : Op3 W r' g') : Op3 W (fun x l m H Q => r x l m H Q ∨ r' x l m H Q) (fun a l m => match g a l m with
    | some z => some z
    | none => g' a l m) := fun F H δ x b1 lo hi b e dr r1 hg H₀ Q k => by
  cases q : g b1 lo hi with
  | some z =>
    simp only [q] at hg
    cases hg
    exact .inl (h F H δ x b1 lo hi _ e dr r1 q H₀ Q k)
  | none =>
    simp only [q] at hg
    exact .inr (h' F H δ x b1 lo hi b e dr r1 hg H₀ Q k)
def slA (a : B) (lo hi : Option Int) : Option B := match slT a lo hi with
  | some z => some z
  | none => match slL a lo hi with
    | some z => some z
    | none => slS a lo hi
theorem lkSlA {lo hi : Option Expr} {ml mh : MeO} (C : Cok W n X) (ha : PE X a (tX W ma)) (hl : PO X lo (tXO W ml)) (hh : PO X hi (tXO W mh)) : PE X (.Subscript a (.Slice lo hi none p2) pos) (tX W (sSl slA ma ml mh)) :=
  lkSl (SlR.or sl_tupA (SlR.or sl_list sl_str)) (by rw [C.k]; exact Op3.or op3_T (Op3.or op3_L op3_S)) ha hl hh
end
end Py
/-! Layer, part Y: plain lemmas for the mathematics of the laws. -/
namespace Py
open PySem L2

/-! ### == of plain data -/
theorem sh_int (i : Int) : SeqAt.shaped (.int i) = true := by simp [SeqAt.shaped, PyData.canLay0, PyData.depth]
theorem eqv_int (i j : Int) : PyData.eqv (.int i) (.int j) = (i == j) := by simp [PyData.eqv]
theorem eqD_int (neg : Bool) (i j : Int) : eqD neg (.f (.int i)) (.f (.int j)) = some (.f (.bl ((i == j) != neg))) := by
  show (if (SeqAt.shaped (.int i) && SeqAt.shaped (.int j)) = true then some _ else none) = _
  rw [sh_int, sh_int, eqv_int]
  rfl
theorem s2_is {g : B → B → Option B} {ma mb : Me} {ρ : En} {δ δ1 δ2 : DS} {a b z : B} (ha : ma ρ δ = some (a, δ1)) (hb : mb ρ δ1 = some (b, δ2)) (hg : g a b = some z) : s2 g ma mb ρ δ = some (z, δ2) := by
  unfold s2
  rw [ha, Option.bind_some]
  show ((mb ρ δ1).bind _) = _
  rw [hb, Option.bind_some]
  show ((g a b).bind _) = _
  rw [hg]; rfl
theorem sTest_is {m : Me} {ρ : En} {δ δ1 : DS} {c : Bool} (h : m ρ δ = some (.f (.bl c), δ1)) : sTest m ρ δ = some (c, δ1) := by
  unfold sTest
  rw [h]; rfl
theorem tAnd_t {m m' : MeT} {ρ : En} {δ δ1 : DS} (h : m ρ δ = some (true, δ1)) : tAndM m m' ρ δ = m' ρ δ1 := by
  unfold tAndM
  rw [h]; rfl
theorem tAnd_f {m m' : MeT} {ρ : En} {δ δ1 : DS} (h : m ρ δ = some (false, δ1)) : tAndM m m' ρ δ = some (false, δ1) := by
  unfold tAndM
  rw [h]; rfl
theorem tOr_t {m m' : MeT} {ρ : En} {δ δ1 : DS} (h : m ρ δ = some (true, δ1)) : tOrM m m' ρ δ = some (true, δ1) := by
  unfold tOrM
  rw [h]; rfl
theorem tOr_f {m m' : MeT} {ρ : En} {δ δ1 : DS} (h : m ρ δ = some (false, δ1)) : tOrM m m' ρ δ = m' ρ δ1 := by
  unfold tOrM
  rw [h]; rfl
theorem tNot_is {m : MeT} {ρ : En} {δ δ1 : DS} {c : Bool} (h : m ρ δ = some (c, δ1)) : tNotM m ρ δ = some (!c, δ1) := by
  unfold tNotM
  rw [h]; rfl
theorem if_t {m : MeT} {a b : MeS} {ρ : En} {δ δ1 : DS} (h : m ρ δ = some (true, δ1)) : sIfS m a b ρ δ = a ρ δ1 := by
  unfold sIfS
  rw [h]; rfl
theorem if_f {m : MeT} {a b : MeS} {ρ : En} {δ δ1 : DS} (h : m ρ δ = some (false, δ1)) : sIfS m a b ρ δ = b ρ δ1 := by
  unfold sIfS
  rw [h]; rfl
theorem sIf_t {m : MeT} {a b : Me} {ρ : En} {δ δ1 : DS} (h : m ρ δ = some (true, δ1)) : sIf m a b ρ δ = a ρ δ1 := by
  unfold sIf
  rw [h]; rfl
theorem sIf_f {m : MeT} {a b : Me} {ρ : En} {δ δ1 : DS} (h : m ρ δ = some (false, δ1)) : sIf m a b ρ δ = b ρ δ1 := by
  unfold sIf
  rw [h]; rfl
theorem seq_nx {m m' : MeS} {ρ ρ1 : En} {δ δ1 : DS} (h : m ρ δ = some (.nx ρ1 δ1)) : sSeq m m' ρ δ = m' ρ1 δ1 := by
  unfold sSeq
  rw [h]; rfl
theorem seq_rt {m m' : MeS} {ρ : En} {δ δ1 : DS} {b : B} (h : m ρ δ = some (.rt b δ1)) : sSeq m m' ρ δ = some (.rt b δ1) := by
  unfold sSeq
  rw [h]; rfl
theorem asg_is {i : Nat} {m : Me} {ρ : En} {δ δ1 : DS} {b : B} (h : m ρ δ = some (b, δ1)) (hw : b.isW = false) : sAsg i m ρ δ = some (.nx (ρ.set i (some b)) δ1) := by
  unfold sAsg
  rw [h, Option.bind_some]
  show (if b.isW = true then _ else _) = _
  rw [hw]; rfl
theorem frz_is {m : Me} {ρ : En} {δ δ1 : DS} {b : B} (h : m ρ δ = some (b, δ1)) : sFrz m ρ δ = some (b.frz, δ1) := by
  unfold sFrz
  rw [h]; rfl
theorem ret_is {m : Me} {ρ : En} {δ δ1 : DS} {b : B} (h : m ρ δ = some (b, δ1)) : sRet m ρ δ = some (.rt b.up δ1) := by
  unfold sRet
  rw [h]; rfl
theorem call_is {f : Fn} {ms : MeL} {ρ : En} {δ δ1 δ2 : DS} {ds : List D} {b : B} (h : ms ρ δ = some (ds, δ1)) (k : f ds δ1 = some (b, δ2)) (hw : b.isW = false) : sCall f ms ρ δ = some (b, δ2) := by
  unfold sCall
  rw [h, Option.bind_some]
  show (f ds δ1).bind _ = _
  rw [k, Option.bind_some]
  show (if b.isW = true then _ else _) = _
  rw [hw]; rfl
theorem cons_is {m : Me} {ms : MeL} {ρ : En} {δ δ1 δ2 : DS} {b : B} {ds : List D} (h : m ρ δ = some (b, δ1)) (hw : b.isW = false) (k : ms ρ δ1 = some (ds, δ2)) : aCons m ms ρ δ = some (b.d :: ds, δ2) := by
  unfold aCons
  rw [h, Option.bind_some]
  show (if b.isW = true then _ else _) = _
  rw [hw]
  show (ms ρ δ1).bind _ = _
  rw [k]; rfl
theorem vcons_is {m : Me} {ms : MeV} {ρ : En} {δ δ1 δ2 : DS} {b : B} {ds : List B} (h : m ρ δ = some (b, δ1)) (k : ms ρ δ1 = some (ds, δ2)) : vCons m ms ρ δ = some (b :: ds, δ2) := by
  unfold vCons
  rw [h, Option.bind_some]
  show (ms ρ δ1).bind _ = _
  rw [k]; rfl
theorem b_is {g : List B → Option B} {ms : MeV} {ρ : En} {δ δ1 : DS} {bs : List B} {z : B} (h : ms ρ δ = some (bs, δ1)) (k : g bs = some z) : sB g ms ρ δ = some (z, δ1) := by
  unfold sB
  rw [h, Option.bind_some]
  show (g bs).bind _ = _
  rw [k]; rfl
theorem fn_nx {nn : Nat} {mb : MeS} {ds : List D} {δ δ1 : DS} {ρ : En} (h : mb (en0 nn ds) δ = some (.nx ρ δ1)) : fnM nn mb ds δ = some (.f .non, δ1) := by
  unfold fnM
  rw [h]; rfl
theorem fn_rt {nn : Nat} {mb : MeS} {ds : List D} {δ δ1 : DS} {b : B} (h : mb (en0 nn ds) δ = some (.rt b δ1)) : fnM nn mb ds δ = some (b, δ1) := by
  unfold fnM
  rw [h]; rfl
theorem and_t {ma mb : Me} {ρ : En} {δ δ1 : DS} (h : ma ρ δ = some (.f (.bl true), δ1)) : sAnd ma mb ρ δ = mb ρ δ1 := by
  unfold sAnd
  rw [h]; rfl
theorem and_f {ma mb : Me} {ρ : En} {δ δ1 : DS} (h : ma ρ δ = some (.f (.bl false), δ1)) : sAnd ma mb ρ δ = some (.f (.bl false), δ1) := by
  unfold sAnd
  rw [h]; rfl
theorem or_t {ma mb : Me} {ρ : En} {δ δ1 : DS} (h : ma ρ δ = some (.f (.bl true), δ1)) : sOr ma mb ρ δ = some (.f (.bl true), δ1) := by
  unfold sOr
  rw [h]; rfl
theorem or_f {ma mb : Me} {ρ : En} {δ δ1 : DS} (h : ma ρ δ = some (.f (.bl false), δ1)) : sOr ma mb ρ δ = mb ρ δ1 := by
  unfold sOr
  rw [h]; rfl
theorem chain_is {ma mb mc : Me} {ρ : En} {δ δ1 δ2 : DS} {i j k : Int} (ha : ma ρ δ = some (.f (.int i), δ1)) (hb : mb ρ δ1 = some (.f (.int j), δ2)) (hc : mc ρ δ2 = some (.f (.int k), δ2)) : sChain leI leI ma mb mc ρ δ = some (.f (.bl (decide (i ≤ j) && decide (j ≤ k))), δ2) := by
  unfold sChain
  rw [ha, Option.bind_some]
  show (mb ρ δ1).bind _ = _
  rw [hb, Option.bind_some]
  show Option.bind (some (B.f (.bl (decide (i ≤ j))))) _ = _
  rw [Option.bind_some]
  cases decide (i ≤ j) with
  | false => rfl
  | true =>
    show (mc ρ δ2).bind _ = _
    rw [hc]
    rfl

/-! ### draws -/
def takeB : MeS := sSeq (sIfS (tAndM (sTest (s2 (eqD false) (sDrI 0 .rest) (sC (.int 0)))) (tDrL 0)) (sDrPop 0) (sIfS (sTest (s2 (eqD false) (sDrI 0 .rest) (sC (.int 0)))) (sSeq (sDrSet 0 .turn (s2 addA (sDrI 0 .turn) (sC (.int 1)))) (sSeq (sFor (mIt (sDrAll 0 (aCons (sDrI 0 .turn) (aNil)))) (gNm 2) (sDrSet 0 .mix (s2 modI (sB intB (vCons (s2 addA (s2 addA (s2 mulI (sDrI 0 .mix) (sC (.int 69621))) (s2 mulI (sVar 2) (sC (.int 48271)))) (sC (.int 12345))) (vNil))) (sC (.int 2147483629))))) (sDrSet 0 .rest (s2 modI (sB intB (vCons (s2 powI (sDrI 0 .mix) (sC (.int 5))) (vNil))) (sC (.int 2305843009213693951)))))) (sNop))) (sSeq (sDrPair 0 3 (sB divmodB (vCons (sDrI 0 .rest) (vCons (sVar 1) (vNil))))) (sRet (sVar 3)))
def takeM : Fn := fnM 4 takeB
structure DOk (δ : DS) : Prop where
  r0 : 0 ≤ δ.rest
  m0 : 0 ≤ δ.mix
  m1 : δ.mix < 2147483629
  lg : ∀ z ∈ δ.large, 0 ≤ z
  lc : δ.cells.length ≤ 63
def mix1 (m c : Int) : Int := (m * 69621 + c * 48271 + 12345) % 2147483629
def takeD (δ : DS) : DS := if δ.rest = 0 then match δ.large with
  | z :: l => { δ with large := l, rest := z }
  | [] => { δ with turn := δ.turn + 1, mix := ((δ.turn + 1) :: δ.cells).foldl mix1 δ.mix, rest := (((δ.turn + 1) :: δ.cells).foldl mix1 δ.mix) ^ 5 % 2305843009213693951 }
  else δ
theorem mix1_ok (m c : Int) : 0 ≤ mix1 m c ∧ mix1 m c < 2147483629 := ⟨Int.emod_nonneg _ (by decide), Int.emod_lt_of_pos _ (by decide)⟩
theorem mulC_r (i : Int) {j : Int} (h : -(2 ^ 64) < j ∧ j < 2 ^ 64) : mulC i j = true := by
  unfold mulC
  rw [decide_eq_true h, Bool.or_true]
theorem take_for : ∀ (cs : List Int) (x : Option B) (n : B) (δ : DS), ∃ y, forF (gNm 2) (sDrSet 0 .mix (s2 modI (sB intB (vCons (s2 addA (s2 addA (s2 mulI (sDrI 0 .mix) (sC (.int 69621))) (s2 mulI (sVar 2) (sC (.int 48271)))) (sC (.int 12345))) (vNil))) (sC (.int 2147483629)))) (cs.map D.int) [some (.f .drw), some n, x, none] δ =
    some (.nx [some (.f .drw), some n, y, none] { δ with mix := cs.foldl mix1 δ.mix })
  | [], x, n, δ => ⟨x, rfl⟩
  | c :: cs, x, n, δ => by
    obtain ⟨y, ih⟩ := take_for cs (some (.f (.int c))) n { δ with mix := mix1 δ.mix c }
    refine ⟨y, ?_⟩
    have e1 : s2 mulI (sDrI 0 .mix) (sC (.int 69621)) [some (.f .drw), some n, some (.f (.int c)), none] δ = some (.f (.int (δ.mix * 69621)), δ) := s2_is rfl rfl (by
      show (if mulC δ.mix 69621 = true then _ else _) = _
      rw [if_pos (mulC_r _ (by decide))]
      rfl)
    have e2 : s2 mulI (sVar 2) (sC (.int 48271)) [some (.f .drw), some n, some (.f (.int c)), none] δ = some (.f (.int (c * 48271)), δ) := s2_is rfl rfl (by
      show (if mulC c 48271 = true then _ else _) = _
      rw [if_pos (mulC_r _ (by decide))])
    have e3 : s2 addA (s2 addA (s2 mulI (sDrI 0 .mix) (sC (.int 69621))) (s2 mulI (sVar 2) (sC (.int 48271)))) (sC (.int 12345)) [some (.f .drw), some n, some (.f (.int c)), none] δ = some (.f (.int (δ.mix * 69621 + c * 48271 + 12345)), δ) := s2_is (s2_is e1 e2 rfl) rfl rfl
    have e4 : s2 modI (sB intB (vCons (s2 addA (s2 addA (s2 mulI (sDrI 0 .mix) (sC (.int 69621))) (s2 mulI (sVar 2) (sC (.int 48271)))) (sC (.int 12345))) (vNil))) (sC (.int 2147483629)) [some (.f .drw), some n, some (.f (.int c)), none] δ = some (.f (.int (mix1 δ.mix c)), δ) := s2_is (b_is (vcons_is e3 rfl) rfl) rfl rfl
    have e5 : sDrSet 0 .mix (s2 modI (sB intB (vCons (s2 addA (s2 addA (s2 mulI (sDrI 0 .mix) (sC (.int 69621))) (s2 mulI (sVar 2) (sC (.int 48271)))) (sC (.int 12345))) (vNil))) (sC (.int 2147483629))) [some (.f .drw), some n, some (.f (.int c)), none] δ = some (.nx [some (.f .drw), some n, some (.f (.int c)), none] { δ with mix := mix1 δ.mix c }) := by
      unfold sDrSet
      rw [if_pos (show isDrw _ 0 = true from rfl), e4]
      show (if DK.ok .mix (mix1 δ.mix c) = true then _ else _) = _
      rw [if_pos (show DK.ok .mix (mix1 δ.mix c) = true from decide_eq_true (mix1_ok _ _))]
      rfl
    show (Option.bind (sDrSet 0 .mix _ [some (.f .drw), some n, some (.f (.int c)), none] δ) _) = _
    rw [e5]
    exact ih
theorem beq0 {i : Int} (h : i = 0) : ((i == 0) != false) = true := by simp [h]
theorem bne0 {i : Int} (h : ¬ i = 0) : ((i == 0) != false) = false := by simp [h]
theorem take_is {δ : DS} (ok : DOk δ) {n : Int} (h0 : 0 < n) (h1 : n < 1073741824) : takeM [.drw, .int n] δ = some (.f (.int ((takeD δ).rest % n)), { takeD δ with rest := (takeD δ).rest / n }) ∧ 0 ≤ (takeD δ).rest ∧ DOk { takeD δ with rest := (takeD δ).rest / n } := by
  have t1 : ∀ (ρ : En), isDrw ρ 0 = true → sTest (s2 (eqD false) (sDrI 0 .rest) (sC (.int 0))) ρ δ = some ((δ.rest == 0) != false, δ) := fun ρ hρ => sTest_is (s2_is (by unfold sDrI; rw [if_pos hρ]; rfl) rfl (eqD_int _ _ _))
  -- what is left behind the first statement
  have key : ∃ x, (sIfS (tAndM (sTest (s2 (eqD false) (sDrI 0 .rest) (sC (.int 0)))) (tDrL 0)) (sDrPop 0) (sIfS (sTest (s2 (eqD false) (sDrI 0 .rest) (sC (.int 0)))) (sSeq (sDrSet 0 .turn (s2 addA (sDrI 0 .turn) (sC (.int 1)))) (sSeq (sFor (mIt (sDrAll 0 (aCons (sDrI 0 .turn) (aNil)))) (gNm 2) (sDrSet 0 .mix (s2 modI (sB intB (vCons (s2 addA (s2 addA (s2 mulI (sDrI 0 .mix) (sC (.int 69621))) (s2 mulI (sVar 2) (sC (.int 48271)))) (sC (.int 12345))) (vNil))) (sC (.int 2147483629))))) (sDrSet 0 .rest (s2 modI (sB intB (vCons (s2 powI (sDrI 0 .mix) (sC (.int 5))) (vNil))) (sC (.int 2305843009213693951)))))) (sNop)))
      [some (.f .drw), some (.f (.int n)), none, none] δ = some (.nx [some (.f .drw), some (.f (.int n)), x, none] (takeD δ)) ∧ DOk (takeD δ) := by
    by_cases hr : δ.rest = 0
    · cases hL : δ.large with
      | cons z l =>
        have hz : 0 ≤ z := ok.lg z (by rw [hL]; exact List.mem_cons_self ..)
        have td : takeD δ = { δ with large := l, rest := z } := by
          unfold takeD
          rw [if_pos hr, hL]
        refine ⟨none, ?_, ?_⟩
        · rw [if_t (δ1 := δ) ((tAnd_t ((t1 _ rfl).trans (by rw [beq0 hr]))).trans (show tDrL 0 _ δ = _ from by
            unfold tDrL
            rw [if_pos (show isDrw _ 0 = true from rfl), hL]
            rfl))]
          unfold sDrPop
          rw [if_pos (show isDrw _ 0 = true from rfl), hL, td]
        · rw [td]
          exact ⟨hz, ok.m0, ok.m1, fun y hy => ok.lg y (by rw [hL]; exact List.mem_cons_of_mem _ hy), ok.lc⟩
      | nil =>
        obtain ⟨y, hy⟩ := take_for ((δ.turn + 1) :: δ.cells) none (.f (.int n)) { δ with turn := δ.turn + 1 }
        have fm : ∀ (cs : List Int) (m : Int), 0 ≤ m ∧ m < 2147483629 → 0 ≤ cs.foldl mix1 m ∧ cs.foldl mix1 m < 2147483629 := by
          intro cs
          induction cs with
          | nil => intro m h; exact h
          | cons c cs ih => intro m h; exact ih _ (mix1_ok m c)
        have hm := fm ((δ.turn + 1) :: δ.cells) δ.mix ⟨ok.m0, ok.m1⟩
        have td : takeD δ = { δ with turn := δ.turn + 1, mix := ((δ.turn + 1) :: δ.cells).foldl mix1 δ.mix, rest := (((δ.turn + 1) :: δ.cells).foldl mix1 δ.mix) ^ 5 % 2305843009213693951 } := by
          unfold takeD
          rw [if_pos hr, hL]
        have hre : 0 ≤ (((δ.turn + 1) :: δ.cells).foldl mix1 δ.mix) ^ 5 % 2305843009213693951 := Int.emod_nonneg _ (by decide)
        refine ⟨y, ?_, ?_⟩
        · rw [if_f (δ1 := δ) ((tAnd_t ((t1 _ rfl).trans (by rw [beq0 hr]))).trans (show tDrL 0 _ δ = _ from by
            unfold tDrL
            rw [if_pos (show isDrw _ 0 = true from rfl), hL]
            rfl)), if_t (δ1 := δ) ((t1 _ rfl).trans (by rw [beq0 hr]))]
          have s1 : sDrSet 0 .turn (s2 addA (sDrI 0 .turn) (sC (.int 1))) [some (.f .drw), some (.f (.int n)), none, none] δ = some (.nx [some (.f .drw), some (.f (.int n)), none, none] { δ with turn := δ.turn + 1 }) := by
            unfold sDrSet
            rw [if_pos (show isDrw _ 0 = true from rfl), show s2 addA (sDrI 0 .turn) (sC (.int 1)) [some (.f .drw), some (.f (.int n)), none, none] δ = some (.f (.int (δ.turn + 1)), δ) from s2_is rfl rfl rfl]
            rfl
          rw [seq_nx s1]
          have s2' : sFor (mIt (sDrAll 0 (aCons (sDrI 0 .turn) (aNil)))) (gNm 2) (sDrSet 0 .mix (s2 modI (sB intB (vCons (s2 addA (s2 addA (s2 mulI (sDrI 0 .mix) (sC (.int 69621))) (s2 mulI (sVar 2) (sC (.int 48271)))) (sC (.int 12345))) (vNil))) (sC (.int 2147483629)))) [some (.f .drw), some (.f (.int n)), none, none] { δ with turn := δ.turn + 1 } =
              some (.nx [some (.f .drw), some (.f (.int n)), y, none] { δ with turn := δ.turn + 1, mix := ((δ.turn + 1) :: δ.cells).foldl mix1 δ.mix }) := by
            have hi : mIt (sDrAll 0 (aCons (sDrI 0 .turn) (aNil))) [some (.f .drw), some (.f (.int n)), none, none] { δ with turn := δ.turn + 1 } = some ((((δ.turn + 1) :: δ.cells).map D.int, false), { δ with turn := δ.turn + 1 }) := rfl
            unfold sFor
            rw [hi, Option.bind_some]
            exact hy
          rw [seq_nx s2', td]
          have hp : s2 powI (sDrI 0 .mix) (sC (.int 5)) [some (.f .drw), some (.f (.int n)), y, none] { δ with turn := δ.turn + 1, mix := ((δ.turn + 1) :: δ.cells).foldl mix1 δ.mix } = some (.f (.int ((((δ.turn + 1) :: δ.cells).foldl mix1 δ.mix) ^ 5)), { δ with turn := δ.turn + 1, mix := ((δ.turn + 1) :: δ.cells).foldl mix1 δ.mix }) := s2_is rfl rfl (by
            show (if decide (0 ≤ (5 : Int) ∧ (5 : Int) ≤ 1000000 ∧ (((δ.turn + 1) :: δ.cells).foldl mix1 δ.mix).natAbs < 2 ^ 64) = true then some _ else none) = _
            rw [if_pos (decide_eq_true ⟨by decide, by decide, by omega⟩)]
            rfl)
          unfold sDrSet
          rw [if_pos (show isDrw _ 0 = true from rfl), show s2 modI (sB intB (vCons (s2 powI (sDrI 0 .mix) (sC (.int 5))) (vNil))) (sC (.int 2305843009213693951)) [some (.f .drw), some (.f (.int n)), y, none] { δ with turn := δ.turn + 1, mix := ((δ.turn + 1) :: δ.cells).foldl mix1 δ.mix } = some (.f (.int ((((δ.turn + 1) :: δ.cells).foldl mix1 δ.mix) ^ 5 % 2305843009213693951)), { δ with turn := δ.turn + 1, mix := ((δ.turn + 1) :: δ.cells).foldl mix1 δ.mix }) from s2_is (b_is (vcons_is hp rfl) rfl) rfl rfl]
          show (if DK.ok .rest ((((δ.turn + 1) :: δ.cells).foldl mix1 δ.mix) ^ 5 % 2305843009213693951) = true then some _ else none) = _
          rw [if_pos (show DK.ok .rest _ = true from decide_eq_true hre)]
          rfl
        · rw [td]
          exact ⟨hre, hm.1, hm.2, ok.lg, ok.lc⟩
    · have td : takeD δ = δ := by
        unfold takeD
        rw [if_neg hr]
      refine ⟨none, ?_, by rw [td]; exact ok⟩
      rw [if_f (δ1 := δ) (tAnd_f ((t1 _ rfl).trans (by rw [bne0 hr]))), if_f (δ1 := δ) ((t1 _ rfl).trans (by rw [bne0 hr])), td]
      rfl
  obtain ⟨x, k1, k2⟩ := key
  have hq : 0 ≤ (takeD δ).rest / n := Int.ediv_nonneg k2.r0 (Int.le_of_lt h0)
  refine ⟨?_, k2.r0, ⟨hq, k2.m0, k2.m1, k2.lg, k2.lc⟩⟩
  refine fn_rt (b := .f (.int ((takeD δ).rest % n))) ?_
  show takeB [some (.f .drw), some (.f (.int n)), none, none] δ = _
  unfold takeB
  rw [seq_nx k1]
  have hd : sB divmodB (vCons (sDrI 0 .rest) (vCons (sVar 1) vNil)) [some (.f .drw), some (.f (.int n)), x, none] (takeD δ) = some (.f (.tup [.int ((takeD δ).rest / n), .int ((takeD δ).rest % n)]), takeD δ) := b_is (vcons_is rfl (vcons_is rfl rfl)) (by
    show (if 0 < n ∧ n < 1073741824 then some _ else none) = _
    rw [if_pos ⟨h0, h1⟩]
    rfl)
  have hs : sDrPair 0 3 (sB divmodB (vCons (sDrI 0 .rest) (vCons (sVar 1) vNil))) [some (.f .drw), some (.f (.int n)), x, none] (takeD δ) = some (.nx [some (.f .drw), some (.f (.int n)), x, some (.f (.int ((takeD δ).rest % n)))] { takeD δ with rest := (takeD δ).rest / n }) := by
    unfold sDrPair
    rw [if_pos (show isDrw _ 0 = true from rfl), hd]
    show (if DK.ok .rest ((takeD δ).rest / n) = true then some _ else none) = _
    rw [if_pos (show DK.ok .rest _ = true from decide_eq_true hq)]
    rfl
  rw [seq_nx hs]
  rfl
/-- a draw below n -/
theorem take_ok {δ : DS} (ok : DOk δ) {n : Int} (h0 : 0 < n) (h1 : n < 1073741824) : ∃ (r : Nat) (δ' : DS), takeM [.drw, .int n] δ = some (.f (.int r), δ') ∧ (r : Int) < n ∧ DOk δ' := by
  obtain ⟨a, b, c⟩ := take_is ok h0 h1
  have hm := Int.emod_nonneg (takeD δ).rest (Int.ne_of_gt h0)
  have hl := Int.emod_lt_of_pos (takeD δ).rest h0
  refine ⟨((takeD δ).rest % n).toNat, _, ?_, ?_, c⟩
  · rw [Int.toNat_of_nonneg hm]; exact a
  · rw [Int.toNat_of_nonneg hm]; exact hl
theorem beg_ok (ns : List Int) (h : ns.length ≤ 63) : DOk (begD ns) := ⟨Int.le_refl _, show (0 : Int) ≤ 7 by decide, show (7 : Int) < 2147483629 by decide, fun z hz => by
  obtain ⟨y, _, rfl⟩ := List.mem_map.mp (show z ∈ (ns.filter _).map absI from hz)
  unfold absI
  split <;> omega, h⟩
end Py
/-! Layer, part Z: more plain lemmas: comprehensions, picks. -/
namespace Py
open PySem L2
theorem lc_all {mg : MeG} {mt : MeT} {me : Me} {ρ : En} (Pd : D → Prop) (R : DS → Prop) (xs : List D) (step : ∀ x ∈ xs, ∀ δ, R δ → ∃ ρ1 b δ', mg x ρ = some ρ1 ∧ mt ρ1 δ = some (true, δ) ∧ me ρ1 δ = some (b, δ') ∧ b.isW = false ∧ Pd b.d ∧ R δ') :
    ∀ δ, R δ → ∃ ys δ', lcF mg mt me ρ xs δ = some (ys, δ') ∧ ys.length = xs.length ∧ (∀ y ∈ ys, Pd y) ∧ R δ' := by
  induction xs with
  | nil => exact fun δ h => ⟨[], δ, rfl, rfl, (fun _ h => by cases h), h⟩
  | cons x xs ih =>
    intro δ h
    obtain ⟨ρ1, b, δ1, e1, e2, e3, hw, hp, hr⟩ := step x (List.mem_cons_self ..) δ h
    obtain ⟨ys, δ2, f1, f2, f3, f4⟩ := ih (fun x hx => step x (List.mem_cons_of_mem _ hx)) δ1 hr
    refine ⟨b.d :: ys, δ2, ?_, congrArg Nat.succ f2, fun y hy => ?_, f4⟩
    · rw [lcF, e1, Option.bind_some, e2, Option.bind_some]
      show (me ρ1 δ).bind _ = _
      rw [e3, Option.bind_some]
      show (if b.isW = true then _ else _) = _
      rw [hw]
      show (lcF mg mt me ρ xs δ1).bind _ = _
      rw [f1]; rfl
    · rcases List.mem_cons.mp hy with q | q
      · subst q; exact hp
      · exact f3 y q
theorem lc_map {mg : MeG} {mt : MeT} {me : Me} {ρ : En} {δ : DS} (g : D → D) : ∀ (xs : List D), (∀ x ∈ xs, ∃ ρ1 b, mg x ρ = some ρ1 ∧ mt ρ1 δ = some (true, δ) ∧ me ρ1 δ = some (b, δ) ∧ b.isW = false ∧ b.d = g x) → lcF mg mt me ρ xs δ = some (xs.map g, δ)
  | [], _ => rfl
  | x :: xs, step => by
    obtain ⟨ρ1, b, e1, e2, e3, hw, hp⟩ := step x (List.mem_cons_self ..)
    rw [lcF, e1, Option.bind_some, e2, Option.bind_some]
    show (me ρ1 δ).bind _ = _
    rw [e3, Option.bind_some]
    show (if b.isW = true then _ else _) = _
    rw [hw]
    show (lcF mg mt me ρ xs δ).bind _ = _
    rw [lc_map g xs fun x hx => step x (List.mem_cons_of_mem _ hx), List.map_cons, ← hp]; rfl
theorem lc_is {mi : MeI} {mg : MeG} {mt : MeT} {me : Me} {own : List Nat} {ρ : En} {δ δ1 δ2 : DS} {ds ys : List D} {l : Bool} (h : mi ρ δ = some ((ds, l), δ1)) (hc : ds.length ≤ cap) (k : lcF mg mt me (wipeE ρ own) ds δ1 = some (ys, δ2)) : sLc mi mg mt me own ρ δ = some (.o (.lst ys), δ2) := by
  unfold sLc
  rw [h, Option.bind_some]
  show (if ds.length ≤ cap then _ else _) = _
  rw [if_pos hc]
  show (lcF mg mt me (wipeE ρ own) ds δ1).bind _ = _
  rw [k]; rfl
theorem rng1_is {ms : MeL} {ρ : En} {δ δ1 : DS} {j : Int} (h : ms ρ δ = some ([.int j], δ1)) (h0 : 0 ≤ j) (h1 : j < 2 ^ 62) : mRng1 ms ρ δ = some ((rngD 0 j.toNat, false), δ1) := by
  unfold mRng1
  rw [h, Option.bind_some]
  show (if smI j = true then some _ else none) = _
  rw [if_pos (by unfold smI; rw [decide_eq_true h1, Bool.and_true]; exact decide_eq_true (by omega))]
theorem rngD_len (lo : Int) (n : Nat) : (rngD lo n).length = n := by unfold rngD; simp
theorem rngD_mem {n : Nat} {x : D} (h : x ∈ rngD 0 n) : ∃ i : Nat, i < n ∧ x = .int i := by
  obtain ⟨i, hi, rfl⟩ := List.mem_map.mp h
  exact ⟨i, List.mem_range.mp hi, by simp⟩
theorem for_nil {mg : MeG} {m : MeS} {ρ : En} {δ : DS} : forF mg m [] ρ δ = some (.nx ρ δ) := rfl
theorem for_cons {mg : MeG} {m : MeS} {d : D} {ds : List D} {ρ ρ1 ρ2 : En} {δ δ1 : DS} (h : mg d ρ = some ρ1) (k : m ρ1 δ = some (.nx ρ2 δ1)) : forF mg m (d :: ds) ρ δ = forF mg m ds ρ2 δ1 := by
  rw [forF, h, Option.bind_some, k]; rfl
theorem for_rt {mg : MeG} {m : MeS} {d : D} {ds : List D} {ρ ρ1 : En} {δ δ1 : DS} {b : B} (h : mg d ρ = some ρ1) (k : m ρ1 δ = some (.rt b δ1)) : forF mg m (d :: ds) ρ δ = some (.rt b δ1) := by
  rw [forF, h, Option.bind_some, k]; rfl
theorem sFor_is {mi : MeI} {mg : MeG} {m : MeS} {ρ : En} {δ δ1 : DS} {ds : List D} (h : mi ρ δ = some ((ds, false), δ1)) : sFor mi mg m ρ δ = forF mg m ds ρ δ1 := by
  unfold sFor
  rw [h]; rfl

/-! ### subscripts -/
theorem ixN_nat {n i : Nat} (h : i < n) : ixN n (i : Int) = some i := by
  unfold ixN
  rw [if_pos (by omega), if_pos (by omega)]
  simp
theorem atI_nat {α : Type} {ds : List α} {i : Nat} {d : α} (h : ds[i]? = some d) : atI ds (i : Int) = some d := by
  unfold atI
  rw [ixN_nat (List.getElem?_eq_some_iff.mp h).1]
  exact h
theorem ixB_lst {ds : List D} {i : Nat} {d : D} (h : ds[i]? = some d) : ixB (.f (.lst ds)) (.f (.int i)) = some (.f d) := by
  show (match (Option.bind (atI ds (i : Int)) fun d => some (B.f d)) with | some z => some z | none => _) = _
  rw [atI_nat h]; rfl
theorem ixB_olst {ds : List D} {i : Nat} {d : D} (h : ds[i]? = some d) : ixB (.o (.lst ds)) (.f (.int i)) = some (.f d) := by
  show (match (Option.bind (atI ds (i : Int)) fun d => some (B.f d)) with | some z => some z | none => _) = _
  rw [atI_nat h]; rfl
theorem ixB_wlst {ds : List D} {i : Nat} {d : D} (h : ds[i]? = some d) : ixB (.w (.lst ds)) (.f (.int i)) = some (.f d) := by
  show (match (Option.bind (atI ds (i : Int)) fun d => some (B.f d)) with | some z => some z | none => _) = _
  rw [atI_nat h]; rfl
theorem ixB_tup {ds : List D} {i : Nat} {d : D} (h : ds[i]? = some d) : ixB (.f (.tup ds)) (.f (.int i)) = some (.f d) := by
  show (match (Option.bind (atI ds (i : Int)) fun d => some (B.f d)) with | some z => some z | none => _) = _
  rw [atI_nat h]; rfl
theorem ixB_str {z : PySem.Str} {i c : Nat} (hz : z.length ≤ cap) (h : z.cps.toList[i]? = some c) : ixB (.f (.str z)) (.f (.int i)) = some (.f (.str ⟨#[c]⟩)) := by
  show (if z.length ≤ cap then (atI z.cps.toList (i : Int)).bind fun c => some (B.f (.str ⟨#[c]⟩)) else none) = _
  rw [if_pos hz, atI_nat h]; rfl

/-! ### _law_pick -/
def pickB : MeS := sRet (s2 ixB (sVar 1) (sCall takeM (aCons (sVar 0) (aCons (sB lenB (vCons (sVar 1) (vNil))) (aNil)))))
def pickM : Fn := fnM 2 pickB
theorem pick_ok {δ : DS} (ok : DOk δ) {d : D} {k : Nat} (hk : 0 < k) (hk2 : k < 1073741824) (hl : lenD (.f d) = some k) (get : Nat → D) (hg : ∀ i, i < k → ixB (.f d) (.f (.int i)) = some (.f (get i))) : ∃ i δ', i < k ∧ pickM [.drw, d] δ = some (.f (get i), δ') ∧ DOk δ' := by
  obtain ⟨r, δ', e, hr, ok'⟩ := take_ok (n := (k : Int)) ok (by omega) (by omega)
  refine ⟨r, δ', by omega, fn_rt (b := .f (get r)) ?_, ok'⟩
  have hb : sB lenB (vCons (sVar 1) vNil) [some (.f .drw), some (.f d)] δ = some (.f (.int k), δ) := b_is (vcons_is rfl rfl) (by
    show (lenD (.f d)).bind _ = _
    rw [hl]; rfl)
  have hc : sCall takeM (aCons (sVar 0) (aCons (sB lenB (vCons (sVar 1) (vNil))) (aNil))) [some (.f .drw), some (.f d)] δ = some (.f (.int r), δ') := call_is (cons_is rfl rfl (cons_is hb rfl rfl)) e rfl
  exact ret_is (b := .f (get r)) (s2_is rfl hc (hg r (by omega)))
theorem pick_lst {δ : DS} (ok : DOk δ) {ds : List D} (h0 : ds ≠ []) (h1 : ds.length < 1073741824) : ∃ x δ', x ∈ ds ∧ pickM [.drw, .lst ds] δ = some (.f x, δ') ∧ DOk δ' := by
  obtain ⟨i, δ', hi, e, ok'⟩ := pick_ok (k := ds.length) ok (List.length_pos_iff.mpr h0) h1 (d := .lst ds) rfl (fun i => ds.getD i .non) fun i hi => ixB_lst (by rw [List.getElem?_eq_getElem hi, List.getD_eq_getElem?_getD, List.getElem?_eq_getElem hi]; rfl)
  refine ⟨_, δ', ?_, e, ok'⟩
  rw [List.getD_eq_getElem?_getD, List.getElem?_eq_getElem hi]
  exact List.getElem_mem hi
theorem pick_str {δ : DS} (ok : DOk δ) {z : PySem.Str} (h0 : z.cps.toList ≠ []) (h1 : z.length ≤ cap) : ∃ c δ', c ∈ z.cps.toList ∧ pickM [.drw, .str z] δ = some (.f (.str ⟨#[c]⟩), δ') ∧ DOk δ' := by
  have hz : z.length = z.cps.toList.length := by simp [PySem.Str.length]
  obtain ⟨i, δ', hi, e, ok'⟩ := pick_ok (k := z.length) ok (by rw [hz]; exact List.length_pos_iff.mpr h0) (Nat.lt_of_le_of_lt h1 (by decide)) (d := .str z) (by
    show (if z.length ≤ cap then some z.length else none) = _
    rw [if_pos h1]) (fun i => .str ⟨#[z.cps.toList.getD i 0]⟩) fun i hi => ixB_str h1 (by
      rw [hz] at hi
      rw [List.getD_eq_getElem?_getD, List.getElem?_eq_getElem hi]; rfl)
  refine ⟨z.cps.toList.getD i 0, δ', ?_, e, ok'⟩
  rw [hz] at hi
  rw [List.getD_eq_getElem?_getD, List.getElem?_eq_getElem hi]
  exact List.getElem_mem hi
end Py
/-! Layer, part Za: == of plain data. -/
namespace Py
open PySem L2
/-- plain data, at most k deep -/
def pl : Nat → D → Bool
  | _, .non => true
  | _, .bl _ => true
  | _, .int _ => true
  | _, .str s => PyData.strOk s
  | k + 1, .tup ds => ds.all (pl k)
  | k + 1, .lst ds => ds.all (pl k)
  | _, _ => false
theorem pl_all {k : Nat} {f : PyData → Bool} (ih : ∀ d, pl k d = true → ∃ p, toPy d = some p ∧ PyData.canLay0 p = true ∧ PyData.depth p ≤ k) : ∀ ds : List D, ds.all (pl k) = true → ∃ ps, toPys ds = some ps ∧ PyData.canLayAll0 ps = true ∧ PyData.depthAll ps ≤ k ∧ ps.length = ds.length
  | [], _ => ⟨[], rfl, by simp [PyData.canLayAll0], by simp [PyData.depthAll], rfl⟩
  | d :: ds, h => by
    rw [List.all_cons, Bool.and_eq_true] at h
    obtain ⟨p, h1, h2, h3⟩ := ih d h.1
    obtain ⟨ps, k1, k2, k3, k4⟩ := pl_all (f := f) ih ds h.2
    refine ⟨p :: ps, ?_, by simp [PyData.canLayAll0, h2, k2], ?_, congrArg Nat.succ k4⟩
    · show (toPy d).bind _ = _
      rw [h1, Option.bind_some, k1]; rfl
    · simp only [PyData.depthAll]
      exact Nat.max_le.mpr ⟨h3, k3⟩
theorem pl_py : ∀ (k : Nat) (d : D), pl k d = true → ∃ p, toPy d = some p ∧ PyData.canLay0 p = true ∧ PyData.depth p ≤ k
  | k, .non, _ => ⟨.none, rfl, by simp [PyData.canLay0], by simp [PyData.depth]⟩
  | k, .bl b, _ => ⟨.bool b, rfl, by simp [PyData.canLay0], by simp [PyData.depth]⟩
  | k, .int i, _ => ⟨.int i, rfl, by simp [PyData.canLay0], by simp [PyData.depth]⟩
  | k, .str s, h => ⟨.str s, rfl, by
      have h : PyData.strOk s = true := by cases k <;> exact h
      simp [PyData.canLay0, h], by simp [PyData.depth]⟩
  | k + 1, .tup ds, h => by
    obtain ⟨ps, h1, h2, h3, _⟩ := pl_all (f := fun _ => true) (pl_py k) ds h
    refine ⟨.tuple ps, ?_, by simp [PyData.canLay0, h2], by simp [PyData.depth]; omega⟩
    show (toPys ds).bind _ = _
    rw [h1]; rfl
  | k + 1, .lst ds, h => by
    obtain ⟨ps, h1, h2, h3, _⟩ := pl_all (f := fun _ => true) (pl_py k) ds h
    refine ⟨.list ps, ?_, by simp [PyData.canLay0, h2], by simp [PyData.depth]; omega⟩
    show (toPys ds).bind _ = _
    rw [h1]; rfl
  | 0, .tup _, h => by cases h
  | 0, .lst _, h => by cases h
  | 0, .dct _ _, h => by cases h
  | 0, .ins _ _, h => by cases h
  | 0, .scr _, h => by cases h
  | 0, .drw, h => by cases h
  | 0, .obj _ _ _, h => by cases h
  | _ + 1, .dct _ _, h => by cases h
  | _ + 1, .ins _ _, h => by cases h
  | _ + 1, .scr _, h => by cases h
  | _ + 1, .drw, h => by cases h
  | _ + 1, .obj _ _ _, h => by cases h
def eqP (a b : D) : Bool := match toPy a, toPy b with
  | some x, some y => PyData.eqv x y
  | _, _ => false
theorem eqD_pl {k : Nat} (hk : k ≤ 64) (neg : Bool) {a b : B} (ha : pl k a.d = true) (hb : pl k b.d = true) : eqD neg a b = some (.f (.bl (eqP a.d b.d != neg))) := by
  obtain ⟨x, x1, x2, x3⟩ := pl_py k a.d ha
  obtain ⟨y, y1, y2, y3⟩ := pl_py k b.d hb
  unfold eqD eqP
  rw [x1, y1, Option.bind_some, Option.bind_some, if_pos (by
    unfold SeqAt.shaped
    rw [x2, y2, decide_eq_true (show x.depth ≤ 64 by omega), decide_eq_true (show y.depth ≤ 64 by omega)]
    rfl)]
theorem toPys_len : ∀ {ds : List D} {ps : List PyData}, toPys ds = some ps → ps.length = ds.length
  | [], _, h => by cases h; rfl
  | d :: ds, _, h => by
    obtain ⟨p, h1, h⟩ := Option.bind_eq_some_iff.mp (show (toPy d).bind _ = _ from h)
    obtain ⟨qs, h2, h⟩ := Option.bind_eq_some_iff.mp h
    cases h
    exact congrArg Nat.succ (toPys_len h2)
theorem eqP_tup_nil {k : Nat} {ds : List D} (h : pl k (.tup ds) = true) : eqP (.tup ds) (.tup []) = ds.isEmpty := by
  obtain ⟨p, h1, _, _⟩ := pl_py k _ h
  obtain ⟨ps, h2, h1⟩ := Option.bind_eq_some_iff.mp (show (toPys ds).bind _ = _ from h1)
  cases h1
  unfold eqP
  rw [show toPy (.tup ds) = some (.tuple ps) from by show (toPys ds).bind _ = _; rw [h2]; rfl, show toPy (.tup []) = some (.tuple []) from rfl]
  have hl := toPys_len h2
  cases ps with
  | nil =>
    cases ds with
    | nil => simp [PyData.eqv, PyData.eqvAll]
    | cons _ _ => cases hl
  | cons p ps =>
    cases ds with
    | nil => cases hl
    | cons _ _ => simp [PyData.eqv, PyData.eqvAll]
theorem eqP_lst_nil {k : Nat} {ds : List D} (h : pl k (.lst ds) = true) : eqP (.lst ds) (.lst []) = ds.isEmpty := by
  obtain ⟨p, h1, _, _⟩ := pl_py k _ h
  obtain ⟨ps, h2, h1⟩ := Option.bind_eq_some_iff.mp (show (toPys ds).bind _ = _ from h1)
  cases h1
  unfold eqP
  rw [show toPy (.lst ds) = some (.list ps) from by show (toPys ds).bind _ = _; rw [h2]; rfl, show toPy (.lst []) = some (.list []) from rfl]
  have hl := toPys_len h2
  cases ps with
  | nil =>
    cases ds with
    | nil => simp [PyData.eqv, PyData.eqvAll]
    | cons _ _ => cases hl
  | cons p ps =>
    cases ds with
    | nil => cases hl
    | cons _ _ => simp [PyData.eqv, PyData.eqvAll]
theorem pl_mono {k j : Nat} (h : k ≤ j) : ∀ {d : D}, pl k d = true → pl j d = true := by
  induction k generalizing j with
  | zero => intro d hd; cases d <;> cases j <;> first | rfl | exact hd | cases hd
  | succ k ih =>
    intro d hd
    obtain ⟨j, rfl⟩ : ∃ i, j = i + 1 := ⟨j - 1, by omega⟩
    cases d with
    | tup ds => exact List.all_eq_true.mpr fun x hx => ih (by omega) (List.all_eq_true.mp hd x hx)
    | lst ds => exact List.all_eq_true.mpr fun x hx => ih (by omega) (List.all_eq_true.mp hd x hx)
    | _ => exact hd
/-- two ints in a tuple -/
theorem eqv_2 (a b c d : Int) : PyData.eqv (.tuple [.int a, .int b]) (.tuple [.int c, .int d]) = (a == c && b == d) := by simp [PyData.eqv, PyData.eqvAll]
end Py
namespace K56
open PySem PySem.Spec PyProof.Rows L2 Py
def top (i : Nat) : Stmt := PySem.Challenge.pw_cutfont_k56_texts_read_back.main.body.getD i (.Pass ⟨0, 0, 0, 0⟩)
abbrev N__law_take : List PySem.Str := ["_law_draw", "_law_size", "_law_cell", "_law_found"]
abbrev S__law_take : Stmt := top 23
theorem sc__law_take : FnScope N__law_take ["_law_draw", "_law_size"] (defScope S__law_take) := ⟨rfl, rfl, rfl, by decide +kernel, rfl, by decide +kernel, by decide +kernel⟩
def y__law_take : DefY := ⟨fun K => He.ga K "_law_take", ⟨("_law_take", none), "_law_take", "_law_take", defArgs S__law_take, defBody S__law_take, defScope S__law_take, [], []⟩⟩
def mb__law_take : MeS := sSeq (sIfS (tAndM (sTest (s2 (eqD false) (sDrI 0 .rest) (sC (.int 0)))) (tDrL 0)) (sDrPop 0) (sIfS (sTest (s2 (eqD false) (sDrI 0 .rest) (sC (.int 0)))) (sSeq (sDrSet 0 .turn (s2 addA (sDrI 0 .turn) (sC (.int 1)))) (sSeq (sFor (mIt (sDrAll 0 (aCons (sDrI 0 .turn) (aNil)))) (gNm 2) (sDrSet 0 .mix (s2 modI (sB intB (vCons (s2 addA (s2 addA (s2 mulI (sDrI 0 .mix) (sC (.int 69621))) (s2 mulI (sVar 2) (sC (.int 48271)))) (sC (.int 12345))) (vNil))) (sC (.int 2147483629))))) (sDrSet 0 .rest (s2 modI (sB intB (vCons (s2 powI (sDrI 0 .mix) (sC (.int 5))) (vNil))) (sC (.int 2305843009213693951)))))) (sNop))) (sSeq (sDrPair 0 3 (sB divmodB (vCons (sDrI 0 .rest) (vCons (sVar 1) (vNil))))) (sRet (sVar 3)))
def m__law_take : Fn := fnM (List.length N__law_take) mb__law_take
abbrev N__law_pick : List PySem.Str := ["_law_draw", "_law_some"]
abbrev S__law_pick : Stmt := top 24
theorem sc__law_pick : FnScope N__law_pick ["_law_draw", "_law_some"] (defScope S__law_pick) := ⟨rfl, rfl, rfl, by decide +kernel, rfl, by decide +kernel, by decide +kernel⟩
def y__law_pick : DefY := ⟨fun K => He.ga K "_law_pick", ⟨("_law_pick", none), "_law_pick", "_law_pick", defArgs S__law_pick, defBody S__law_pick, defScope S__law_pick, [], []⟩⟩
def mb__law_pick : MeS := sRet (s2 ixB (sVar 1) (sCall m__law_take (aCons (sVar 0) (aCons (sB lenB (vCons (sVar 1) (vNil))) (aNil)))))
def m__law_pick : Fn := fnM (List.length N__law_pick) mb__law_pick
abbrev N__law_signs : List PySem.Str := ["_law_draw", "_law_most", "_law_k"]
abbrev S__law_signs : Stmt := top 27
theorem sc__law_signs : FnScope N__law_signs ["_law_draw", "_law_most"] (defScope S__law_signs) := ⟨rfl, rfl, rfl, by decide +kernel, rfl, by decide +kernel, by decide +kernel⟩
def y__law_signs : DefY := ⟨fun K => He.ga K "_law_signs", ⟨("_law_signs", none), "_law_signs", "_law_signs", defArgs S__law_signs, defBody S__law_signs, defScope S__law_signs, [], []⟩⟩
def mb__law_signs : MeS := sRet (sJoin (sC (.str "")) (sSortSet (sLc (mRng1 (aCons (s2 addA (sC (.int 1)) (sCall m__law_take (aCons (sVar 0) (aCons (sVar 1) (aNil))))) (aNil))) (gNm 2) (tYesM) (sCall m__law_pick (aCons (sVar 0) (aCons (sC (.str "abcxz")) (aNil)))) [2])))
def m__law_signs : Fn := fnM (List.length N__law_signs) mb__law_signs
abbrev N__law_marks : List PySem.Str := ["_law_draw", "_law_most", "_law_menu", "_law_k"]
abbrev S__law_marks : Stmt := top 25
theorem sc__law_marks : FnScope N__law_marks ["_law_draw", "_law_most"] (defScope S__law_marks) := ⟨rfl, rfl, rfl, by decide +kernel, rfl, by decide +kernel, by decide +kernel⟩
def y__law_marks : DefY := ⟨fun K => He.ga K "_law_marks", ⟨("_law_marks", none), "_law_marks", "_law_marks", defArgs S__law_marks, defBody S__law_marks, defScope S__law_marks, [], []⟩⟩
def mb__law_marks : MeS := sSeq (sAsg 2 (sFrz (sCall m__law_pick (aCons (sVar 0) (aCons (sLst (aCons (sLst (aCons (sC (.int 0)) (aNil))) (aCons (sLst (aCons (sC (.int 0)) (aCons (sC (.int 1)) (aNil)))) (aCons (sLst (aCons (sC (.int 0)) (aCons (sC (.int 1)) (aCons (sC (.str "a")) (aNil))))) (aCons (sLst (aCons (sC (.int 0)) (aCons (sC .non) (aCons (sC (.str "a")) (aCons (sTup (aCons (sC (.int 1)) (aCons (sC (.str "b")) (aNil)))) (aCons (sTup (aNil)) (aNil))))))) (aNil)))))) (aNil)))))) (sRet (sB tupB (vCons (sLc (mRng1 (aCons (sCall m__law_take (aCons (sVar 0) (aCons (s2 addA (sVar 1) (sC (.int 1))) (aNil)))) (aNil))) (gNm 3) (tYesM) (sCall m__law_pick (aCons (sVar 0) (aCons (sVar 2) (aNil)))) [3]) (vNil))))
def m__law_marks : Fn := fnM (List.length N__law_marks) mb__law_marks
abbrev N__law_lists : List PySem.Str := ["_law_draw", "_law_size", "_law_many", "_law_found", "_law_at", "_law_front", "_law_steps", "_law_k"]
abbrev S__law_lists : Stmt := top 26
theorem sc__law_lists : FnScope N__law_lists ["_law_draw", "_law_size", "_law_many"] (defScope S__law_lists) := ⟨rfl, rfl, rfl, by decide +kernel, rfl, by decide +kernel, by decide +kernel⟩
def y__law_lists : DefY := ⟨fun K => He.ga K "_law_lists", ⟨("_law_lists", none), "_law_lists", "_law_lists", defArgs S__law_lists, defBody S__law_lists, defScope S__law_lists, [], []⟩⟩
def mb__law_lists : MeS := sSeq (sAsg 3 (sLst (aNil))) (sSeq (sFor (mRng1 (aCons (sVar 2) (aNil))) (gNm 4) (sSeq (sAsg 5 (sFrz (sIf (tAndM (sTest (s2 gtA (sVar 4) (sC (.int 0)))) (sTest (s2 (eqD false) (sCall m__law_take (aCons (sVar 0) (aCons (sC (.int 2)) (aNil)))) (sC (.int 0))))) (sCall m__law_marks (aCons (sVar 0) (aCons (sC (.int 2)) (aNil)))) (sTup (aNil))))) (sSeq (sAsg 6 (sFrz (sB tupB (vCons (sLc (mRng1 (aCons (sVar 1) (aNil))) (gNm 7) (tYesM) (sTup (aCons (s2 addA (sVar 5) (sCall m__law_marks (aCons (sVar 0) (aCons (sC (.int 2)) (aNil))))) (aCons (sCall m__law_take (aCons (sVar 0) (aCons (sVar 2) (aNil)))) (aNil)))) [7]) (vNil))))) (sApp 3 (aCons (sTup (aCons (sIf (sTest (s2 gtA (sVar 4) (sC (.int 0)))) (s2 addA (sVar 5) (sCall m__law_marks (aCons (sVar 0) (aCons (sC (.int 2)) (aNil))))) (sTup (aNil))) (aCons (sVar 6) (aNil)))) (aNil)))))) (sRet (sB tupB (vCons (sVar 3) (vNil)))))
def m__law_lists : Fn := fnM (List.length N__law_lists) mb__law_lists
abbrev N_is_letter : List PySem.Str := ["value"]
abbrev S_is_letter : Stmt := top 12
theorem sc_is_letter : FnScope N_is_letter ["value"] (defScope S_is_letter) := ⟨rfl, rfl, rfl, by decide +kernel, rfl, by decide +kernel, by decide +kernel⟩
def y_is_letter : DefY := ⟨fun K => He.ga K "is_letter", ⟨("is_letter", none), "is_letter", "is_letter", defArgs S_is_letter, defBody S_is_letter, defScope S_is_letter, [], []⟩⟩
def mb_is_letter : MeS := sRet (sAnd (sIsi .str (sVar 0)) (sAnd (s2 (eqD false) (sB lenB (vCons (sVar 0) (vNil))) (sC (.int 1))) (s2 (inA false) (sVar 0) (sC (.str "abcdefghijklmnopqrstuvwxyz")))))
def m_is_letter : Fn := fnM (List.length N_is_letter) mb_is_letter
abbrev N_is_ascending : List PySem.Str := ["items", "one", "other"]
abbrev S_is_ascending : Stmt := top 11
theorem sc_is_ascending : FnScope N_is_ascending ["items"] (defScope S_is_ascending) := ⟨rfl, rfl, rfl, by decide +kernel, rfl, by decide +kernel, by decide +kernel⟩
def y_is_ascending : DefY := ⟨fun K => He.ga K "is_ascending", ⟨("is_ascending", none), "is_ascending", "is_ascending", defArgs S_is_ascending, defBody S_is_ascending, defScope S_is_ascending, [], []⟩⟩
def mb_is_ascending : MeS := sRet (sB allB (vCons (sLc (mZip (sVar 0) (sSl slA (sVar 0) (oYes (sC (.int 1))) (oNo))) (gTp (gCn (gNm 1) (gCn (gNm 2) (gNl)))) (tYesM) (s2 ltA (sVar 1) (sVar 2)) [1, 2]) (vNil)))
def m_is_ascending : Fn := fnM (List.length N_is_ascending) mb_is_ascending
abbrev N_is_tuple : List PySem.Str := ["value", "least", "most"]
abbrev S_is_tuple : Stmt := top 10
theorem sc_is_tuple : FnScope N_is_tuple ["value", "least", "most"] (defScope S_is_tuple) := ⟨rfl, rfl, rfl, by decide +kernel, rfl, by decide +kernel, by decide +kernel⟩
def y_is_tuple : DefY := ⟨fun K => He.ga K "is_tuple", ⟨("is_tuple", none), "is_tuple", "is_tuple", defArgs S_is_tuple, defBody S_is_tuple, defScope S_is_tuple, [], []⟩⟩
def mb_is_tuple : MeS := sRet (sAnd (sIsi .tup (sVar 0)) (sChain leI leI (sVar 1) (sB lenB (vCons (sVar 0) (vNil))) (sVar 2)))
def m_is_tuple : Fn := fnM (List.length N_is_tuple) mb_is_tuple
abbrev N_is_symbol : List PySem.Str := ["value", "one"]
abbrev S_is_symbol : Stmt := top 14
theorem sc_is_symbol : FnScope N_is_symbol ["value"] (defScope S_is_symbol) := ⟨rfl, rfl, rfl, by decide +kernel, rfl, by decide +kernel, by decide +kernel⟩
def y_is_symbol : DefY := ⟨fun K => He.ga K "is_symbol", ⟨("is_symbol", none), "is_symbol", "is_symbol", defArgs S_is_symbol, defBody S_is_symbol, defScope S_is_symbol, [], []⟩⟩
def mb_is_symbol (mr : Fn) : MeS := sSeq (sIfS (sTest (sIsi .tup (sVar 0))) (sRet (sB allB (vCons (sLc (mIt (sVar 0)) (gNm 1) (tYesM) (sCall mr (aCons (sVar 1) (aNil))) [1]) (vNil)))) (sNop)) (sRet (sOr (s1 (isNonB false) (sVar 0)) (sAnd (sIsiT [.str, .int] (sVar 0)) (sNot (sIsi .bl (sVar 0))))))
def m_is_symbol : Nat → Fn
  | 0 => fun _ _ => none
  | j + 1 => fnM (List.length N_is_symbol) (mb_is_symbol (m_is_symbol j))
abbrev N_are_symbols : List PySem.Str := ["value"]
abbrev S_are_symbols : Stmt := top 15
theorem sc_are_symbols : FnScope N_are_symbols ["value"] (defScope S_are_symbols) := ⟨rfl, rfl, rfl, by decide +kernel, rfl, by decide +kernel, by decide +kernel⟩
def y_are_symbols : DefY := ⟨fun K => He.ga K "are_symbols", ⟨("are_symbols", none), "are_symbols", "are_symbols", defArgs S_are_symbols, defBody S_are_symbols, defScope S_are_symbols, [], []⟩⟩
def mb_are_symbols : MeS := sRet (sAnd (sIsi .tup (sVar 0)) (sCall (m_is_symbol 8) (aCons (sVar 0) (aNil))))
def m_are_symbols : Fn := fnM (List.length N_are_symbols) mb_are_symbols
abbrev N_is_between : List PySem.Str := ["value", "least", "most"]
abbrev S_is_between : Stmt := top 9
theorem sc_is_between : FnScope N_is_between ["value", "least", "most"] (defScope S_is_between) := ⟨rfl, rfl, rfl, by decide +kernel, rfl, by decide +kernel, by decide +kernel⟩
def y_is_between : DefY := ⟨fun K => He.ga K "is_between", ⟨("is_between", none), "is_between", "is_between", defArgs S_is_between, defBody S_is_between, defScope S_is_between, [], []⟩⟩
def mb_is_between : MeS := sRet (sAnd (sIsi .int (sVar 0)) (sAnd (sNot (sIsi .bl (sVar 0))) (sChain leI leI (sVar 1) (sVar 0) (sVar 2))))
def m_is_between : Fn := fnM (List.length N_is_between) mb_is_between
abbrev N_is_step : List PySem.Str := ["value", "many"]
abbrev S_is_step : Stmt := top 16
theorem sc_is_step : FnScope N_is_step ["value", "many"] (defScope S_is_step) := ⟨rfl, rfl, rfl, by decide +kernel, rfl, by decide +kernel, by decide +kernel⟩
def y_is_step : DefY := ⟨fun K => He.ga K "is_step", ⟨("is_step", none), "is_step", "is_step", defArgs S_is_step, defBody S_is_step, defScope S_is_step, [], []⟩⟩
def mb_is_step : MeS := sRet (sAnd (sCall m_is_tuple (aCons (sVar 0) (aCons (sC (.int 2)) (aCons (sC (.int 2)) (aNil))))) (sAnd (sCall m_are_symbols (aCons (s2 ixB (sVar 0) (sC (.int 0))) (aNil))) (sCall m_is_between (aCons (s2 ixB (sVar 0) (sC (.int 1))) (aCons (sC (.int 0)) (aCons (s2 subI (sVar 1) (sC (.int 1))) (aNil)))))))
def m_is_step : Fn := fnM (List.length N_is_step) mb_is_step
abbrev N_is_row : List PySem.Str := ["value", "width", "many", "step"]
abbrev S_is_row : Stmt := top 17
theorem sc_is_row : FnScope N_is_row ["value", "width", "many"] (defScope S_is_row) := ⟨rfl, rfl, rfl, by decide +kernel, rfl, by decide +kernel, by decide +kernel⟩
def y_is_row : DefY := ⟨fun K => He.ga K "is_row", ⟨("is_row", none), "is_row", "is_row", defArgs S_is_row, defBody S_is_row, defScope S_is_row, [], []⟩⟩
def mb_is_row : MeS := sSeq (sIfS (tOrM (tNotM (sTest (sCall m_is_tuple (aCons (sVar 0) (aCons (sC (.int 2)) (aCons (sC (.int 2)) (aNil))))))) (tOrM (tNotM (sTest (sCall m_are_symbols (aCons (s2 ixB (sVar 0) (sC (.int 0))) (aNil))))) (tNotM (sTest (sCall m_is_tuple (aCons (s2 ixB (sVar 0) (sC (.int 1))) (aCons (sVar 1) (aCons (sVar 1) (aNil))))))))) (sRet (sC (.bl false))) (sNop)) (sRet (sB allB (vCons (sLc (mIt (s2 ixB (sVar 0) (sC (.int 1)))) (gNm 3) (tYesM) (sCall m_is_step (aCons (sVar 3) (aCons (sVar 2) (aNil)))) [3]) (vNil))))
def m_is_row : Fn := fnM (List.length N_is_row) mb_is_row
abbrev N_Machined__initd_ : List PySem.Str := ["self", "letters", "rows", "letter", "row"]
abbrev S_Machined__initd_ : Stmt := inClass (top 18) 0
theorem sc_Machined__initd_ : FnScope N_Machined__initd_ ["self", "letters", "rows"] (defScope S_Machined__initd_) := ⟨rfl, rfl, rfl, by decide +kernel, rfl, by decide +kernel, by decide +kernel⟩
def y_Machined__initd_ : DefY := ⟨fun K => He.ma K (He.ga K "Machine") "__init__", ⟨("__init__", none), "__init__", "Machine.__init__", defArgs S_Machined__initd_, defBody S_Machined__initd_, defScope S_Machined__initd_, [], []⟩⟩
def mb_Machined__initd_ : MeS := sSeq (sIfS (tOrM (tNotM (sTest (sIsi .str (sVar 1)))) (tNotM (sTest (sChain leI leI (sC (.int 1)) (sB lenB (vCons (sVar 1) (vNil))) (sC (.int 8)))))) (sNo) (sNop)) (sSeq (sIfS (tOrM (tNotM (sTest (sB allB (vCons (sLc (mIt (sVar 1)) (gNm 3) (tYesM) (sCall m_is_letter (aCons (sVar 3) (aNil))) [3]) (vNil))))) (tNotM (sTest (sCall m_is_ascending (aCons (sVar 1) (aNil)))))) (sNo) (sNop)) (sSeq (sIfS (tOrM (tNotM (sTest (sIsi .tup (sVar 2)))) (tNotM (sTest (sB allB (vCons (sLc (mIt (sVar 2)) (gNm 4) (tYesM) (sCall m_is_row (aCons (sVar 4) (aCons (sB lenB (vCons (sVar 1) (vNil))) (aCons (sB lenB (vCons (sVar 2) (vNil))) (aNil))))) [4]) (vNil)))))) (sNo) (sNop)) (sSeq (sIfS (tOrM (sTest (s2 (eqD false) (sVar 2) (sTup (aNil)))) (sTest (s2 (eqD true) (s2 ixB (s2 ixB (sVar 2) (sC (.int 0))) (sC (.int 0))) (sTup (aNil))))) (sNo) (sNop)) (sSetF 0 "Machine" "m_value" (sTup (aCons (sVar 1) (aCons (sVar 2) (aNil))))))))
def m_Machined__initd_ : Fi := fiM (List.length N_Machined__initd_) "Machine" mb_Machined__initd_
abbrev N__law_bent : List PySem.Str := ["_law_draw", "_law_marks_here", "_law_at", "_law_way", "_law_mark", "_law_some"]
abbrev S__law_bent : Stmt := top 29
theorem sc__law_bent : FnScope N__law_bent ["_law_draw", "_law_marks_here"] (defScope S__law_bent) := ⟨rfl, rfl, rfl, by decide +kernel, rfl, by decide +kernel, by decide +kernel⟩
def y__law_bent : DefY := ⟨fun K => He.ga K "_law_bent", ⟨("_law_bent", none), "_law_bent", "_law_bent", defArgs S__law_bent, defBody S__law_bent, defScope S__law_bent, [], []⟩⟩
def mb__law_bent : MeS := sSeq (sPar [2, 3] (bCons (sFrz (sCall m__law_take (aCons (sVar 0) (aCons (s2 addA (sB lenB (vCons (sVar 1) (vNil))) (sC (.int 1))) (aNil))))) (bCons (sFrz (sCall m__law_take (aCons (sVar 0) (aCons (sC (.int 5)) (aNil))))) (bNil)))) (sSeq (sAsg 4 (sFrz (sCall m__law_pick (aCons (sVar 0) (aCons (sLst (aCons (sC (.int 0)) (aCons (sC (.int 1)) (aCons (sC .non) (aCons (sC (.str "a")) (aCons (sTup (aCons (sC (.int 1)) (aCons (sC (.str "b")) (aNil)))) (aCons (sTup (aNil)) (aCons (sC (.int 2)) (aNil))))))))) (aNil)))))) (sSeq (sAsg 5 (sFrz (sLst (aCons (sVar 1) (aCons (sVar 1) (aCons (s2 addA (s2 addA (sSl slA (sVar 1) (oNo) (oYes (sVar 2))) (sTup (aCons (sVar 4) (aNil)))) (sSl slA (sVar 1) (oYes (sVar 2)) (oNo))) (aCons (s2 addA (sSl slA (sVar 1) (oNo) (oYes (sVar 2))) (sSl slA (sVar 1) (oYes (s2 addA (sVar 2) (sC (.int 1)))) (oNo))) (aNil)))))))) (sRet (s2 ixB (s2 addA (sVar 5) (sLst (aCons (s2 addA (s2 addA (sSl slA (sVar 1) (oNo) (oYes (sVar 2))) (sTup (aCons (sVar 4) (aNil)))) (sSl slA (sVar 1) (oYes (s2 addA (sVar 2) (sC (.int 1)))) (oNo))) (aNil)))) (sVar 3)))))
def m__law_bent : Fn := fnM (List.length N__law_bent) mb__law_bent
abbrev N_Machined__getitemd_ : List PySem.Str := ["self", "index"]
abbrev S_Machined__getitemd_ : Stmt := inClass (top 18) 3
theorem sc_Machined__getitemd_ : FnScope N_Machined__getitemd_ ["self", "index"] (defScope S_Machined__getitemd_) := ⟨rfl, rfl, rfl, by decide +kernel, rfl, by decide +kernel, by decide +kernel⟩
def y_Machined__getitemd_ : DefY := ⟨fun K => He.ma K (He.ga K "Machine") "__getitem__", ⟨("__getitem__", none), "__getitem__", "Machine.__getitem__", defArgs S_Machined__getitemd_, defBody S_Machined__getitemd_, defScope S_Machined__getitemd_, [], []⟩⟩
def mb_Machined__getitemd_ : MeS := sSeq (sIfS (tNotM (sTest (sCall m_is_between (aCons (sVar 1) (aCons (sC (.int 0)) (aCons (s2 subI (sB lenB (vCons (s2 ixB (s1 (fldB "Machine" "m_value") (sVar 0)) (sC (.int 1))) (vNil))) (sC (.int 1))) (aNil))))))) (sNo) (sNop)) (sRet (s2 ixB (s2 ixB (s1 (fldB "Machine" "m_value") (sVar 0)) (sC (.int 1))) (sVar 1)))
def m_Machined__getitemd_ : Fn := fnM (List.length N_Machined__getitemd_) mb_Machined__getitemd_
abbrev N_Machine_step : List PySem.Str := ["self", "i", "letter", "row"]
abbrev S_Machine_step : Stmt := inClass (top 18) 7
theorem sc_Machine_step : FnScope N_Machine_step ["self", "i", "letter"] (defScope S_Machine_step) := ⟨rfl, rfl, rfl, by decide +kernel, rfl, by decide +kernel, by decide +kernel⟩
def y_Machine_step : DefY := ⟨fun K => He.ma K (He.ga K "Machine") "step", ⟨("step", none), "step", "Machine.step", defArgs S_Machine_step, defBody S_Machine_step, defScope S_Machine_step, [], []⟩⟩
def mb_Machine_step : MeS := sSeq (sAsg 3 (sFrz (sOix "Machine" m_Machined__getitemd_ (sVar 0) (sVar 1)))) (sSeq (sIfS (tOrM (tNotM (sTest (sCall m_is_letter (aCons (sVar 2) (aNil))))) (sTest (s2 (inA true) (sVar 2) (s2 ixB (s1 (fldB "Machine" "m_value") (sVar 0)) (sC (.int 0)))))) (sNo) (sNop)) (sRet (s2 ixB (s2 ixB (sVar 3) (sC (.int 1))) (sIdx (s2 ixB (s1 (fldB "Machine" "m_value") (sVar 0)) (sC (.int 0))) (sVar 2)))))
def m_Machine_step : Fn := fnM (List.length N_Machine_step) mb_Machine_step
abbrev N_Machine_play : List PySem.Str := ["self", "text", "index", "letter", "found", "at", "symbols"]
abbrev S_Machine_play : Stmt := inClass (top 18) 8
theorem sc_Machine_play : FnScope N_Machine_play ["self", "text"] (defScope S_Machine_play) := ⟨rfl, rfl, rfl, by decide +kernel, rfl, by decide +kernel, by decide +kernel⟩
def y_Machine_play : DefY := ⟨fun K => He.ma K (He.ga K "Machine") "play", ⟨("play", none), "play", "Machine.play", defArgs S_Machine_play, defBody S_Machine_play, defScope S_Machine_play, [], []⟩⟩
def mb_Machine_play : MeS := sSeq (sIfS (tNotM (sTest (sIsi .str (sVar 1)))) (sNo) (sNop)) (sSeq (sFor (mEnum (sVar 1)) (gTp (gCn (gNm 2) (gCn (gNm 3) (gNl)))) (sIfS (sTest (s2 (inA true) (sVar 3) (s2 ixB (s1 (fldB "Machine" "m_value") (sVar 0)) (sC (.int 0))))) (sNo) (sNop))) (sSeq (sPar [4, 5] (bCons (sTup (aNil)) (bCons (sC (.int 0)) (bNil)))) (sSeq (sFor (mIt (sVar 1)) (gNm 3) (sSeq (sAsgT (gTp (gCn (gNm 6) (gCn (gNm 5) (gNl)))) (sMth "Machine" "step" m_Machine_step (sVar 0) (aCons (sVar 5) (aCons (sVar 3) (aNil))))) (sAsg 4 (sFrz (s2 addA (sVar 4) (sVar 6)))))) (sRet (s2 addA (sVar 4) (s2 ixB (s2 ixB (s2 ixB (s1 (fldB "Machine" "m_value") (sVar 0)) (sC (.int 1))) (sVar 5)) (sC (.int 0))))))))
def m_Machine_play : Fn := fnM (List.length N_Machine_play) mb_Machine_play
abbrev N__law_least : List PySem.Str := ["_law_signs_here", "_law_lists_here", "_law_marks_here", "_law_known", "_law_left", "_law_at", "_law_many", "_law_word", "_law_k", "_law_sign", "_law_given", "_law_to"]
abbrev S__law_least : Stmt := top 28
theorem sc__law_least : FnScope N__law_least ["_law_signs_here", "_law_lists_here", "_law_marks_here"] (defScope S__law_least) := ⟨rfl, rfl, rfl, by decide +kernel, rfl, by decide +kernel, by decide +kernel⟩
def y__law_least : DefY := ⟨fun K => He.ga K "_law_least", ⟨("_law_least", none), "_law_least", "_law_least", defArgs S__law_least, defBody S__law_least, defScope S__law_least, [], []⟩⟩
noncomputable def mb__law_least : MeS := sSeq (sPar [3, 4] (bCons (sLst (aNil)) (bCons (sLst (aCons (sTup (aCons (sC (.int 0)) (aCons (sC (.int 0)) (aCons (sC (.str "")) (aNil))))) (aNil))) (bNil)))) (sSeq (sWh (sTest (s2 (eqD true) (sVar 4) (sLst (aNil)))) (sSeq (sPop0 4 (gTp (gCn (gNm 5) (gCn (gNm 6) (gCn (gNm 7) (gNl)))))) (sSeq (sIfS (sTest (s2 (eqD false) (s2 ixB (s2 ixB (sVar 1) (sVar 5)) (sC (.int 0))) (sSl slA (sVar 2) (oYes (sVar 6)) (oNo)))) (sRet (sVar 7)) (sNop)) (sFor (mEnum (sVar 0)) (gTp (gCn (gNm 8) (gCn (gNm 9) (gNl)))) (sSeq (sAsgT (gTp (gCn (gNm 10) (gCn (gNm 11) (gNl)))) (s2 ixB (s2 ixB (s2 ixB (sVar 1) (sVar 5)) (sC (.int 1))) (sVar 8))) (sIfS (tAndM (sTest (s2 (eqD false) (sSl slA (sVar 2) (oYes (sVar 6)) (oYes (s2 addA (sVar 6) (sB lenB (vCons (sVar 10) (vNil)))))) (sVar 10))) (sTest (s2 (inA true) (sTup (aCons (sVar 11) (aCons (s2 addA (sVar 6) (sB lenB (vCons (sVar 10) (vNil)))) (aNil)))) (sVar 3)))) (sSeq (sApp 3 (aCons (sTup (aCons (sVar 11) (aCons (s2 addA (sVar 6) (sB lenB (vCons (sVar 10) (vNil)))) (aNil)))) (aNil))) (sApp 4 (aCons (sTup (aCons (sVar 11) (aCons (s2 addA (sVar 6) (sB lenB (vCons (sVar 10) (vNil)))) (aCons (s2 addA (sVar 7) (sVar 9)) (aNil))))) (aNil)))) (sNop))))))) (sRet (sC .non)))
noncomputable def m__law_least : Fn := fnM (List.length N__law_least) mb__law_least
abbrev N_Machine_letters : List PySem.Str := ["self"]
abbrev S_Machine_letters : Stmt := inClass (top 18) 5
theorem sc_Machine_letters : FnScope N_Machine_letters ["self"] (defScope S_Machine_letters) := ⟨rfl, rfl, rfl, by decide +kernel, rfl, by decide +kernel, by decide +kernel⟩
def y_Machine_letters : DefY := ⟨pgA "Machine" "letters", ⟨("letters", none), "letters", "Machine.letters", defArgs S_Machine_letters, defBody S_Machine_letters, defScope S_Machine_letters, [], []⟩⟩
def mb_Machine_letters : MeS := sRet (s2 ixB (s1 (fldB "Machine" "m_value") (sVar 0)) (sC (.int 0)))
def m_Machine_letters : Fn := fnM (List.length N_Machine_letters) mb_Machine_letters
abbrev N_read : List PySem.Str := ["machine", "symbols", "known", "waiting", "at", "row", "many", "text", "letter", "given", "to", "state"]
abbrev S_read : Stmt := top 20
theorem sc_read : FnScope N_read ["machine", "symbols"] (defScope S_read) := ⟨rfl, rfl, rfl, by decide +kernel, rfl, by decide +kernel, by decide +kernel⟩
def y_read : DefY := ⟨fun K => He.ga K "read", ⟨("read", none), "read", "read", defArgs S_read, defBody S_read, defScope S_read, [], []⟩⟩
noncomputable def mb_read : MeS := sSeq (sIfS (tNotM (sTest (sCall m_are_symbols (aCons (sVar 1) (aNil))))) (sRet (sC .non)) (sNop)) (sSeq (sPar [2, 3, 4] (bCons (sDisp true [(sTup (aCons (sC (.int 0)) (aCons (sC (.int 0)) (aNil))), sC (.bl true))]) (bCons (sLst (aCons (sTup (aCons (sC (.int 0)) (aCons (sC (.int 0)) (aCons (sC (.str "")) (aNil))))) (aNil))) (bCons (sC (.int 0)) (bNil))))) (sSeq (sWh (sTest (s2 ltA (sVar 4) (sB lenB (vCons (sVar 3) (vNil))))) (sSeq (sAsgT (gTp (gCn (gNm 5) (gCn (gNm 6) (gCn (gNm 7) (gNl))))) (s2 ixB (sVar 3) (sVar 4))) (sSeq (sAug 4 (fun a b => a + b) (sC (.int 1))) (sSeq (sIfS (sTest (s2 (eqD false) (s2 ixB (sOix "Machine" m_Machined__getitemd_ (sVar 0) (sVar 5)) (sC (.int 0))) (sSl slA (sVar 1) (oYes (sVar 6)) (oNo)))) (sRet (sVar 7)) (sNop)) (sFor (mIt (sPrp "Machine" m_Machine_letters (sVar 0))) (gNm 8) (sSeq (sAsgT (gTp (gCn (gNm 9) (gCn (gNm 10) (gNl)))) (sMth "Machine" "step" m_Machine_step (sVar 0) (aCons (sVar 5) (aCons (sVar 8) (aNil))))) (sSeq (sAsg 11 (sTup (aCons (sVar 10) (aCons (s2 addA (sVar 6) (sB lenB (vCons (sVar 9) (vNil)))) (aNil))))) (sIfS (tAndM (sTest (s2 (eqD false) (sSl slA (sVar 1) (oYes (sVar 6)) (oYes (s2 addA (sVar 6) (sB lenB (vCons (sVar 9) (vNil)))))) (sVar 9))) (sTest (s2 (inA true) (sVar 11) (sVar 2)))) (sSeq (sSetD 2 (sVar 11) (sC (.bl true))) (sApp 3 (aCons (sTup (aStar (sVar 11) (aCons (s2 addA (sVar 7) (sVar 8)) (aNil)))) (aNil)))) (sNop))))))))) (sRet (sC .non))))
noncomputable def m_read : Fn := fnM (List.length N_read) mb_read
abbrev N_begin : List PySem.Str := ["_law_script", "_law_large", "_law_cell"]
abbrev S_begin : Stmt := top 22
theorem sc_begin : FnScope N_begin ["_law_script"] (defScope S_begin) := ⟨rfl, rfl, rfl, by decide +kernel, rfl, by decide +kernel, by decide +kernel⟩
def y_begin : DefY := ⟨fun K => He.ga K "_law_begin", ⟨("_law_begin", none), "_law_begin", "_law_begin", defArgs S_begin, defBody S_begin, defScope S_begin, [], []⟩⟩
abbrev N_law : List PySem.Str := ["_law_script", "_law_draw", "_law_turn", "_law_signs_here", "_law_lists_here", "_law_engine", "_law_again", "_law_word", "_law_k", "_law_marks_here", "_law_due", "_law_odd"]
abbrev S_law : Stmt := top 30
theorem sc_law : FnScope N_law ["_law_script"] (defScope S_law) := ⟨rfl, rfl, rfl, by decide +kernel, rfl, by decide +kernel, by decide +kernel⟩
def y_law : DefY := ⟨fun K => He.ga K "law", ⟨("law", none), "law", "law", defArgs S_law, defBody S_law, defScope S_law, [], []⟩⟩
noncomputable def mb_law : MeS := sSeq (sFor (mRng1 (aCons (s2 addA (sC (.int 3)) (sB min2B (vCons (sB lenB (vCons (sVar 0) (vNil))) (vCons (sC (.int 4)) (vNil))))) (aNil))) (gNm 2) (sSeq (sAsg 3 (sFrz (sCall m__law_signs (aCons (sVar 1) (aCons (sC (.int 3)) (aNil)))))) (sSeq (sAsg 4 (sFrz (sCall m__law_lists (aCons (sVar 1) (aCons (sB lenB (vCons (sVar 3) (vNil))) (aCons (s2 addA (sC (.int 1)) (sCall m__law_take (aCons (sVar 1) (aCons (sC (.int 6)) (aNil))))) (aNil))))))) (sSeq (sAsg 5 (sFrz (sMk "Machine" m_Machined__initd_ (aCons (sVar 3) (aCons (sVar 4) (aNil)))))) (sSeq (sFor (mRng1 (aCons (sC (.int 6)) (aNil))) (gNm 6) (sSeq (sAsg 7 (sFrz (sJoin (sC (.str "")) (sLc (mRng1 (aCons (sCall m__law_take (aCons (sVar 1) (aCons (sC (.int 8)) (aNil)))) (aNil))) (gNm 8) (tYesM) (sCall m__law_pick (aCons (sVar 1) (aCons (sVar 3) (aNil)))) [8])))) (sSeq (sAsg 9 (sFrz (sCall m__law_bent (aCons (sVar 1) (aCons (sMth "Machine" "play" m_Machine_play (sVar 5) (aCons (sVar 7) (aNil))) (aNil)))))) (sSeq (sAsg 10 (sFrz (sCall m__law_least (aCons (sVar 3) (aCons (sVar 4) (aCons (sVar 9) (aNil))))))) (sIfS (tOrM (sTest (s2 (eqD true) (sB reprB (vCons (sCall m_read (aCons (sVar 5) (aCons (sVar 9) (aNil)))) (vNil))) (sB reprB (vCons (sVar 10) (vNil))))) (sTest (s2 (eqD true) (sB reprB (vCons (sCallK [1, 0] m_read (aCons (sVar 9) (aCons (sVar 5) (aNil)))) (vNil))) (sB reprB (vCons (sVar 10) (vNil)))))) (sRet (sC (.bl false))) (sNop)))))) (sSeq (sAsg 11 (sFrz (sLst (aCons (sC .non) (aCons (sC (.int 5)) (aCons (sC (.str "a")) (aCons (sLst (aNil)) (aCons (sLst (aCons (sC (.int 0)) (aNil))) (aCons (sB lstB (vCons (sMth "Machine" "play" m_Machine_play (sVar 5) (aCons (sVar 3) (aNil))) (vNil))) (aCons (sDic0 false) (aCons (sTup (aCons (sC (.bl true)) (aNil))) (aCons (sTup (aCons (sC (.int 0)) (aCons (sC (.bl false)) (aNil)))) (aCons (sTup (aCons (sLst (aNil)) (aNil))) (aCons (sTup (aCons (sDic0 false) (aNil))) (aCons (sTup (aCons (sTup (aCons (sC (.bl true)) (aNil))) (aNil))) (aNil)))))))))))))))) (sIfS (tOrM (sTest (s1 (isNonB true) (sCall m_read (aCons (sVar 5) (aCons (sCall m__law_pick (aCons (sVar 1) (aCons (sVar 11) (aNil)))) (aNil)))))) (sTest (s2 (eqD true) (sCall m_read (aCons (sVar 5) (aCons (sTup (aNil)) (aNil)))) (sC (.str ""))))) (sRet (sC (.bl false))) (sNop)))))))) (sRet (sC (.bl true)))
end K56
namespace K56
open PySem PySem.Spec PyProof.Rows L2 Py
def fa : List He.Fa := [.free "len", .free "min", .free "range", .free "int", .free "divmod", .glo "_law_take", .glo "_law_pick", .free "sorted", .free "set", .glo "_law_signs", .free "tuple", .glo "_law_marks", .glo "_law_lists", .free "isinstance", .free "str", .int "MOST_LETTERS" 8, .str "ALPHABET" "abcdefghijklmnopqrstuvwxyz", .glo "is_letter", .free "all", .free "zip", .glo "is_ascending", .glo "is_tuple", .free "bool", .glo "is_symbol", .glo "are_symbols", .glo "is_between", .glo "is_step", .glo "is_row", .cls "Machine", .noat "Machine" "m_value", .mkr "Machine", .glo "Machine", .glo "_law_bent", .free "enumerate", .meth "Machine" "step", .meth "Machine" "play", .glo "_law_least", .glo "read", .free "repr", .free "list", .glo "law", .free "abs", .glo "_law_begin"]
def ck : List (Frag → Bool) := [giB "Machine", prB "Machine" "letters"]
def fn : List DefY := [y__law_take, y__law_pick, y__law_signs, y__law_marks, y__law_lists, y_is_letter, y_is_ascending, y_is_tuple, y_is_symbol, y_are_symbols, y_is_between, y_is_step, y_is_row, y_Machined__initd_, y__law_bent, y_Machined__getitemd_, y_Machine_step, y_Machine_play, y__law_least, y_Machine_letters, y_read, y_begin, y_law]
section
variable {P : Program} {w : World} {W : Wd} {K : Frag} {cls : PySem.Str → Option Addr} {mg : PySem.Str → Option Value} {base : Heap}
theorem ok__law_take (E : EnvY fa ck fn W.K W.cls mg) : Fk P w mg base W 1 "_law_take" 2 m__law_take := by
  obtain ⟨fd, F⟩ := E.fn_ 0
  refine fkOf F (fkFn F sc__law_take rfl fun cdv A outer s H EE C => ?_) (E.glo 5) (FunD.bindsN F fun _ _ _ _ _ _ us hl => match us, hl with | [_, _], _ => rfl)
  exact lkSeq (lkIfS (PW.pt (lkWAnd (lkTEq C (lkDrI C 0 .rest) (lkInt)) (lkWAnd1 (lkDrL C 0)))) (lkS1 (lkDrPop C 0)) (lkS1 (lkIfS (lkTEq C (lkDrI C 0 .rest) (lkInt)) (lkSeq (lkDrSet C 0 .turn (lkAdd C (lkDrI C 0 .turn) (lkInt))) (lkSeq (lkFor C (lkIt C (lkDrAll C 0 (lkCons (lkDrI C 0 .turn) (lkNil)))) (lkGNm C.nd rfl (by first | exact Or.inl rfl | exact Or.inr rfl)) (lkS1 (lkDrSet C 0 .mix (lkModI (lkInt1 (E.free 3) (lkVCons (lkAdd C (lkAdd C (lkMulI (lkDrI C 0 .mix) (lkInt)) (lkMulI (lkVar 2) (lkInt))) (lkInt)) (lkVNil))) (lkInt))))) (lkS1 (lkDrSet C 0 .rest (lkModI (lkInt1 (E.free 3) (lkVCons (lkPow (lkDrI C 0 .mix) (lkInt)) (lkVNil))) (lkInt)))))) (lkSNil)))) (lkSeq (lkDrPair C 0 3 (lkDivmod C (E.free 4) (lkVCons (lkDrI C 0 .rest) (lkVCons (lkVar 1) (lkVNil)))) rfl (by first | exact Or.inl rfl | exact Or.inr rfl) (by first | exact Or.inl rfl | exact Or.inr rfl)) (lkS1 (lkRet (lkVar 3))))
theorem ok__law_pick (E : EnvY fa ck fn W.K W.cls mg) : Fk P w mg base W 2 "_law_pick" 2 m__law_pick := by
  obtain ⟨fd, F⟩ := E.fn_ 1
  refine fkOf F (fkFn F sc__law_pick rfl fun cdv A outer s H EE C => ?_) (E.glo 6) (FunD.bindsN F fun _ _ _ _ _ _ us hl => match us, hl with | [_, _], _ => rfl)
  exact lkS1 (lkRet (lkIxB C (lkVar 1) (lkCall C (ok__law_take E) (lkCons (lkVar 0) (lkCons (lkLen C (E.free 0) (lkVCons (lkVar 1) (lkVNil))) (lkNil))) (aCons_len (aCons_len (aNil_len))) (by decide))))
theorem ok__law_signs (E : EnvY fa ck fn W.K W.cls mg) : Fk P w mg base W 3 "_law_signs" 2 m__law_signs := by
  obtain ⟨fd, F⟩ := E.fn_ 2
  refine fkOf F (fkFn F sc__law_signs rfl fun cdv A outer s H EE C => ?_) (E.glo 9) (FunD.bindsN F fun _ _ _ _ _ _ us hl => match us, hl with | [_, _], _ => rfl)
  exact lkS1 (lkRet (lkJoin C (lkStr) (lkSortSet C (E.free 7) (E.free 8) (lkLc (ow := [("_law_k", 2)]) C (lkRng1 (lkCons (lkAdd C (lkInt) (lkCall C (ok__law_take E) (lkCons (lkVar 0) (lkCons (lkVar 1) (lkNil))) (aCons_len (aCons_len (aNil_len))) (by decide))) (lkNil)) (E.free 2)) (by show blkC N__law_signs (defScope S__law_signs) _ _ = true; decide +kernel) (fun _ _ _ _ _ C => lkGNm C.nd rfl (by first | exact Or.inl rfl | exact Or.inr rfl)) (fun _ _ _ _ _ C => lkIfs0) (fun _ _ _ _ _ C => lkCall C (ok__law_pick E) (lkCons (lkVar 0) (lkCons (lkStr) (lkNil))) (aCons_len (aCons_len (aNil_len))) (by decide)) (by decide)))))
theorem ok__law_marks (E : EnvY fa ck fn W.K W.cls mg) : Fk P w mg base W 3 "_law_marks" 2 m__law_marks := by
  obtain ⟨fd, F⟩ := E.fn_ 3
  refine fkOf F (fkFn F sc__law_marks rfl fun cdv A outer s H EE C => ?_) (E.glo 11) (FunD.bindsN F fun _ _ _ _ _ _ us hl => match us, hl with | [_, _], _ => rfl)
  exact lkSeq (lkAsg C rfl (by first | exact Or.inl rfl | exact Or.inr rfl) (lkFrz (lkCall C (ok__law_pick E) (lkCons (lkVar 0) (lkCons (lkLst (lkCons (lkLst (lkCons (lkInt) (lkNil))) (lkCons (lkLst (lkCons (lkInt) (lkCons (lkInt) (lkNil)))) (lkCons (lkLst (lkCons (lkInt) (lkCons (lkInt) (lkCons (lkStr) (lkNil))))) (lkCons (lkLst (lkCons (lkInt) (lkCons (lkNon) (lkCons (lkStr) (lkCons (lkTup (lkCons (lkInt) (lkCons (lkStr) (lkNil)))) (lkCons (lkTup (lkNil)) (lkNil))))))) (lkNil)))))) (lkNil))) (aCons_len (aCons_len (aNil_len))) (by decide)))) (lkS1 (lkRet (lkTuple C (E.free 10) (lkVCons (lkLc (ow := [("_law_k", 3)]) C (lkRng1 (lkCons (lkCall C (ok__law_take E) (lkCons (lkVar 0) (lkCons (lkAdd C (lkVar 1) (lkInt)) (lkNil))) (aCons_len (aCons_len (aNil_len))) (by decide)) (lkNil)) (E.free 2)) (by show blkC N__law_marks (defScope S__law_marks) _ _ = true; decide +kernel) (fun _ _ _ _ _ C => lkGNm C.nd rfl (by first | exact Or.inl rfl | exact Or.inr rfl)) (fun _ _ _ _ _ C => lkIfs0) (fun _ _ _ _ _ C => lkCall C (ok__law_pick E) (lkCons (lkVar 0) (lkCons (lkVar 2) (lkNil))) (aCons_len (aCons_len (aNil_len))) (by decide)) (by decide)) (lkVNil)))))
theorem ok__law_lists (E : EnvY fa ck fn W.K W.cls mg) : Fk P w mg base W 4 "_law_lists" 3 m__law_lists := by
  obtain ⟨fd, F⟩ := E.fn_ 4
  refine fkOf F (fkFn F sc__law_lists rfl fun cdv A outer s H EE C => ?_) (E.glo 12) (FunD.bindsN F fun _ _ _ _ _ _ us hl => match us, hl with | [_, _, _], _ => rfl)
  exact lkSeq (lkAsg C rfl (by first | exact Or.inl rfl | exact Or.inr rfl) (lkLst (lkNil))) (lkSeq (lkFor C (lkRng1 (lkCons (lkVar 2) (lkNil)) (E.free 2)) (lkGNm C.nd rfl (by first | exact Or.inl rfl | exact Or.inr rfl)) (lkSeq (lkAsg C rfl (by first | exact Or.inl rfl | exact Or.inr rfl) (lkFrz (lkIf (PW.pt (lkWAnd (lkTGt (lkVar 4) (lkInt)) (lkWAnd1 (lkTEq C (lkCall C (ok__law_take E) (lkCons (lkVar 0) (lkCons (lkInt) (lkNil))) (aCons_len (aCons_len (aNil_len))) (by decide)) (lkInt))))) (lkCall C (ok__law_marks E) (lkCons (lkVar 0) (lkCons (lkInt) (lkNil))) (aCons_len (aCons_len (aNil_len))) (by decide)) (lkTup (lkNil))))) (lkSeq (lkAsg C rfl (by first | exact Or.inl rfl | exact Or.inr rfl) (lkFrz (lkTuple C (E.free 10) (lkVCons (lkLc (ow := [("_law_k", 7)]) C (lkRng1 (lkCons (lkVar 1) (lkNil)) (E.free 2)) (by show blkC N__law_lists (defScope S__law_lists) _ _ = true; decide +kernel) (fun _ _ _ _ _ C => lkGNm C.nd rfl (by first | exact Or.inl rfl | exact Or.inr rfl)) (fun _ _ _ _ _ C => lkIfs0) (fun _ _ _ _ _ C => lkTup (lkCons (lkAdd C (lkVar 5) (lkCall C (ok__law_marks E) (lkCons (lkVar 0) (lkCons (lkInt) (lkNil))) (aCons_len (aCons_len (aNil_len))) (by decide))) (lkCons (lkCall C (ok__law_take E) (lkCons (lkVar 0) (lkCons (lkVar 2) (lkNil))) (aCons_len (aCons_len (aNil_len))) (by decide)) (lkNil)))) (by decide)) (lkVNil))))) (lkS1 (lkAppend C 3 (lkCons (lkTup (lkCons (lkIf (lkTGt (lkVar 4) (lkInt)) (lkAdd C (lkVar 5) (lkCall C (ok__law_marks E) (lkCons (lkVar 0) (lkCons (lkInt) (lkNil))) (aCons_len (aCons_len (aNil_len))) (by decide))) (lkTup (lkNil))) (lkCons (lkVar 6) (lkNil)))) (lkNil))))))) (lkS1 (lkRet (lkTuple C (E.free 10) (lkVCons (lkVar 3) (lkVNil))))))
theorem ok_is_letter (E : EnvY fa ck fn W.K W.cls mg) : Fk P w mg base W 1 "is_letter" 1 m_is_letter := by
  obtain ⟨fd, F⟩ := E.fn_ 5
  refine fkOf F (fkFn F sc_is_letter rfl fun cdv A outer s H EE C => ?_) (E.glo 17) (FunD.bindsN F fun _ _ _ _ _ _ us hl => match us, hl with | [_], _ => rfl)
  exact lkS1 (lkRet (lkAnd (lkIsi (T := .str) C (E.free 13) (E.free 14) (lkVar 0)) (lkAnd (lkEq C (lkLen C (E.free 0) (lkVCons (lkVar 0) (lkVNil))) (lkInt)) (lkBool1 (lkIn C (lkVar 0) (lkGStr (E.str 16)))))))
theorem ok_is_ascending (E : EnvY fa ck fn W.K W.cls mg) : Fk P w mg base W 1 "is_ascending" 1 m_is_ascending := by
  obtain ⟨fd, F⟩ := E.fn_ 6
  refine fkOf F (fkFn F sc_is_ascending rfl fun cdv A outer s H EE C => ?_) (E.glo 20) (FunD.bindsN F fun _ _ _ _ _ _ us hl => match us, hl with | [_], _ => rfl)
  exact lkS1 (lkRet (lkAll C (E.free 18) (lkVCons (lkLc (ow := [("one", 1), ("other", 2)]) C (lkZip C (E.free 19) (lkVar 0) (lkSlA C (lkVar 0) (lkOYes (lkInt)) (lkONo))) (by show blkC N_is_ascending (defScope S_is_ascending) _ _ = true; decide +kernel) (fun _ _ _ _ _ C => lkGTup C.calm (lkGCons (lkGNm C.nd rfl (by first | exact Or.inl rfl | exact Or.inr rfl)) (lkGCons (lkGNm C.nd rfl (by first | exact Or.inl rfl | exact Or.inr rfl)) (lkGNil))) (gLen_cons (gLen_cons (gLen_nil))) (hK := C.k)) (fun _ _ _ _ _ C => lkIfs0) (fun _ _ _ _ _ C => lkLt (lkVar 1) (lkVar 2)) (by decide)) (lkVNil))))
theorem ok_is_tuple (E : EnvY fa ck fn W.K W.cls mg) : Fk P w mg base W 1 "is_tuple" 3 m_is_tuple := by
  obtain ⟨fd, F⟩ := E.fn_ 7
  refine fkOf F (fkFn F sc_is_tuple rfl fun cdv A outer s H EE C => ?_) (E.glo 21) (FunD.bindsN F fun _ _ _ _ _ _ us hl => match us, hl with | [_, _, _], _ => rfl)
  exact lkS1 (lkRet (lkAnd (lkIsi (T := .tup) C (E.free 13) (E.free 10) (lkVar 0)) (lkBool1 (lkChainLe (lkVar 1) (lkLen C (E.free 0) (lkVCons (lkVar 0) (lkVNil))) (lkVar 2)))))
theorem ok_is_symbol (E : EnvY fa ck fn W.K W.cls mg) : ∀ j : Nat, Fk P w mg base W j "is_symbol" 1 (m_is_symbol j)
  | 0 => by
    obtain ⟨fd, F⟩ := E.fn_ 8
    exact fkOf F (fk0 (ps := ["value"]) rfl) (E.glo 23) (FunD.bindsN F fun _ _ _ _ _ _ us hl => match us, hl with | [_], _ => rfl)
  | j + 1 => by
    have ih := ok_is_symbol E j
    obtain ⟨fd, F⟩ := E.fn_ 8
    refine fkOf F (fkFn F sc_is_symbol rfl fun cdv A outer s H EE C => ?_) (E.glo 23) (FunD.bindsN F fun _ _ _ _ _ _ us hl => match us, hl with | [_], _ => rfl)
    exact lkSeq (lkIfS (lkTVal (lkIsi (T := .tup) C (E.free 13) (E.free 10) (lkVar 0))) (lkS1 (lkRet (lkAll C (E.free 18) (lkVCons (lkLc (ow := [("one", 1)]) C (lkIt C (lkVar 0)) (by show blkC N_is_symbol (defScope S_is_symbol) _ _ = true; decide +kernel) (fun _ _ _ _ _ C => lkGNm C.nd rfl (by first | exact Or.inl rfl | exact Or.inr rfl)) (fun _ _ _ _ _ C => lkIfs0) (fun _ _ _ _ _ C => lkCall C (ih) (lkCons (lkVar 1) (lkNil)) (aCons_len (aNil_len)) (by omega)) (by decide)) (lkVNil))))) (lkSNil)) (lkS1 (lkRet (lkOr (lkIsN (lkVar 0)) (lkBool1 (lkAnd (lkIsiT C (E.free 13) (lkVar 0) (.cons (T := .str) (E.free 14) (.cons (T := .int) (E.free 3) (.nil)))) (lkBool1 (lkNot (lkIsi (T := .bl) C (E.free 13) (E.free 22) (lkVar 0)))))))))
theorem ok_are_symbols (E : EnvY fa ck fn W.K W.cls mg) : Fk P w mg base W 9 "are_symbols" 1 m_are_symbols := by
  obtain ⟨fd, F⟩ := E.fn_ 9
  refine fkOf F (fkFn F sc_are_symbols rfl fun cdv A outer s H EE C => ?_) (E.glo 24) (FunD.bindsN F fun _ _ _ _ _ _ us hl => match us, hl with | [_], _ => rfl)
  exact lkS1 (lkRet (lkAnd (lkIsi (T := .tup) C (E.free 13) (E.free 10) (lkVar 0)) (lkBool1 (lkCall C (ok_is_symbol E 8) (lkCons (lkVar 0) (lkNil)) (aCons_len (aNil_len)) (by decide)))))
theorem ok_is_between (E : EnvY fa ck fn W.K W.cls mg) : Fk P w mg base W 1 "is_between" 3 m_is_between := by
  obtain ⟨fd, F⟩ := E.fn_ 10
  refine fkOf F (fkFn F sc_is_between rfl fun cdv A outer s H EE C => ?_) (E.glo 25) (FunD.bindsN F fun _ _ _ _ _ _ us hl => match us, hl with | [_, _, _], _ => rfl)
  exact lkS1 (lkRet (lkAnd (lkIsi (T := .int) C (E.free 13) (E.free 3) (lkVar 0)) (lkAnd (lkNot (lkIsi (T := .bl) C (E.free 13) (E.free 22) (lkVar 0))) (lkBool1 (lkChainLe (lkVar 1) (lkVar 0) (lkVar 2))))))
theorem ok_is_step (E : EnvY fa ck fn W.K W.cls mg) : Fk P w mg base W 10 "is_step" 2 m_is_step := by
  obtain ⟨fd, F⟩ := E.fn_ 11
  refine fkOf F (fkFn F sc_is_step rfl fun cdv A outer s H EE C => ?_) (E.glo 26) (FunD.bindsN F fun _ _ _ _ _ _ us hl => match us, hl with | [_, _], _ => rfl)
  exact lkS1 (lkRet (lkAnd (lkCall C (ok_is_tuple E) (lkCons (lkVar 0) (lkCons (lkInt) (lkCons (lkInt) (lkNil)))) (aCons_len (aCons_len (aCons_len (aNil_len)))) (by decide)) (lkAnd (lkCall C (ok_are_symbols E) (lkCons (lkIxB C (lkVar 0) (lkInt)) (lkNil)) (aCons_len (aNil_len)) (by decide)) (lkBool1 (lkCall C (ok_is_between E) (lkCons (lkIxB C (lkVar 0) (lkInt)) (lkCons (lkInt) (lkCons (lkSubI (lkVar 1) (lkInt)) (lkNil)))) (aCons_len (aCons_len (aCons_len (aNil_len)))) (by decide))))))
theorem ok_is_row (E : EnvY fa ck fn W.K W.cls mg) : Fk P w mg base W 11 "is_row" 3 m_is_row := by
  obtain ⟨fd, F⟩ := E.fn_ 12
  refine fkOf F (fkFn F sc_is_row rfl fun cdv A outer s H EE C => ?_) (E.glo 27) (FunD.bindsN F fun _ _ _ _ _ _ us hl => match us, hl with | [_, _, _], _ => rfl)
  exact lkSeq (lkIfS (PW.pt (lkWOr (lkTNot (lkTVal (lkCall C (ok_is_tuple E) (lkCons (lkVar 0) (lkCons (lkInt) (lkCons (lkInt) (lkNil)))) (aCons_len (aCons_len (aCons_len (aNil_len)))) (by decide)))) (lkWOr (lkTNot (lkTVal (lkCall C (ok_are_symbols E) (lkCons (lkIxB C (lkVar 0) (lkInt)) (lkNil)) (aCons_len (aNil_len)) (by decide)))) (lkWOr1 (lkTNot (lkTVal (lkCall C (ok_is_tuple E) (lkCons (lkIxB C (lkVar 0) (lkInt)) (lkCons (lkVar 1) (lkCons (lkVar 1) (lkNil)))) (aCons_len (aCons_len (aCons_len (aNil_len)))) (by decide)))))))) (lkS1 (lkRet (lkBl))) (lkSNil)) (lkS1 (lkRet (lkAll C (E.free 18) (lkVCons (lkLc (ow := [("step", 3)]) C (lkIt C (lkIxB C (lkVar 0) (lkInt))) (by show blkC N_is_row (defScope S_is_row) _ _ = true; decide +kernel) (fun _ _ _ _ _ C => lkGNm C.nd rfl (by first | exact Or.inl rfl | exact Or.inr rfl)) (fun _ _ _ _ _ C => lkIfs0) (fun _ _ _ _ _ C => lkCall C (ok_is_step E) (lkCons (lkVar 3) (lkCons (lkVar 2) (lkNil))) (aCons_len (aCons_len (aNil_len))) (by decide)) (by decide)) (lkVNil)))))
theorem ok_Machined__initd_ (E : EnvY fa ck fn W.K W.cls mg) : Mk1 P w mg base W 12 "Machine" (He.ga W.K "Machine") 2 m_Machined__initd_ := by
  obtain ⟨fd, F⟩ := E.fn_ 13
  refine ⟨⟨_, fd, _, E.mkr 30, fkIn F sc_Machined__initd_ rfl (by decide) fun cdv A outer s H EE C => ?_, FunD.bindsN F fun _ _ _ _ _ _ us hl => match us, hl with | [_, _, _], _ => rfl⟩, (E.glo 31)⟩
  exact lkSeq (lkIfS (PW.pt (lkWOr (lkTNot (lkTVal (lkIsi (T := .str) C (E.free 13) (E.free 14) (lkVar 1)))) (lkWOr1 (lkTNot (lkTChainLe (lkInt) (lkLen C (E.free 0) (lkVCons (lkVar 1) (lkVNil))) (lkGInt (E.int 15))))))) (lkS1 (lkNo)) (lkSNil)) (lkSeq (lkIfS (PW.pt (lkWOr (lkTNot (lkTVal (lkAll C (E.free 18) (lkVCons (lkLc (ow := [("letter", 3)]) C (lkIt C (lkVar 1)) (by show blkC N_Machined__initd_ (defScope S_Machined__initd_) _ _ = true; decide +kernel) (fun _ _ _ _ _ C => lkGNm C.nd rfl (by first | exact Or.inl rfl | exact Or.inr rfl)) (fun _ _ _ _ _ C => lkIfs0) (fun _ _ _ _ _ C => lkCall C (ok_is_letter E) (lkCons (lkVar 3) (lkNil)) (aCons_len (aNil_len)) (by decide)) (by decide)) (lkVNil))))) (lkWOr1 (lkTNot (lkTVal (lkCall C (ok_is_ascending E) (lkCons (lkVar 1) (lkNil)) (aCons_len (aNil_len)) (by decide))))))) (lkS1 (lkNo)) (lkSNil)) (lkSeq (lkIfS (PW.pt (lkWOr (lkTNot (lkTVal (lkIsi (T := .tup) C (E.free 13) (E.free 10) (lkVar 2)))) (lkWOr1 (lkTNot (lkTVal (lkAll C (E.free 18) (lkVCons (lkLc (ow := [("row", 4)]) C (lkIt C (lkVar 2)) (by show blkC N_Machined__initd_ (defScope S_Machined__initd_) _ _ = true; decide +kernel) (fun _ _ _ _ _ C => lkGNm C.nd rfl (by first | exact Or.inl rfl | exact Or.inr rfl)) (fun _ _ _ _ _ C => lkIfs0) (fun _ _ _ _ _ C => lkCall C (ok_is_row E) (lkCons (lkVar 4) (lkCons (lkLen C (E.free 0) (lkVCons (lkVar 1) (lkVNil))) (lkCons (lkLen C (E.free 0) (lkVCons (lkVar 2) (lkVNil))) (lkNil)))) (aCons_len (aCons_len (aCons_len (aNil_len)))) (by decide)) (by decide)) (lkVNil)))))))) (lkS1 (lkNo)) (lkSNil)) (lkSeq (lkIfS (PW.pt (lkWOr (lkTEq C (lkVar 2) (lkTup (lkNil))) (lkWOr1 (lkTNe C (lkIxB C (lkIxB C (lkVar 2) (lkInt)) (lkInt)) (lkTup (lkNil)))))) (lkS1 (lkNo)) (lkSNil)) (lkS1 (lkSetF C (E.kl 28) (E.noat 29) 0 (lkTup (lkCons (lkVar 1) (lkCons (lkVar 2) (lkNil)))))))))
theorem ok__law_bent (E : EnvY fa ck fn W.K W.cls mg) : Fk P w mg base W 3 "_law_bent" 2 m__law_bent := by
  obtain ⟨fd, F⟩ := E.fn_ 14
  refine fkOf F (fkFn F sc__law_bent rfl fun cdv A outer s H EE C => ?_) (E.glo 32) (FunD.bindsN F fun _ _ _ _ _ _ us hl => match us, hl with | [_, _], _ => rfl)
  exact lkSeq ((by first | exact lkPar2 C rfl rfl (by decide) rfl rfl (lkBCons (lkFrz (lkCall C (ok__law_take E) (lkCons (lkVar 0) (lkCons (lkAdd C (lkLen C (E.free 0) (lkVCons (lkVar 1) (lkVNil))) (lkInt)) (lkNil))) (aCons_len (aCons_len (aNil_len))) (by decide))) (lkBCons (lkFrz (lkCall C (ok__law_take E) (lkCons (lkVar 0) (lkCons (lkInt) (lkNil))) (aCons_len (aCons_len (aNil_len))) (by decide))) (lkBNil))) (bCons_len (bCons_len (bNil_len))) rfl | exact lkParT C (.cons rfl (by first | exact Or.inl rfl | exact Or.inr rfl) (by first | exact Or.inl rfl | exact Or.inr rfl) (.cons rfl (by first | exact Or.inl rfl | exact Or.inr rfl) (by first | exact Or.inl rfl | exact Or.inr rfl) (.nil))) (lkBCons (lkFrz (lkCall C (ok__law_take E) (lkCons (lkVar 0) (lkCons (lkAdd C (lkLen C (E.free 0) (lkVCons (lkVar 1) (lkVNil))) (lkInt)) (lkNil))) (aCons_len (aCons_len (aNil_len))) (by decide))) (lkBCons (lkFrz (lkCall C (ok__law_take E) (lkCons (lkVar 0) (lkCons (lkInt) (lkNil))) (aCons_len (aCons_len (aNil_len))) (by decide))) (lkBNil))) (bCons_len (bCons_len (bNil_len))) (by decide))) (lkSeq (lkAsg C rfl (by first | exact Or.inl rfl | exact Or.inr rfl) (lkFrz (lkCall C (ok__law_pick E) (lkCons (lkVar 0) (lkCons (lkLst (lkCons (lkInt) (lkCons (lkInt) (lkCons (lkNon) (lkCons (lkStr) (lkCons (lkTup (lkCons (lkInt) (lkCons (lkStr) (lkNil)))) (lkCons (lkTup (lkNil)) (lkCons (lkInt) (lkNil))))))))) (lkNil))) (aCons_len (aCons_len (aNil_len))) (by decide)))) (lkSeq (lkAsg C rfl (by first | exact Or.inl rfl | exact Or.inr rfl) (lkFrz (lkLst (lkCons (lkVar 1) (lkCons (lkVar 1) (lkCons (lkAdd C (lkAdd C (lkSlA C (lkVar 1) (lkONo) (lkOYes (lkVar 2))) (lkTup (lkCons (lkVar 4) (lkNil)))) (lkSlA C (lkVar 1) (lkOYes (lkVar 2)) (lkONo))) (lkCons (lkAdd C (lkSlA C (lkVar 1) (lkONo) (lkOYes (lkVar 2))) (lkSlA C (lkVar 1) (lkOYes (lkAdd C (lkVar 2) (lkInt))) (lkONo))) (lkNil)))))))) (lkS1 (lkRet (lkIxB C (lkAdd C (lkVar 5) (lkLst (lkCons (lkAdd C (lkAdd C (lkSlA C (lkVar 1) (lkONo) (lkOYes (lkVar 2))) (lkTup (lkCons (lkVar 4) (lkNil)))) (lkSlA C (lkVar 1) (lkOYes (lkAdd C (lkVar 2) (lkInt))) (lkONo))) (lkNil)))) (lkVar 3))))))
theorem ok_Machined__getitemd_ (E : EnvY fa ck fn W.K W.cls mg) : Gi P w mg base W 2 (He.ga W.K "Machine") m_Machined__getitemd_ := by
  obtain ⟨fd, F⟩ := E.fn_ 15
  obtain ⟨g1, g2, g3⟩ := E.gi 0 (x := "Machine")
  refine ⟨⟨_, fd, _, g1, g2, g3, fkFn F sc_Machined__getitemd_ rfl fun cdv A outer s H EE C => ?_, FunD.bindsN F fun _ _ _ _ _ _ us hl => match us, hl with | [_, _], _ => rfl⟩⟩
  exact lkSeq (lkIfS (lkTNot (lkTVal (lkCall C (ok_is_between E) (lkCons (lkVar 1) (lkCons (lkInt) (lkCons (lkSubI (lkLen C (E.free 0) (lkVCons (lkIxB C (lkFld C (E.kl 28) (E.noat 29) (lkVar 0)) (lkInt)) (lkVNil))) (lkInt)) (lkNil)))) (aCons_len (aCons_len (aCons_len (aNil_len)))) (by decide)))) (lkS1 (lkNo)) (lkSNil)) (lkS1 (lkRet (lkIxB C (lkIxB C (lkFld C (E.kl 28) (E.noat 29) (lkVar 0)) (lkInt)) (lkVar 1))))
theorem ok_Machine_step (E : EnvY fa ck fn W.K W.cls mg) : Mt P w mg base W 4 (He.ga W.K "Machine") "step" 3 m_Machine_step := by
  obtain ⟨fd, F⟩ := E.fn_ 16
  refine ⟨⟨_, fd, _, E.meth 34, fkFn F sc_Machine_step rfl fun cdv A outer s H EE C => ?_, FunD.bindsN F fun _ _ _ _ _ _ us hl => match us, hl with | [_, _, _], _ => rfl⟩⟩
  exact lkSeq (lkAsg C rfl (by first | exact Or.inl rfl | exact Or.inr rfl) (lkFrz (lkOix C (E.kl 28) (ok_Machined__getitemd_ E) (lkVar 0) (lkVar 1) (by decide)))) (lkSeq (lkIfS (PW.pt (lkWOr (lkTNot (lkTVal (lkCall C (ok_is_letter E) (lkCons (lkVar 2) (lkNil)) (aCons_len (aNil_len)) (by decide)))) (lkWOr1 (lkTNin C (lkVar 2) (lkIxB C (lkFld C (E.kl 28) (E.noat 29) (lkVar 0)) (lkInt)))))) (lkS1 (lkNo)) (lkSNil)) (lkS1 (lkRet (lkIxB C (lkIxB C (lkVar 3) (lkInt)) (lkIdx (lkIxB C (lkFld C (E.kl 28) (E.noat 29) (lkVar 0)) (lkInt)) (lkVar 2))))))
theorem ok_Machine_play (E : EnvY fa ck fn W.K W.cls mg) : Mt P w mg base W 5 (He.ga W.K "Machine") "play" 2 m_Machine_play := by
  obtain ⟨fd, F⟩ := E.fn_ 17
  refine ⟨⟨_, fd, _, E.meth 35, fkFn F sc_Machine_play rfl fun cdv A outer s H EE C => ?_, FunD.bindsN F fun _ _ _ _ _ _ us hl => match us, hl with | [_, _], _ => rfl⟩⟩
  exact lkSeq (lkIfS (lkTNot (lkTVal (lkIsi (T := .str) C (E.free 13) (E.free 14) (lkVar 1)))) (lkS1 (lkNo)) (lkSNil)) (lkSeq (lkFor C (lkEnum C (E.free 33) (lkVar 1)) (lkGTup C.calm (lkGCons (lkGNm C.nd rfl (by first | exact Or.inl rfl | exact Or.inr rfl)) (lkGCons (lkGNm C.nd rfl (by first | exact Or.inl rfl | exact Or.inr rfl)) (lkGNil))) (gLen_cons (gLen_cons (gLen_nil))) (hK := C.k)) (lkS1 (lkIfS (lkTNin C (lkVar 3) (lkIxB C (lkFld C (E.kl 28) (E.noat 29) (lkVar 0)) (lkInt))) (lkS1 (lkNo)) (lkSNil)))) (lkSeq ((by first | exact lkPar2 C rfl rfl (by decide) rfl rfl (lkBCons (lkTup (lkNil)) (lkBCons (lkInt) (lkBNil))) (bCons_len (bCons_len (bNil_len))) rfl | exact lkParT C (.cons rfl (by first | exact Or.inl rfl | exact Or.inr rfl) (by first | exact Or.inl rfl | exact Or.inr rfl) (.cons rfl (by first | exact Or.inl rfl | exact Or.inr rfl) (by first | exact Or.inl rfl | exact Or.inr rfl) (.nil))) (lkBCons (lkTup (lkNil)) (lkBCons (lkInt) (lkBNil))) (bCons_len (bCons_len (bNil_len))) (by decide))) (lkSeq (lkFor C (lkIt C (lkVar 1)) (lkGNm C.nd rfl (by first | exact Or.inl rfl | exact Or.inr rfl)) (lkSeq (lkAsgT (lkMth C (E.kl 28) (ok_Machine_step E) (lkVar 0) (lkCons (lkVar 5) (lkCons (lkVar 3) (lkNil))) (aCons_len (aCons_len (aNil_len))) (by decide)) (lkGTup C.calm (lkGCons (lkGNm C.nd rfl (by first | exact Or.inl rfl | exact Or.inr rfl)) (lkGCons (lkGNm C.nd rfl (by first | exact Or.inl rfl | exact Or.inr rfl)) (lkGNil))) (gLen_cons (gLen_cons (gLen_nil))) (hK := C.k))) (lkS1 (lkAsg C rfl (by first | exact Or.inl rfl | exact Or.inr rfl) (lkFrz (lkAdd C (lkVar 4) (lkVar 6))))))) (lkS1 (lkRet (lkAdd C (lkVar 4) (lkIxB C (lkIxB C (lkIxB C (lkFld C (E.kl 28) (E.noat 29) (lkVar 0)) (lkInt)) (lkVar 5)) (lkInt))))))))
theorem ok__law_least (E : EnvY fa ck fn W.K W.cls mg) : Fk P w mg base W 1 "_law_least" 3 m__law_least := by
  obtain ⟨fd, F⟩ := E.fn_ 18
  refine fkOf F (fkFn F sc__law_least rfl fun cdv A outer s H EE C => ?_) (E.glo 36) (FunD.bindsN F fun _ _ _ _ _ _ us hl => match us, hl with | [_, _, _], _ => rfl)
  exact lkSeq ((by first | exact lkPar2 C rfl rfl (by decide) rfl rfl (lkBCons (lkLst (lkNil)) (lkBCons (lkLst (lkCons (lkTup (lkCons (lkInt) (lkCons (lkInt) (lkCons (lkStr) (lkNil))))) (lkNil))) (lkBNil))) (bCons_len (bCons_len (bNil_len))) rfl | exact lkParT C (.cons rfl (by first | exact Or.inl rfl | exact Or.inr rfl) (by first | exact Or.inl rfl | exact Or.inr rfl) (.cons rfl (by first | exact Or.inl rfl | exact Or.inr rfl) (by first | exact Or.inl rfl | exact Or.inr rfl) (.nil))) (lkBCons (lkLst (lkNil)) (lkBCons (lkLst (lkCons (lkTup (lkCons (lkInt) (lkCons (lkInt) (lkCons (lkStr) (lkNil))))) (lkNil))) (lkBNil))) (bCons_len (bCons_len (bNil_len))) (by decide))) (lkSeq (lkWh C (lkTNe C (lkVar 4) (lkLst (lkNil))) (lkSeq (lkPop0 C 4 (lkGTup C.calm (lkGCons (lkGNm C.nd rfl (by first | exact Or.inl rfl | exact Or.inr rfl)) (lkGCons (lkGNm C.nd rfl (by first | exact Or.inl rfl | exact Or.inr rfl)) (lkGCons (lkGNm C.nd rfl (by first | exact Or.inl rfl | exact Or.inr rfl)) (lkGNil)))) (gLen_cons (gLen_cons (gLen_cons (gLen_nil)))) (hK := C.k))) (lkSeq (lkIfS (lkTEq C (lkIxB C (lkIxB C (lkVar 1) (lkVar 5)) (lkInt)) (lkSlA C (lkVar 2) (lkOYes (lkVar 6)) (lkONo))) (lkS1 (lkRet (lkVar 7))) (lkSNil)) (lkS1 (lkFor C (lkEnum C (E.free 33) (lkVar 0)) (lkGTup C.calm (lkGCons (lkGNm C.nd rfl (by first | exact Or.inl rfl | exact Or.inr rfl)) (lkGCons (lkGNm C.nd rfl (by first | exact Or.inl rfl | exact Or.inr rfl)) (lkGNil))) (gLen_cons (gLen_cons (gLen_nil))) (hK := C.k)) (lkSeq (lkAsgT (lkIxB C (lkIxB C (lkIxB C (lkVar 1) (lkVar 5)) (lkInt)) (lkVar 8)) (lkGTup C.calm (lkGCons (lkGNm C.nd rfl (by first | exact Or.inl rfl | exact Or.inr rfl)) (lkGCons (lkGNm C.nd rfl (by first | exact Or.inl rfl | exact Or.inr rfl)) (lkGNil))) (gLen_cons (gLen_cons (gLen_nil))) (hK := C.k))) (lkS1 (lkIfS (PW.pt (lkWAnd (lkTEq C (lkSlA C (lkVar 2) (lkOYes (lkVar 6)) (lkOYes (lkAdd C (lkVar 6) (lkLen C (E.free 0) (lkVCons (lkVar 10) (lkVNil)))))) (lkVar 10)) (lkWAnd1 (lkTNin C (lkTup (lkCons (lkVar 11) (lkCons (lkAdd C (lkVar 6) (lkLen C (E.free 0) (lkVCons (lkVar 10) (lkVNil)))) (lkNil)))) (lkVar 3))))) (lkSeq (lkAppend C 3 (lkCons (lkTup (lkCons (lkVar 11) (lkCons (lkAdd C (lkVar 6) (lkLen C (E.free 0) (lkVCons (lkVar 10) (lkVNil)))) (lkNil)))) (lkNil))) (lkS1 (lkAppend C 4 (lkCons (lkTup (lkCons (lkVar 11) (lkCons (lkAdd C (lkVar 6) (lkLen C (E.free 0) (lkVCons (lkVar 10) (lkVNil)))) (lkCons (lkAdd C (lkVar 7) (lkVar 9)) (lkNil))))) (lkNil))))) (lkSNil))))))))) (lkS1 (lkRet (lkNon))))
theorem ok_Machine_letters (E : EnvY fa ck fn W.K W.cls mg) : Gk P w mg base W 1 (He.ga W.K "Machine") "letters" m_Machine_letters := by
  obtain ⟨fd, F⟩ := E.fn_ 19
  refine ⟨⟨_, _, fd, _, E.prop 1, fkFn F sc_Machine_letters rfl fun cdv A outer s H EE C => ?_, FunD.bindsN F fun _ _ _ _ _ _ us hl => match us, hl with | [_], _ => rfl⟩⟩
  exact lkS1 (lkRet (lkIxB C (lkFld C (E.kl 28) (E.noat 29) (lkVar 0)) (lkInt)))
theorem ok_read (E : EnvY fa ck fn W.K W.cls mg) : Fk P w mg base W 10 "read" 2 m_read := by
  obtain ⟨fd, F⟩ := E.fn_ 20
  refine fkOf F (fkFn F sc_read rfl fun cdv A outer s H EE C => ?_) (E.glo 37) (FunD.bindsN F fun _ _ _ _ _ _ us hl => match us, hl with | [_, _], _ => rfl)
  exact lkSeq (lkIfS (lkTNot (lkTVal (lkCall C (ok_are_symbols E) (lkCons (lkVar 1) (lkNil)) (aCons_len (aNil_len)) (by decide)))) (lkS1 (lkRet (lkNon))) (lkSNil)) (lkSeq ((by first | exact lkPar3 C rfl rfl rfl (by decide) (by decide) (by decide) rfl rfl rfl (lkBCons (lkDisp C true (pps_cons (lkTup (lkCons (lkInt) (lkCons (lkInt) (lkNil)))) (lkBl) (pps_nil))) (lkBCons (lkLst (lkCons (lkTup (lkCons (lkInt) (lkCons (lkInt) (lkCons (lkStr) (lkNil))))) (lkNil))) (lkBCons (lkInt) (lkBNil)))) (bCons_len (bCons_len (bCons_len (bNil_len)))) rfl | exact lkParT C (.cons rfl (by first | exact Or.inl rfl | exact Or.inr rfl) (by first | exact Or.inl rfl | exact Or.inr rfl) (.cons rfl (by first | exact Or.inl rfl | exact Or.inr rfl) (by first | exact Or.inl rfl | exact Or.inr rfl) (.cons rfl (by first | exact Or.inl rfl | exact Or.inr rfl) (by first | exact Or.inl rfl | exact Or.inr rfl) (.nil)))) (lkBCons (lkDisp C true (pps_cons (lkTup (lkCons (lkInt) (lkCons (lkInt) (lkNil)))) (lkBl) (pps_nil))) (lkBCons (lkLst (lkCons (lkTup (lkCons (lkInt) (lkCons (lkInt) (lkCons (lkStr) (lkNil))))) (lkNil))) (lkBCons (lkInt) (lkBNil)))) (bCons_len (bCons_len (bCons_len (bNil_len)))) (by decide))) (lkSeq (lkWh C (lkTLt (lkVar 4) (lkLen C (E.free 0) (lkVCons (lkVar 3) (lkVNil)))) (lkSeq (lkAsgT (lkIxB C (lkVar 3) (lkVar 4)) (lkGTup C.calm (lkGCons (lkGNm C.nd rfl (by first | exact Or.inl rfl | exact Or.inr rfl)) (lkGCons (lkGNm C.nd rfl (by first | exact Or.inl rfl | exact Or.inr rfl)) (lkGCons (lkGNm C.nd rfl (by first | exact Or.inl rfl | exact Or.inr rfl)) (lkGNil)))) (gLen_cons (gLen_cons (gLen_cons (gLen_nil)))) (hK := C.k))) (lkSeq (lkAugAdd C 4 (lkInt)) (lkSeq (lkIfS (lkTEq C (lkIxB C (lkOix C (E.kl 28) (ok_Machined__getitemd_ E) (lkVar 0) (lkVar 5) (by decide)) (lkInt)) (lkSlA C (lkVar 1) (lkOYes (lkVar 6)) (lkONo))) (lkS1 (lkRet (lkVar 7))) (lkSNil)) (lkS1 (lkFor C (lkIt C (lkPrp C (E.kl 28) (ok_Machine_letters E) (lkVar 0) (by decide))) (lkGNm C.nd rfl (by first | exact Or.inl rfl | exact Or.inr rfl)) (lkSeq (lkAsgT (lkMth C (E.kl 28) (ok_Machine_step E) (lkVar 0) (lkCons (lkVar 5) (lkCons (lkVar 8) (lkNil))) (aCons_len (aCons_len (aNil_len))) (by decide)) (lkGTup C.calm (lkGCons (lkGNm C.nd rfl (by first | exact Or.inl rfl | exact Or.inr rfl)) (lkGCons (lkGNm C.nd rfl (by first | exact Or.inl rfl | exact Or.inr rfl)) (lkGNil))) (gLen_cons (gLen_cons (gLen_nil))) (hK := C.k))) (lkSeq (lkAsg C rfl (by first | exact Or.inl rfl | exact Or.inr rfl) (lkTup (lkCons (lkVar 10) (lkCons (lkAdd C (lkVar 6) (lkLen C (E.free 0) (lkVCons (lkVar 9) (lkVNil)))) (lkNil))))) (lkS1 (lkIfS (PW.pt (lkWAnd (lkTEq C (lkSlA C (lkVar 1) (lkOYes (lkVar 6)) (lkOYes (lkAdd C (lkVar 6) (lkLen C (E.free 0) (lkVCons (lkVar 9) (lkVNil)))))) (lkVar 9)) (lkWAnd1 (lkTNin C (lkVar 11) (lkVar 2))))) (lkSeq (lkSetD C 2 (lkBl) (lkVar 11)) (lkS1 (lkAppend C 3 (lkCons (lkTup (lkStar C (lkVar 11) (lkCons (lkAdd C (lkVar 7) (lkVar 8)) (lkNil)))) (lkNil))))) (lkSNil))))))))))) (lkS1 (lkRet (lkNon)))))
theorem okk_read_1_0 (E : EnvY fa ck fn W.K W.cls mg) : Fkk P w mg base W 10 "read" ["symbols", "machine"] [1, 0] m_read := by
  obtain ⟨fd, F⟩ := E.fn_ 20
  refine ⟨⟨_, fd, _, fkFn F sc_read rfl fun cdv A outer s H EE C => ?_, (E.glo 37), F.kp, ?_⟩⟩
  · exact lkSeq (lkIfS (lkTNot (lkTVal (lkCall C (ok_are_symbols E) (lkCons (lkVar 1) (lkNil)) (aCons_len (aNil_len)) (by decide)))) (lkS1 (lkRet (lkNon))) (lkSNil)) (lkSeq ((by first | exact lkPar3 C rfl rfl rfl (by decide) (by decide) (by decide) rfl rfl rfl (lkBCons (lkDisp C true (pps_cons (lkTup (lkCons (lkInt) (lkCons (lkInt) (lkNil)))) (lkBl) (pps_nil))) (lkBCons (lkLst (lkCons (lkTup (lkCons (lkInt) (lkCons (lkInt) (lkCons (lkStr) (lkNil))))) (lkNil))) (lkBCons (lkInt) (lkBNil)))) (bCons_len (bCons_len (bCons_len (bNil_len)))) rfl | exact lkParT C (.cons rfl (by first | exact Or.inl rfl | exact Or.inr rfl) (by first | exact Or.inl rfl | exact Or.inr rfl) (.cons rfl (by first | exact Or.inl rfl | exact Or.inr rfl) (by first | exact Or.inl rfl | exact Or.inr rfl) (.cons rfl (by first | exact Or.inl rfl | exact Or.inr rfl) (by first | exact Or.inl rfl | exact Or.inr rfl) (.nil)))) (lkBCons (lkDisp C true (pps_cons (lkTup (lkCons (lkInt) (lkCons (lkInt) (lkNil)))) (lkBl) (pps_nil))) (lkBCons (lkLst (lkCons (lkTup (lkCons (lkInt) (lkCons (lkInt) (lkCons (lkStr) (lkNil))))) (lkNil))) (lkBCons (lkInt) (lkBNil)))) (bCons_len (bCons_len (bCons_len (bNil_len)))) (by decide))) (lkSeq (lkWh C (lkTLt (lkVar 4) (lkLen C (E.free 0) (lkVCons (lkVar 3) (lkVNil)))) (lkSeq (lkAsgT (lkIxB C (lkVar 3) (lkVar 4)) (lkGTup C.calm (lkGCons (lkGNm C.nd rfl (by first | exact Or.inl rfl | exact Or.inr rfl)) (lkGCons (lkGNm C.nd rfl (by first | exact Or.inl rfl | exact Or.inr rfl)) (lkGCons (lkGNm C.nd rfl (by first | exact Or.inl rfl | exact Or.inr rfl)) (lkGNil)))) (gLen_cons (gLen_cons (gLen_cons (gLen_nil)))) (hK := C.k))) (lkSeq (lkAugAdd C 4 (lkInt)) (lkSeq (lkIfS (lkTEq C (lkIxB C (lkOix C (E.kl 28) (ok_Machined__getitemd_ E) (lkVar 0) (lkVar 5) (by decide)) (lkInt)) (lkSlA C (lkVar 1) (lkOYes (lkVar 6)) (lkONo))) (lkS1 (lkRet (lkVar 7))) (lkSNil)) (lkS1 (lkFor C (lkIt C (lkPrp C (E.kl 28) (ok_Machine_letters E) (lkVar 0) (by decide))) (lkGNm C.nd rfl (by first | exact Or.inl rfl | exact Or.inr rfl)) (lkSeq (lkAsgT (lkMth C (E.kl 28) (ok_Machine_step E) (lkVar 0) (lkCons (lkVar 5) (lkCons (lkVar 8) (lkNil))) (aCons_len (aCons_len (aNil_len))) (by decide)) (lkGTup C.calm (lkGCons (lkGNm C.nd rfl (by first | exact Or.inl rfl | exact Or.inr rfl)) (lkGCons (lkGNm C.nd rfl (by first | exact Or.inl rfl | exact Or.inr rfl)) (lkGNil))) (gLen_cons (gLen_cons (gLen_nil))) (hK := C.k))) (lkSeq (lkAsg C rfl (by first | exact Or.inl rfl | exact Or.inr rfl) (lkTup (lkCons (lkVar 10) (lkCons (lkAdd C (lkVar 6) (lkLen C (E.free 0) (lkVCons (lkVar 9) (lkVNil)))) (lkNil))))) (lkS1 (lkIfS (PW.pt (lkWAnd (lkTEq C (lkSlA C (lkVar 1) (lkOYes (lkVar 6)) (lkOYes (lkAdd C (lkVar 6) (lkLen C (E.free 0) (lkVCons (lkVar 9) (lkVNil)))))) (lkVar 9)) (lkWAnd1 (lkTNin C (lkVar 11) (lkVar 2))))) (lkSeq (lkSetD C 2 (lkBl) (lkVar 11)) (lkS1 (lkAppend C 3 (lkCons (lkTup (lkStar C (lkVar 11) (lkCons (lkAdd C (lkVar 7) (lkVar 8)) (lkNil)))) (lkNil))))) (lkSNil))))))))))) (lkS1 (lkRet (lkNon)))))
  · obtain ⟨oc, od, dV, kV, doc, pm, an, cdv, ct, osl, rfl, lk, hcd, hD, hK⟩ := F.ex
    rcases hD with ⟨_, rfl⟩ | ⟨e, _⟩
    · exact fun us hl => match us, hl with | [_, _], _ => rfl
    · exact absurd rfl e
theorem ok_begin (E : EnvY fa ck fn K cls mg) : ∃ f fd, FnOk P w K mg base CX0 2 f fd ["_law_script"] (spBeg K) ∧ mg "_law_begin" = some (.ref f) ∧ PySem.W.keepIn K (.ref f) = true ∧ Binds K fd ["_law_script"] [] := by
  obtain ⟨fd, F⟩ := E.fn_ 21
  refine ⟨_, fd, fkBeg (cls := cls) F sc_begin fun cdv A outer s H EE C => ?_, (E.glo 42), F.kp, FunD.bindsN F fun _ _ _ _ _ _ us hl => match us, hl with | [_], _ => rfl⟩
  exact pss_cons (lkSetLc (ow := [("_law_cell", 2)]) C rfl rfl (lkIt C (lkVar 0)) (by show blkC N_begin (defScope S_begin) _ _ = true; decide +kernel) (fun _ _ _ _ _ C => lkGNm C.nd rfl (by first | exact Or.inl rfl | exact Or.inr rfl)) (fun _ _ _ _ _ C => lkIfs1 (lkTGe (lkAbs C (E.free 41) (lkVCons (lkVar 2) lkVNil)) (lkPow lkInt lkInt))) (fun _ _ _ _ _ C => lkAbs C (E.free 41) (lkVCons (lkVar 2) lkVNil)) (by decide)) (pss_one (ps_ret (pe_disp (pps_cons pe_str (pv 1) (pps_cons pe_str (pe_callTy call_list_of rfl (E.free 39) (by decide +kernel) (pa_cons (pv 0) pa_nil)) (pps_cons pe_str pe_int (pps_cons pe_str pe_int (pps_cons pe_str pe_int pps_nil))))) rfl rfl (fun z => nomatch z) (by decide))))
theorem ok_law (c : SaysY fa ck fn K) : ∃ fd, (∀ (s : Shared) (v : Value), BindsTo s fd ⟨[v], []⟩ [("_law_script", v)]) ∧ ∀ (P : Program) (w : World) (base : Heap) (cls : PySem.Str → Option Addr) (mg : PySem.Str → Option Value), EnvY fa ck fn K cls mg → FnOk P w K mg base CX0 14 (He.ga K "law") fd ["_law_script"] (spLawP K (List.length N_law) mb_law) := by
  obtain ⟨fd, F⟩ := c.def_ 22
  refine ⟨fd, ?_, fun P w base cls mg E => ?_⟩
  · have b := FunD.bindsA (ps := ["_law_script"]) F fun _ _ _ _ _ _ us hl => match us, hl with | [_], _ => rfl
    exact fun s v => b s [v] rfl
  · obtain ⟨fb, fdb, B, hm, hk, hb⟩ := ok_begin (P := P) (w := w) (base := base) E
    refine fkLaw (cls := cls) F sc_law (by decide) fun cdv A outer s H EE CC => ?_
    have C0 := CC (offW K cls) rfl rfl
    refine pss_cons (ps_set C0.nd rfl (by first | exact Or.inl rfl | exact Or.inr rfl) (pe_call B (C0.room.mono (by decide)) rfl hm hk hb .nil pass0 (pa_cons (pv 0) pa_nil)) rfl) (lawR fun W hW hc => ?_)
    have C := CC W hW hc
    subst hW hc
    exact lkSeq (lkFor C (lkRng1 (lkCons (lkAdd C (lkInt) (lkMin2 C (E.free 1) (lkVCons (lkLen C (E.free 0) (lkVCons (lkVar 0) (lkVNil))) (lkVCons (lkInt) (lkVNil))))) (lkNil)) (E.free 2)) (lkGNm C.nd rfl (by first | exact Or.inl rfl | exact Or.inr rfl)) (lkSeq (lkAsg C rfl (by first | exact Or.inl rfl | exact Or.inr rfl) (lkFrz (lkCall C (ok__law_signs E) (lkCons (lkVar 1) (lkCons (lkInt) (lkNil))) (aCons_len (aCons_len (aNil_len))) (by decide)))) (lkSeq (lkAsg C rfl (by first | exact Or.inl rfl | exact Or.inr rfl) (lkFrz (lkCall C (ok__law_lists E) (lkCons (lkVar 1) (lkCons (lkLen C (E.free 0) (lkVCons (lkVar 3) (lkVNil))) (lkCons (lkAdd C (lkInt) (lkCall C (ok__law_take E) (lkCons (lkVar 1) (lkCons (lkInt) (lkNil))) (aCons_len (aCons_len (aNil_len))) (by decide))) (lkNil)))) (aCons_len (aCons_len (aCons_len (aNil_len)))) (by decide)))) (lkSeq (lkAsg C rfl (by first | exact Or.inl rfl | exact Or.inr rfl) (lkFrz (lkMk C (E.kl 28) (ok_Machined__initd_ E) (lkCons (lkVar 3) (lkCons (lkVar 4) (lkNil))) (aCons_len (aCons_len (aNil_len))) (by decide)))) (lkSeq (lkFor C (lkRng1 (lkCons (lkInt) (lkNil)) (E.free 2)) (lkGNm C.nd rfl (by first | exact Or.inl rfl | exact Or.inr rfl)) (lkSeq (lkAsg C rfl (by first | exact Or.inl rfl | exact Or.inr rfl) (lkFrz (lkJoin C (lkStr) (lkLc (ow := [("_law_k", 8)]) C (lkRng1 (lkCons (lkCall C (ok__law_take E) (lkCons (lkVar 1) (lkCons (lkInt) (lkNil))) (aCons_len (aCons_len (aNil_len))) (by decide)) (lkNil)) (E.free 2)) (by show blkC N_law (defScope S_law) _ _ = true; decide +kernel) (fun _ _ _ _ _ C => lkGNm C.nd rfl (by first | exact Or.inl rfl | exact Or.inr rfl)) (fun _ _ _ _ _ C => lkIfs0) (fun _ _ _ _ _ C => lkCall C (ok__law_pick E) (lkCons (lkVar 1) (lkCons (lkVar 3) (lkNil))) (aCons_len (aCons_len (aNil_len))) (by decide)) (by decide))))) (lkSeq (lkAsg C rfl (by first | exact Or.inl rfl | exact Or.inr rfl) (lkFrz (lkCall C (ok__law_bent E) (lkCons (lkVar 1) (lkCons (lkMth C (E.kl 28) (ok_Machine_play E) (lkVar 5) (lkCons (lkVar 7) (lkNil)) (aCons_len (aNil_len)) (by decide)) (lkNil))) (aCons_len (aCons_len (aNil_len))) (by decide)))) (lkSeq (lkAsg C rfl (by first | exact Or.inl rfl | exact Or.inr rfl) (lkFrz (lkCall C (ok__law_least E) (lkCons (lkVar 3) (lkCons (lkVar 4) (lkCons (lkVar 9) (lkNil)))) (aCons_len (aCons_len (aCons_len (aNil_len)))) (by decide)))) (lkS1 (lkIfS (PW.pt (lkWOr (lkTNe C (lkB call_reprs opn_repr (E.free 38) (lkVCons (lkCall C (ok_read E) (lkCons (lkVar 5) (lkCons (lkVar 9) (lkNil))) (aCons_len (aCons_len (aNil_len))) (by decide)) (lkVNil))) (lkB call_reprs opn_repr (E.free 38) (lkVCons (lkVar 10) (lkVNil)))) (lkWOr1 (lkTNe C (lkB call_reprs opn_repr (E.free 38) (lkVCons (lkCallK C (okk_read_1_0 E) (lkKCons (lkVar 9) (lkKCons (lkVar 5) (lkKNil))) (aCons_len (aCons_len (aNil_len))) (by decide)) (lkVNil))) (lkB call_reprs opn_repr (E.free 38) (lkVCons (lkVar 10) (lkVNil))))))) (lkS1 (lkRet (lkBl))) (lkSNil))))))) (lkSeq (lkAsg C rfl (by first | exact Or.inl rfl | exact Or.inr rfl) (lkFrz (lkLst (lkCons (lkNon) (lkCons (lkInt) (lkCons (lkStr) (lkCons (lkLst (lkNil)) (lkCons (lkLst (lkCons (lkInt) (lkNil))) (lkCons (lkList C (E.free 39) (lkVCons (lkMth C (E.kl 28) (ok_Machine_play E) (lkVar 5) (lkCons (lkVar 3) (lkNil)) (aCons_len (aNil_len)) (by decide)) (lkVNil))) (lkCons (lkDicK C) (lkCons (lkTup (lkCons (lkBl) (lkNil))) (lkCons (lkTup (lkCons (lkInt) (lkCons (lkBl) (lkNil)))) (lkCons (lkTup (lkCons (lkLst (lkNil)) (lkNil))) (lkCons (lkTup (lkCons (lkDicK C) (lkNil))) (lkCons (lkTup (lkCons (lkTup (lkCons (lkBl) (lkNil))) (lkNil))) (lkNil)))))))))))))))) (lkS1 (lkIfS (PW.pt (lkWOr (lkTNotN (lkCall C (ok_read E) (lkCons (lkVar 5) (lkCons (lkCall C (ok__law_pick E) (lkCons (lkVar 1) (lkCons (lkVar 11) (lkNil))) (aCons_len (aCons_len (aNil_len))) (by decide)) (lkNil))) (aCons_len (aCons_len (aNil_len))) (by decide))) (lkWOr1 (lkTNe C (lkCall C (ok_read E) (lkCons (lkVar 5) (lkCons (lkTup (lkNil)) (lkNil))) (aCons_len (aCons_len (aNil_len))) (by decide)) (lkStr))))) (lkS1 (lkRet (lkBl))) (lkSNil))))))))) (lkS1 (lkRet (lkBl)))
end
end K56
namespace K56
open PySem PySem.Spec PyProof.Rows L2 Py
abbrev R : PySem.W.OpenRow := PySem.W.OpenLaw.row PySem.Challenge.rw_cutfont_k56_texts_read_back
abbrev hk : PySem.W.Hook := hookY 6 fa ck fn
def ob (s : PySem.W.SharedT) : AlY := obsYG 6 fa ck fn (HandSHeadRun.getT s)
theorem ob_eq (s : PySem.W.SharedT) : ob s = hk.obs s.abs := obsYG_eq (HandSHeadRun.getT_eq s)
theorem run (w : World) : HandSHeadRun.RunEq R (PySem.W.view R.prog [30]) hk ob 3000 ["FontError", "InvalidLetters", "InvalidText", "InvalidMachine", "InvalidIndex", "ALPHABET", "MOST_LETTERS", "is_between", "is_tuple", "is_ascending", "is_letter", "is_symbol", "are_symbols", "is_step", "is_row", "Machine", "read", "_law_begin", "_law_take", "_law_pick", "_law_marks", "_law_lists", "_law_signs", "_law_least", "_law_bent"] w := by
  intro os
  kernel_rfl
end K56
open PySem PySem.W PySem.Calls PyProof.Rows in
theorem K56.of_math (hM : ∀ ns : List Int, ns.length ≤ 63 → Py.lawM (List.length K56.N_law) K56.mb_law ns = some true) : PySem.Challenge.rw_cutfont_k56_texts_read_back.Holds := by
  w_on; o_law
  refine HandSHeadRun.head_any (r := OpenLaw.row PySem.Challenge.rw_cutfont_k56_texts_read_back) (q := view (OpenLaw.row PySem.Challenge.rw_cutfont_k56_texts_read_back).prog [30]) (H := K56.hk) (ob := K56.ob) (M := 3000) (loose := ["FontError", "InvalidLetters", "InvalidText", "InvalidMachine", "InvalidIndex", "ALPHABET", "MOST_LETTERS", "is_between", "is_tuple", "is_ascending", "is_letter", "is_symbol", "are_symbols", "is_step", "is_row", "Machine", "read", "_law_begin", "_law_take", "_law_pick", "_law_marks", "_law_lists", "_law_signs", "_law_least", "_law_bent"]) (d := HandSHeadRun.topDef (OpenLaw.row PySem.Challenge.rw_cutfont_k56_texts_read_back).prog 30) (kwd := []) K56.ob_eq
    (by kernel_rfl) (fun s => by kernel_rfl) K56.run (by kernel_rfl) (by kernel_rfl) (by kernel_rfl) (by rfl) (by first | assumption | decide +kernel) (by decide +kernel) ⟨rfl, rfl, rfl, rfl, rfl, by decide +kernel⟩ ?hw ?hc
  case hw => w_witness2
  case hc =>
    refine L2.walk_ofE (l := PySem.Challenge.rw_cutfont_k56_texts_read_back) (n := 63) (k := 14) (x := "_law_script") (CX := L2.CX0) rfl (by decide) (by kernel_rfl) ⟨rfl, by decide, by decide⟩ ?F (fun _ _ _ _ z => z)
    intro w mg fa h Y G hmg0
    obtain ⟨K, KX, c⟩ := Y
    have hmg : mg ("law" : PySem.Str) = some (.ref fa) := by
      have e : (HandSHeadRun.topDef (OpenLaw.row PySem.Challenge.rw_cutfont_k56_texts_read_back).prog 30).name = ("law" : PySem.Str) := by kernel_rfl
      rw [← e]; exact hmg0
    have E : ∀ b : Heap, K.In b → b.Ns mainGlobals mg → Py.EnvY K56.fa K56.ck K56.fn K (fun x => some (He.ga K x)) mg := fun b h1 h2 => ⟨rfl, ⟨b, h1, h2⟩, c⟩
    have eg := hmg.symm.trans ((E h KX G).glo 40 (x := "law"))
    cases eg
    obtain ⟨fd, hb, hF⟩ := K56.ok_law c
    exact ⟨K, fd, Py.spLawP K (List.length K56.N_law) K56.mb_law, KX, hb, fun H a ns hl _ hS => ⟨a, ns, rfl, hS, hl, hM ns hl, fun _ => rfl⟩, fun base h1 h2 => hF _ w base _ mg (E base h1 h2)⟩
namespace K56
open PySem L2 Py
theorem take_eq : m__law_take = takeM := rfl
theorem pick_eq : m__law_pick = pickM := rfl
theorem all_of {α : Type} {Pr : α → Prop} : ∀ l : List α, l.foldr (fun a p => Pr a ∧ p) True → ∀ a ∈ l, Pr a
  | [], _, a, h => by cases h
  | b :: l, ⟨h1, h2⟩, a, h => by
    rcases List.mem_cons.mp h with q | q
    · subst q; exact h1
    · exact all_of l h2 a q
/-! ### signs -/
def subs : List Nat → List (List Nat)
  | [] => [[]]
  | x :: l => subs l ++ (subs l).map (x :: ·)
abbrev abc5 : List Nat := [97, 98, 99, 120, 122]
def sg (c : Nat) : PySem.Str := ⟨#[c]⟩
def zOf (cs : List Nat) : PySem.Str := ⟨cs.toArray⟩
theorem asc_ok : ∀ cs ∈ subs abc5, ∀ δ, m_is_ascending [.str (zOf cs)] δ = some (.f (.bl true), δ) := all_of _ (by
  repeat (first | exact True.intro | refine ⟨fun δ => rfl, ?_⟩))
theorem let1 (c : Nat) (h : decide (c ∈ ("abcdefghijklmnopqrstuvwxyz" : PySem.Str).cps.toList) = true) (δ : DS) : m_is_letter [.str (sg c)] δ = some (.f (.bl true), δ) := by
  refine fn_rt (ret_is (b := .f (.bl true)) ?_)
  rw [and_t (δ1 := δ) rfl, and_t (δ1 := δ) (s2_is (δ2 := δ) rfl rfl (eqD_int _ _ _))]
  refine s2_is (δ1 := δ) (δ2 := δ) rfl rfl ?_
  show some (B.f (D.bl (decide (c ∈ ("abcdefghijklmnopqrstuvwxyz" : PySem.Str).cps.toList) != false))) = _
  rw [h]; rfl
theorem let_ok : ∀ c ∈ abc5, ∀ δ, m_is_letter [.str (sg c)] δ = some (.f (.bl true), δ) := all_of _ ⟨let1 _ (by decide), let1 _ (by decide), let1 _ (by decide), let1 _ (by decide), let1 _ (by decide), True.intro⟩
theorem join_ok : ∀ cs ∈ subs abc5, Txt.join "" (cs.map sg) = zOf cs := by decide +kernel
theorem sub_in : ∀ {l cs : List Nat}, cs ∈ subs l → ∀ c ∈ cs, c ∈ l
  | [], cs, h, c, hc => by
    simp [subs] at h; subst h; cases hc
  | x :: l, cs, h, c, hc => by
    rcases List.mem_append.mp (show cs ∈ subs l ++ (subs l).map (x :: ·) from h) with q | q
    · exact List.mem_cons_of_mem _ (sub_in q c hc)
    · obtain ⟨ds, hd, rfl⟩ := List.mem_map.mp q
      rcases List.mem_cons.mp hc with z | z
      · subst z; exact List.mem_cons_self ..
      · exact List.mem_cons_of_mem _ (sub_in hd c z)
theorem sub_of : ∀ {l cs : List Nat}, l.Pairwise (· < ·) → cs.Pairwise (· < ·) → (∀ c ∈ cs, c ∈ l) → cs ∈ subs l
  | [], cs, _, _, h => by
    cases cs with
    | nil => simp [subs]
    | cons c _ => exact absurd (h c (List.mem_cons_self ..)) (by simp)
  | x :: l, cs, hl, hc, h => by
    obtain ⟨l1, l2⟩ := List.pairwise_cons.mp hl
    show cs ∈ subs l ++ (subs l).map (x :: ·)
    cases cs with
    | nil => exact List.mem_append_left _ (sub_of l2 .nil (by simp))
    | cons y ys =>
      obtain ⟨c1, c2⟩ := List.pairwise_cons.mp hc
      rcases List.mem_cons.mp (h y (List.mem_cons_self ..)) with e | e
      · subst e
        refine List.mem_append_right _ (List.mem_map.mpr ⟨ys, sub_of l2 c2 fun z hz => ?_, rfl⟩)
        rcases List.mem_cons.mp (h z (List.mem_cons_of_mem _ hz)) with q | q
        · have := c1 z hz; omega
        · exact q
      · refine List.mem_append_left _ (sub_of l2 hc fun z hz => ?_)
        rcases List.mem_cons.mp (h z hz) with q | q
        · have h1 := l1 y e
          rcases List.mem_cons.mp hz with z1 | z1
          · omega
          · have := c1 z z1; omega
        · exact q
theorem lt_sg {a b : Nat} : ltS (sg a) (sg b) ↔ a < b := by
  show List.Lex (· < ·) [a] [b] ↔ a < b
  constructor
  · intro h
    cases h with
    | rel h => exact h
    | cons h => cases h
  · exact fun h => .rel h
theorem sing_map : ∀ {ys : List PySem.Str}, (∀ y ∈ ys, ∃ c ∈ abc5, y = sg c) → ∃ cs : List Nat, ys = cs.map sg ∧ ∀ c ∈ cs, c ∈ abc5
  | [], _ => ⟨[], rfl, by simp⟩
  | y :: ys, h => by
    obtain ⟨c, hc, rfl⟩ := h y (List.mem_cons_self ..)
    obtain ⟨cs, rfl, hs⟩ := sing_map fun z hz => h z (List.mem_cons_of_mem _ hz)
    refine ⟨c :: cs, rfl, fun d hd => ?_⟩
    rcases List.mem_cons.mp hd with q | q
    · subst q; exact hc
    · exact hs d q
/-- signs: some of abcxz, in order -/
structure SgOk (cs : List Nat) : Prop where
  sub : cs ∈ subs abc5
  ne : cs ≠ []
theorem strsD_map : ∀ ys : List PySem.Str, strsD (ys.map D.str) = some ys
  | [] => rfl
  | y :: ys => by
    show (strsD (ys.map D.str)).bind _ = _
    rw [strsD_map ys]; rfl
theorem sum_sg : ∀ cs : List Nat, ((cs.map sg).map (·.length)).sum = cs.length
  | [] => rfl
  | c :: cs => by
    have := sum_sg cs
    simp only [List.map_cons, List.sum_cons, List.length_cons] at this ⊢
    rw [this]
    show 1 + cs.length = _
    omega
theorem subs_len : ∀ cs ∈ subs abc5, cs.length ≤ 5 := by decide +kernel
theorem signs_ok {δ : DS} (ok : DOk δ) {n : Nat} (h0 : 0 < n) (h1 : n ≤ 60) : ∃ cs δ', SgOk cs ∧ m__law_signs [.drw, .int n] δ = some (.f (.str (zOf cs)), δ') ∧ DOk δ' := by
  obtain ⟨r, δ1, e1, hr, ok1⟩ := take_ok (n := (n : Int)) ok (by omega) (by omega)
  have hc : sCall m__law_take (aCons (sVar 0) (aCons (sVar 1) aNil)) [some (.f .drw), some (.f (.int n)), none] δ = some (.f (.int r), δ1) := call_is (cons_is rfl rfl (cons_is rfl rfl rfl)) (by rw [take_eq]; exact e1) rfl
  have hi : mRng1 (aCons (s2 addA (sC (.int 1)) (sCall m__law_take (aCons (sVar 0) (aCons (sVar 1) (aNil))))) (aNil)) [some (.f .drw), some (.f (.int n)), none] δ = some ((rngD 0 ((1 : Int) + (r : Int)).toNat, false), δ1) := rng1_is (cons_is (b := .f (.int ((1 : Int) + (r : Int)))) (s2_is rfl hc rfl) rfl rfl) (by omega) (by omega)
  obtain ⟨ys, δ2, f1, f2, f3, ok2⟩ := lc_all (mg := gNm 2) (mt := tYesM) (me := sCall m__law_pick (aCons (sVar 0) (aCons (sC (.str "abcxz")) (aNil)))) (ρ := wipeE [some (.f .drw), some (.f (.int n)), none] [2]) (fun y => ∃ c ∈ abc5, y = .str (sg c)) DOk (rngD 0 ((1 : Int) + (r : Int)).toNat) (fun x hx δ hδ => by
    obtain ⟨c, δ', hc, e, ok'⟩ := pick_str (z := "abcxz") hδ (by decide) (by decide)
    exact ⟨_, _, δ', rfl, rfl, call_is (b := .f (.str (sg c))) (cons_is rfl rfl (cons_is rfl rfl rfl)) (by rw [pick_eq]; exact e) rfl, rfl, ⟨c, hc, rfl⟩, ok'⟩) δ1 ok1
  obtain ⟨ss, rfl⟩ : ∃ ss : List PySem.Str, ys = ss.map D.str := by
    clear f1 f2
    induction ys with
    | nil => exact ⟨[], rfl⟩
    | cons y ys ih =>
      obtain ⟨c, _, rfl⟩ := f3 y (List.mem_cons_self ..)
      obtain ⟨ss, rfl⟩ := ih fun z hz => f3 z (List.mem_cons_of_mem _ hz)
      exact ⟨sg c :: ss, rfl⟩
  have hs : ∀ s ∈ ss, ∃ c ∈ abc5, s = sg c := fun s hs => by
    obtain ⟨c, hc, e⟩ := f3 (.str s) (List.mem_map.mpr ⟨s, hs, rfl⟩)
    cases e
    exact ⟨c, hc, rfl⟩
  have hlen : ss.length = ((1 : Int) + (r : Int)).toNat := by rw [← rngD_len 0 ((1 : Int) + (r : Int)).toNat, ← f2, List.length_map]
  obtain ⟨cs, hcs, hin⟩ := sing_map (ys := sortSet ss) fun y hy => hs y (sortSet_mem.mp hy)
  have hord : cs.Pairwise (· < ·) := by
    have := sortSet_ord ss
    rw [hcs, List.pairwise_map] at this
    exact this.imp fun h => lt_sg.mp h
  have hsub : cs ∈ subs abc5 := sub_of (by decide) hord hin
  have hne : cs ≠ [] := fun e => by
    subst e
    have hpos : 0 < ss.length := by omega
    cases ss with
    | nil => simp at hpos
    | cons s ss =>
      have : s ∈ sortSet (s :: ss) := sortSet_mem.mpr (List.mem_cons_self ..)
      rw [hcs] at this
      cases this
  refine ⟨cs, δ2, ⟨hsub, hne⟩, ?_, ok2⟩
  have hlc := lc_is (own := [2]) hi (by rw [rngD_len]; exact Nat.le_trans (show ((1 : Int) + (r : Int)).toNat ≤ 61 by omega) (by decide)) f1
  have hss : sSortSet (sLc (mRng1 (aCons (s2 addA (sC (.int 1)) (sCall m__law_take (aCons (sVar 0) (aCons (sVar 1) (aNil))))) (aNil))) (gNm 2) (tYesM) (sCall m__law_pick (aCons (sVar 0) (aCons (sC (.str "abcxz")) (aNil)))) [2]) [some (.f .drw), some (.f (.int n)), none] δ = some (.o (.lst ((sortSet ss).map .str)), δ2) := by
    unfold sSortSet
    rw [hlc, Option.bind_some]
    show (strsD (ss.map D.str)).bind _ = _
    rw [strsD_map, Option.bind_some, if_pos (by omega)]
  refine fn_rt (ret_is (b := .f (.str (zOf cs))) ?_)
  unfold sJoin
  show ((sSortSet _ [some (.f .drw), some (.f (.int n)), none] δ).bind _) = _
  rw [hss, Option.bind_some]
  show (strsD ((sortSet ss).map D.str)).bind _ = _
  rw [strsD_map, Option.bind_some, hcs, if_pos (by
    have := subs_len cs hsub
    rw [sum_sg, List.length_map]
    show cs.length + cs.length * 0 ≤ cap
    exact Nat.le_trans (show _ ≤ 5 by omega) (by decide)), join_ok cs hsub]
end K56
namespace K56
open PySem L2 Py
/-! ### marks -/
def mk7 : List D := [.int 0, .int 1, .str "a", .non, .tup [.int 1, .str "b"], .tup [], .int 2]
def MkL (ms : List D) : Prop := ∀ d ∈ ms, d ∈ mk7
theorem MkL.app {a b : List D} (h : MkL a) (k : MkL b) : MkL (a ++ b) := fun d hd => (List.mem_append.mp hd).elim (h d) (k d)
theorem MkL.take {a : List D} (n : Nat) (h : MkL a) : MkL (a.take n) := fun d hd => h d (List.mem_of_mem_take hd)
theorem MkL.drop {a : List D} (n : Nat) (h : MkL a) : MkL (a.drop n) := fun d hd => h d (List.mem_of_mem_drop hd)
theorem MkL.nil : MkL [] := fun _ h => by cases h
theorem sym7 : ∀ d ∈ mk7, ∀ δ, m_is_symbol 7 [d] δ = some (.f (.bl true), δ) := all_of _ ⟨fun _ => rfl, fun _ => rfl, fun _ => rfl, fun _ => rfl, fun _ => rfl, fun _ => rfl, fun _ => rfl, True.intro⟩
theorem boolsD_map (g : D → Bool) : ∀ xs : List D, boolsD (xs.map fun x => .bl (g x)) = some (xs.map g)
  | [] => rfl
  | x :: xs => by
    show (boolsD (xs.map fun x => .bl (g x))).bind _ = _
    rw [boolsD_map g xs]; rfl
theorem allB_true {xs : List D} {b : B} (h : listOf b = some (xs.map fun _ => .bl true)) : allB [b] = some (.f (.bl true)) := by
  show (listOf b).bind _ = _
  rw [h, Option.bind_some, boolsD_map (fun _ => true) xs, Option.bind_some]
  congr 3
  simp
/-- all([f(x) for x in xs]), each true -/
theorem all_lc {mi : MeI} {mg : MeG} {me : Me} {own : List Nat} {ρ : En} {δ : DS} {ds : List D} {l : Bool} (h : mi ρ δ = some ((ds, l), δ)) (hc : ds.length ≤ cap) (k : ∀ x ∈ ds, ∃ ρ1, mg x (wipeE ρ own) = some ρ1 ∧ me ρ1 δ = some (.f (.bl true), δ)) : sB allB (vCons (sLc mi mg tYesM me own) vNil) ρ δ = some (.f (.bl true), δ) :=
  b_is (vcons_is (lc_is h hc (lc_map (fun _ => .bl true) ds fun x hx => let ⟨ρ1, e1, e2⟩ := k x hx; ⟨ρ1, _, e1, rfl, e2, rfl, rfl⟩)) rfl) (allB_true rfl)
theorem sym_tup {ms : List D} (h : MkL ms) (hl : ms.length ≤ cap) (δ : DS) : m_is_symbol 8 [.tup ms] δ = some (.f (.bl true), δ) := by
  refine fn_rt (b := .f (.bl true)) ?_
  show mb_is_symbol (m_is_symbol 7) [some (.f (.tup ms)), none] δ = _
  unfold mb_is_symbol
  refine seq_rt ((if_t (δ1 := δ) rfl).trans (ret_is (b := .f (.bl true)) (all_lc (ds := ms) (l := false) rfl hl fun x hx => ⟨_, rfl, call_is (cons_is rfl rfl rfl) (sym7 x (h x hx) δ) rfl⟩)))
theorem are_ok {ms : List D} (h : MkL ms) (hl : ms.length ≤ cap) (δ : DS) : m_are_symbols [.tup ms] δ = some (.f (.bl true), δ) :=
  fn_rt (ret_is (b := .f (.bl true)) ((and_t (δ1 := δ) rfl).trans (call_is (cons_is rfl rfl rfl) (sym_tup h hl δ) rfl)))
theorem btw_is (v lo hi : Int) (δ : DS) : m_is_between [.int v, .int lo, .int hi] δ = some (.f (.bl (decide (lo ≤ v) && decide (v ≤ hi))), δ) :=
  fn_rt (ret_is (b := .f (.bl (decide (lo ≤ v) && decide (v ≤ hi)))) ((and_t (δ1 := δ) rfl).trans ((and_t (δ1 := δ) rfl).trans (chain_is (δ1 := δ) (δ2 := δ) rfl rfl rfl))))
theorem tup_is (ds : List D) (lo hi : Int) (δ : DS) : m_is_tuple [.tup ds, .int lo, .int hi] δ = some (.f (.bl (decide (lo ≤ ds.length) && decide ((ds.length : Int) ≤ hi))), δ) :=
  fn_rt (ret_is (b := .f (.bl (decide (lo ≤ ds.length) && decide ((ds.length : Int) ≤ hi)))) ((and_t (δ1 := δ) rfl).trans (chain_is (δ1 := δ) (δ2 := δ) rfl rfl rfl)))
/-! ### machines -/
structure Rw where
  en : List D
  st : List (List D × Nat)
def stD (p : List D × Nat) : D := .tup [.tup p.1, .int p.2]
def rowD (r : Rw) : D := .tup [.tup r.en, .tup (r.st.map stD)]
structure RowOk (n m : Nat) (r : Rw) : Prop where
  en : MkL r.en
  el : r.en.length ≤ 4
  st : r.st.length = n
  ok : ∀ p ∈ r.st, MkL p.1 ∧ p.1.length ≤ 4 ∧ p.2 < m
theorem cap4 {n : Nat} (h : n ≤ 4) : n ≤ cap := Nat.le_trans h (by decide)
theorem cap100 {n : Nat} (h : n ≤ 1000) : n ≤ cap := Nat.le_trans h (by decide)
theorem step_is {p : List D × Nat} {m : Nat} (h1 : MkL p.1) (h2 : p.1.length ≤ 4) (h3 : p.2 < m) (δ : DS) : m_is_step [stD p, .int m] δ = some (.f (.bl true), δ) := by
  refine fn_rt (ret_is (b := .f (.bl true)) ?_)
  rw [and_t (δ1 := δ) (call_is (cons_is rfl rfl (cons_is rfl rfl (cons_is rfl rfl rfl))) (tup_is [.tup p.1, .int p.2] 2 2 δ) rfl)]
  rw [and_t (δ1 := δ) (call_is (cons_is (s2_is (z := .f (.tup p.1)) rfl rfl (ixB_tup (i := 0) rfl)) rfl rfl) (are_ok h1 (cap4 h2) δ) rfl)]
  refine call_is (cons_is (s2_is (z := .f (.int p.2)) rfl rfl (ixB_tup (i := 1) rfl)) rfl (cons_is rfl rfl (cons_is (b := .f (.int ((m : Int) - 1))) (s2_is rfl rfl rfl) rfl rfl))) ((btw_is _ _ _ δ).trans ?_) rfl
  rw [decide_eq_true (show (0 : Int) ≤ (p.2 : Int) by omega), decide_eq_true (show (p.2 : Int) ≤ (m : Int) - 1 by omega)]
  rfl
theorem row_is {r : Rw} {n m : Nat} (h : RowOk n m r) (hn : n ≤ 5) (δ : DS) : m_is_row [rowD r, .int n, .int m] δ = some (.f (.bl true), δ) := by
  refine fn_rt (b := .f (.bl true)) ?_
  show mb_is_row [some (.f (rowD r)), some (.f (.int n)), some (.f (.int m)), none] δ = _
  unfold mb_is_row
  have c1 : sCall m_is_tuple (aCons (sVar 0) (aCons (sC (.int 2)) (aCons (sC (.int 2)) (aNil)))) [some (.f (rowD r)), some (.f (.int n)), some (.f (.int m)), none] δ = some (.f (.bl true), δ) := call_is (cons_is rfl rfl (cons_is rfl rfl (cons_is rfl rfl rfl))) (tup_is [.tup r.en, .tup (r.st.map stD)] 2 2 δ) rfl
  have c2 : sCall m_are_symbols (aCons (s2 ixB (sVar 0) (sC (.int 0))) (aNil)) [some (.f (rowD r)), some (.f (.int n)), some (.f (.int m)), none] δ = some (.f (.bl true), δ) := call_is (cons_is (s2_is (z := .f (.tup r.en)) rfl rfl (ixB_tup (i := 0) rfl)) rfl rfl) (are_ok h.en (cap4 h.el) δ) rfl
  have i1 : s2 ixB (sVar 0) (sC (.int 1)) [some (.f (rowD r)), some (.f (.int n)), some (.f (.int m)), none] δ = some (.f (.tup (r.st.map stD)), δ) := s2_is rfl rfl (ixB_tup (i := 1) rfl)
  have c3 : sCall m_is_tuple (aCons (s2 ixB (sVar 0) (sC (.int 1))) (aCons (sVar 1) (aCons (sVar 1) (aNil)))) [some (.f (rowD r)), some (.f (.int n)), some (.f (.int m)), none] δ = some (.f (.bl true), δ) := call_is (cons_is i1 rfl (cons_is rfl rfl (cons_is rfl rfl rfl))) ((tup_is _ _ _ δ).trans (by
    rw [List.length_map, h.st]
    simp)) rfl
  rw [seq_nx (ρ1 := [some (.f (rowD r)), some (.f (.int n)), some (.f (.int m)), none]) (δ1 := δ) ((if_f (δ1 := δ) ((tOr_f (tNot_is (sTest_is c1))).trans ((tOr_f (tNot_is (sTest_is c2))).trans (tNot_is (sTest_is c3))))).trans rfl)]
  refine ret_is (b := .f (.bl true)) (all_lc (ds := r.st.map stD) (l := false) ?_ (by rw [List.length_map, h.st]; exact cap100 (by omega)) fun x hx => ?_)
  · show (s2 ixB (sVar 0) (sC (.int 1)) _ δ).bind _ = _
    rw [i1]; rfl
  · obtain ⟨p, hp, rfl⟩ := List.mem_map.mp hx
    obtain ⟨k1, k2, k3⟩ := h.ok p hp
    exact ⟨_, rfl, call_is (cons_is rfl rfl (cons_is rfl rfl rfl)) (step_is k1 k2 k3 δ) rfl⟩
end K56
namespace K56
open PySem L2 Py
structure MOk (n : Nat) (rs : List Rw) : Prop where
  ne : 0 < rs.length
  le : rs.length ≤ 6
  row : ∀ r ∈ rs, RowOk n rs.length r
  e0 : ∀ r, rs[0]? = some r → r.en = []
def rowsD (rs : List Rw) : D := .tup (rs.map rowD)
def mach (cs : List Nat) (rs : List Rw) : D := .ins "Machine" [("m_value", .tup [.str (zOf cs), rowsD rs])]
theorem zlen (cs : List Nat) : (zOf cs).length = cs.length := by
  show (cs.toArray).size = _
  simp
theorem lenB_z {cs : List Nat} (h : cs.length ≤ 5) : lenB [.f (.str (zOf cs))] = some (.f (.int cs.length)) := by
  show (if (zOf cs).length ≤ cap then some (zOf cs).length else none).bind _ = _
  rw [zlen, if_pos (cap100 (by omega))]; rfl
theorem chs_z (cs : List Nat) : chs (zOf cs) = cs.map fun c => .str (sg c) := by
  unfold chs zOf sg
  simp
theorem mk7_pl : ∀ d ∈ mk7, pl 1 d = true := all_of _ ⟨rfl, rfl, by decide +kernel, rfl, by decide +kernel, rfl, rfl, True.intro⟩
theorem mkl_pl {ms : List D} (h : MkL ms) : pl 2 (.tup ms) = true := List.all_eq_true.mpr fun d hd => mk7_pl d (h d hd)
theorem rows_pl {n : Nat} {rs : List Rw} (h : MOk n rs) : pl 6 (rowsD rs) = true := List.all_eq_true.mpr fun d hd => by
  obtain ⟨r, hr, rfl⟩ := List.mem_map.mp hd
  have hR := h.row r hr
  refine List.all_eq_true.mpr fun d hd => ?_
  rcases List.mem_cons.mp hd with q | q
  · subst q; exact pl_mono (by decide) (mkl_pl hR.en)
  · rcases List.mem_cons.mp q with q | q
    · subst q
      refine List.all_eq_true.mpr fun d hd => ?_
      obtain ⟨p, hp, rfl⟩ := List.mem_map.mp hd
      refine List.all_eq_true.mpr fun d hd => ?_
      rcases List.mem_cons.mp hd with q | q
      · subst q; exact mkl_pl (hR.ok p hp).1
      · rcases List.mem_cons.mp q with q | q
        · subst q; rfl
        · cases q
    · cases q
theorem init_is {cs : List Nat} {rs : List Rw} (hs : SgOk cs) (hm : MOk cs.length rs) (x : Addr) (δ : DS) : m_Machined__initd_ x [.str (zOf cs), rowsD rs] δ = some ([(("m_value" : PySem.Str), D.tup [.str (zOf cs), rowsD rs])], δ) := by
  have h5 := subs_len cs hs.sub
  have hpos : 0 < cs.length := List.length_pos_iff.mpr hs.ne
  unfold m_Machined__initd_ fiM
  show (mb_Machined__initd_ [some (.o (.obj x "Machine" [])), some (.f (.str (zOf cs))), some (.f (rowsD rs)), none, none] δ).bind _ = _
  unfold mb_Machined__initd_
  have l1 : sB lenB (vCons (sVar 1) vNil) [some (.o (.obj x "Machine" [])), some (.f (.str (zOf cs))), some (.f (rowsD rs)), none, none] δ = some (.f (.int cs.length), δ) := b_is (vcons_is rfl rfl) (lenB_z h5)
  have k1 : sIfS (tOrM (tNotM (sTest (sIsi .str (sVar 1)))) (tNotM (sTest (sChain leI leI (sC (.int 1)) (sB lenB (vCons (sVar 1) (vNil))) (sC (.int 8)))))) (sNo) (sNop) [some (.o (.obj x "Machine" [])), some (.f (.str (zOf cs))), some (.f (rowsD rs)), none, none] δ = some (.nx [some (.o (.obj x "Machine" [])), some (.f (.str (zOf cs))), some (.f (rowsD rs)), none, none] δ) := by
    rw [if_f (δ1 := δ) ((tOr_f (δ1 := δ) (tNot_is (c := true) (δ1 := δ) rfl)).trans (tNot_is (c := true) (sTest_is ((chain_is (δ1 := δ) rfl l1 rfl).trans (by rw [decide_eq_true (show (1 : Int) ≤ (cs.length : Int) by omega), decide_eq_true (show (cs.length : Int) ≤ 8 by omega)]; rfl)))))]
    rfl
  rw [seq_nx k1]
  have k2 : sIfS (tOrM (tNotM (sTest (sB allB (vCons (sLc (mIt (sVar 1)) (gNm 3) (tYesM) (sCall m_is_letter (aCons (sVar 3) (aNil))) [3]) (vNil))))) (tNotM (sTest (sCall m_is_ascending (aCons (sVar 1) (aNil)))))) (sNo) (sNop) [some (.o (.obj x "Machine" [])), some (.f (.str (zOf cs))), some (.f (rowsD rs)), none, none] δ = some (.nx [some (.o (.obj x "Machine" [])), some (.f (.str (zOf cs))), some (.f (rowsD rs)), none, none] δ) := by
    rw [if_f (δ1 := δ) ((tOr_f (δ1 := δ) (tNot_is (c := true) (sTest_is (all_lc (ds := cs.map fun c => .str (sg c)) (l := false) (by
      show some ((chs (zOf cs), false), δ) = _
      rw [chs_z]) (by rw [List.length_map]; exact cap100 (by omega)) fun y hy => by
        obtain ⟨c, hc, rfl⟩ := List.mem_map.mp hy
        exact ⟨_, rfl, call_is (cons_is rfl rfl rfl) (let_ok c (sub_in hs.sub c hc) δ) rfl⟩)))).trans (tNot_is (c := true) (sTest_is (call_is (cons_is rfl rfl rfl) (asc_ok cs hs.sub δ) rfl))))]
    rfl
  rw [seq_nx k2]
  have k3 : sIfS (tOrM (tNotM (sTest (sIsi .tup (sVar 2)))) (tNotM (sTest (sB allB (vCons (sLc (mIt (sVar 2)) (gNm 4) (tYesM) (sCall m_is_row (aCons (sVar 4) (aCons (sB lenB (vCons (sVar 1) (vNil))) (aCons (sB lenB (vCons (sVar 2) (vNil))) (aNil))))) [4]) (vNil)))))) (sNo) (sNop) [some (.o (.obj x "Machine" [])), some (.f (.str (zOf cs))), some (.f (rowsD rs)), none, none] δ = some (.nx [some (.o (.obj x "Machine" [])), some (.f (.str (zOf cs))), some (.f (rowsD rs)), none, none] δ) := by
    rw [if_f (δ1 := δ) ((tOr_f (δ1 := δ) (tNot_is (c := true) (δ1 := δ) rfl)).trans (tNot_is (c := true) (sTest_is (all_lc (ds := rs.map rowD) (l := false) rfl (by rw [List.length_map]; have := hm.le; exact cap100 (by omega)) fun y hy => by
        obtain ⟨r, hr, rfl⟩ := List.mem_map.mp hy
        refine ⟨_, rfl, call_is (ds := [rowD r, .int cs.length, .int rs.length]) (cons_is (b := .f (rowD r)) rfl rfl (cons_is (b := .f (.int cs.length)) (b_is (vcons_is rfl rfl) (lenB_z h5)) rfl (cons_is (b := .f (.int rs.length)) (b_is (vcons_is rfl rfl) ?_) rfl rfl))) (row_is (hm.row r hr) h5 δ) rfl⟩
        show some (B.f (.int ((rs.map rowD).length : Nat))) = _
        rw [List.length_map]))))]
    rfl
  rw [seq_nx k3]
  obtain ⟨r0, rt, hrs⟩ : ∃ r0 rt, rs = r0 :: rt := by
    cases rs with
    | nil => exact absurd hm.ne (by simp)
    | cons a b => exact ⟨a, b, rfl⟩
  have he0 : r0.en = [] := hm.e0 r0 (by rw [hrs]; rfl)
  have k4 : sIfS (tOrM (sTest (s2 (eqD false) (sVar 2) (sTup (aNil)))) (sTest (s2 (eqD true) (s2 ixB (s2 ixB (sVar 2) (sC (.int 0))) (sC (.int 0))) (sTup (aNil))))) (sNo) (sNop) [some (.o (.obj x "Machine" [])), some (.f (.str (zOf cs))), some (.f (rowsD rs)), none, none] δ = some (.nx [some (.o (.obj x "Machine" [])), some (.f (.str (zOf cs))), some (.f (rowsD rs)), none, none] δ) := by
    rw [if_f (δ1 := δ) ((tOr_f (δ1 := δ) (sTest_is (s2_is (b := .f (.tup [])) (z := .f (.bl false)) rfl rfl ((eqD_pl (k := 6) (by decide) false (a := .f (rowsD rs)) (b := .f (.tup [])) (rows_pl hm) rfl).trans ?_)))).trans (sTest_is (s2_is (a := .f (.tup r0.en)) (b := .f (.tup [])) (z := .f (.bl false)) (s2_is (a := .f (rowD r0)) (s2_is rfl rfl (ixB_tup (i := 0) (by rw [hrs]; rfl))) rfl (ixB_tup (i := 0) rfl)) rfl ((eqD_pl (k := 5) (by decide) true (a := .f (.tup r0.en)) (b := .f (.tup [])) (by rw [he0]; rfl) rfl).trans ?_))))]
    · rfl
    · show some (B.f (.bl (eqP (.tup (rs.map rowD)) (.tup []) != false))) = _
      rw [eqP_tup_nil (k := 6) (rows_pl hm), hrs]; rfl
    · show some (B.f (.bl (eqP (.tup r0.en) (.tup []) != true))) = _
      rw [he0, eqP_tup_nil (k := 5) rfl]; rfl
  rw [seq_nx k4]
  have k5 : sSetF 0 "Machine" "m_value" (sTup (aCons (sVar 1) (aCons (sVar 2) (aNil)))) [some (.o (.obj x "Machine" [])), some (.f (.str (zOf cs))), some (.f (rowsD rs)), none, none] δ = some (.nx [some (.o (.obj x "Machine" [("m_value", .tup [.str (zOf cs), rowsD rs])])), some (.f (.str (zOf cs))), some (.f (rowsD rs)), none, none] δ) := by
    have h0 : ownO [some (.o (.obj x "Machine" [])), some (.f (.str (zOf cs))), some (.f (rowsD rs)), none, none] 0 "Machine" = some (x, []) := by
      show (if ("Machine" : PySem.Str) = "Machine" then some (x, []) else none) = _
      rw [if_pos rfl]
    have h1 : sTup (aCons (sVar 1) (aCons (sVar 2) (aNil))) [some (.o (.obj x "Machine" [])), some (.f (.str (zOf cs))), some (.f (rowsD rs)), none, none] δ = some (.f (.tup [.str (zOf cs), rowsD rs]), δ) := rfl
    unfold sSetF
    rw [h1, Option.bind_some, h0]
    rfl
  rw [k5]
  show (if x = x ∧ ("Machine" : PySem.Str) = "Machine" then some ([(("m_value" : PySem.Str), D.tup [.str (zOf cs), rowsD rs])], δ) else none) = _
  rw [if_pos ⟨rfl, rfl⟩]
end K56
namespace K56
open PySem L2 Py
/-! ### the machine's methods -/
def valD (cs : List Nat) (rs : List Rw) : D := .tup [.str (zOf cs), rowsD rs]
theorem val_is {cs : List Nat} {rs : List Rw} {ρ : En} {i : Nat} {δ : DS} (h : sVar i ρ δ = some (.f (mach cs rs), δ)) : s1 (fldB "Machine" "m_value") (sVar i) ρ δ = some (.f (valD cs rs), δ) := by
  have e : fldB "Machine" "m_value" (.f (mach cs rs)) = some (.f (valD cs rs)) := by
    show (if ("Machine" : PySem.Str) = "Machine" then (List.lookup ("m_value" : PySem.Str) [(("m_value" : PySem.Str), D.tup [.str (zOf cs), rowsD rs])]).bind fun d => some (B.f d) else none) = _
    rw [if_pos rfl, List.lookup_cons, beq_self_eq_true]
    rfl
  unfold s1
  rw [h, Option.bind_some, e]; rfl
theorem val0_is {cs : List Nat} {rs : List Rw} {ρ : En} {i : Nat} {δ : DS} (h : sVar i ρ δ = some (.f (mach cs rs), δ)) : s2 ixB (s1 (fldB "Machine" "m_value") (sVar i)) (sC (.int 0)) ρ δ = some (.f (.str (zOf cs)), δ) := s2_is (val_is h) rfl (ixB_tup (i := 0) rfl)
theorem val1_is {cs : List Nat} {rs : List Rw} {ρ : En} {i : Nat} {δ : DS} (h : sVar i ρ δ = some (.f (mach cs rs), δ)) : s2 ixB (s1 (fldB "Machine" "m_value") (sVar i)) (sC (.int 1)) ρ δ = some (.f (rowsD rs), δ) := s2_is (val_is h) rfl (ixB_tup (i := 1) rfl)
theorem rows_at {rs : List Rw} {i : Nat} {r : Rw} (h : rs[i]? = some r) : ixB (.f (rowsD rs)) (.f (.int i)) = some (.f (rowD r)) := ixB_tup (by rw [List.getElem?_map, h]; rfl)
theorem get_is {cs : List Nat} {rs : List Rw} {i : Nat} {r : Rw} (h : rs[i]? = some r) (δ : DS) : m_Machined__getitemd_ [mach cs rs, .int i] δ = some (.f (rowD r), δ) := by
  have hl : i < rs.length := (List.getElem?_eq_some_iff.mp h).1
  refine fn_rt (b := .f (rowD r)) ?_
  show mb_Machined__getitemd_ [some (.f (mach cs rs)), some (.f (.int i))] δ = _
  unfold mb_Machined__getitemd_
  have c1 : sCall m_is_between (aCons (sVar 1) (aCons (sC (.int 0)) (aCons (s2 subI (sB lenB (vCons (s2 ixB (s1 (fldB "Machine" "m_value") (sVar 0)) (sC (.int 1))) (vNil))) (sC (.int 1))) (aNil)))) [some (.f (mach cs rs)), some (.f (.int i))] δ = some (.f (.bl true), δ) := by
    refine call_is (cons_is (b := .f (.int i)) rfl rfl (cons_is (b := .f (.int 0)) rfl rfl (cons_is (b := .f (.int ((rs.length : Int) - 1))) (s2_is (b_is (z := .f (.int rs.length)) (vcons_is (val1_is rfl) rfl) ?_) rfl rfl) rfl rfl))) ((btw_is _ _ _ δ).trans ?_) rfl
    · show some (B.f (.int ((rs.map rowD).length : Nat))) = _
      rw [List.length_map]
    · rw [decide_eq_true (show (0 : Int) ≤ (i : Int) by omega), decide_eq_true (show (i : Int) ≤ (rs.length : Int) - 1 by omega)]
      rfl
  rw [seq_nx (ρ1 := [some (.f (mach cs rs)), some (.f (.int i))]) (δ1 := δ) ((if_f (δ1 := δ) (tNot_is (c := true) (sTest_is c1))).trans rfl)]
  exact ret_is (b := .f (rowD r)) (s2_is (val1_is rfl) rfl (rows_at h))
theorem oix_is {cs : List Nat} {rs : List Rw} {i : Nat} {r : Rw} (h : rs[i]? = some r) {ma mb : Me} {ρ : En} {δ : DS} (ha : ma ρ δ = some (.f (mach cs rs), δ)) (hb : mb ρ δ = some (.f (.int i), δ)) : sOix "Machine" m_Machined__getitemd_ ma mb ρ δ = some (.f (rowD r), δ) := by
  unfold sOix
  rw [ha, Option.bind_some]
  show (if ("Machine" : PySem.Str) = "Machine" then (mb ρ δ).bind fun r => if r.1.isW then none else (m_Machined__getitemd_ [mach cs rs, r.1.d] r.2).bind fun q => if q.1.isW then none else some q else none) = _
  rw [if_pos rfl, hb, Option.bind_some]
  show (m_Machined__getitemd_ [mach cs rs, .int i] δ).bind _ = _
  rw [get_is h]; rfl
theorem mth_is {cs : List Nat} {rs : List Rw} {mn : PySem.Str} {m : Fn} {ma : Me} {ms : MeL} {ρ : En} {δ δ1 δ2 : DS} {ds : List D} {b : B} (hn : (mn == ("m_value" : PySem.Str)) = false) (ha : ma ρ δ = some (.f (mach cs rs), δ)) (hb : ms ρ δ = some (ds, δ1)) (hm : m (mach cs rs :: ds) δ1 = some (b, δ2)) (hw : b.isW = false) : sMth "Machine" mn m ma ms ρ δ = some (b, δ2) := by
  unfold sMth
  rw [ha, Option.bind_some]
  show (if ("Machine" : PySem.Str) = "Machine" ∧ (List.lookup mn [(("m_value" : PySem.Str), D.tup [.str (zOf cs), rowsD rs])]).isNone then (ms ρ δ).bind fun r => (m (mach cs rs :: r.1) r.2).bind fun q => if q.1.isW then none else some q else none) = _
  rw [if_pos ⟨rfl, by rw [List.lookup_cons, hn]; rfl⟩, hb, Option.bind_some]
  show (m (mach cs rs :: ds) δ1).bind _ = _
  rw [hm, Option.bind_some]
  show (if b.isW = true then _ else _) = _
  rw [hw]; rfl
theorem in_is {cs : List Nat} {c : Nat} (h : c ∈ cs) (neg : Bool) : inA neg (.f (.str (sg c))) (.f (.str (zOf cs))) = some (.f (.bl (!neg))) := by
  show some (B.f (D.bl (decide (c ∈ (zOf cs).cps.toList) != neg))) = _
  rw [decide_eq_true (show c ∈ (zOf cs).cps.toList from h)]
  cases neg <;> rfl
theorem idx_ok : ∀ cs ∈ subs abc5, ∀ p ∈ cs.zipIdx, Builtin.Str.occurrences (zOf cs) (sg p.1) 0 (zOf cs).length 1 = [p.2] := by decide +kernel
theorem idx_is {cs : List Nat} (hs : cs ∈ subs abc5) {k c : Nat} (h : cs[k]? = some c) {ma mb : Me} {ρ : En} {δ : DS} (ha : ma ρ δ = some (.f (.str (zOf cs)), δ)) (hb : mb ρ δ = some (.f (.str (sg c)), δ)) : sIdx ma mb ρ δ = some (.f (.int k), δ) := by
  unfold sIdx
  rw [ha, Option.bind_some, hb, Option.bind_some]
  show (match Builtin.Str.occurrences (zOf cs) (sg c) 0 (zOf cs).length 1 with | i :: _ => some (B.f (.int (i : Nat)), δ) | [] => none) = _
  rw [idx_ok cs hs (c, k) (by
    rw [List.mem_iff_getElem?]
    exact ⟨k, by rw [List.getElem?_zipIdx, h]; simp⟩)]
theorem mstep_is {cs : List Nat} {rs : List Rw} (hs : cs ∈ subs abc5) {i k c : Nat} {r : Rw} {p : List D × Nat} (h : rs[i]? = some r) (hk : cs[k]? = some c) (hp : r.st[k]? = some p) (δ : DS) : m_Machine_step [mach cs rs, .int i, .str (sg c)] δ = some (.f (stD p), δ) := by
  refine fn_rt (b := .f (stD p)) ?_
  show mb_Machine_step [some (.f (mach cs rs)), some (.f (.int i)), some (.f (.str (sg c))), none] δ = _
  unfold mb_Machine_step
  rw [seq_nx (ρ1 := [some (.f (mach cs rs)), some (.f (.int i)), some (.f (.str (sg c))), some (.f (rowD r))]) (δ1 := δ) ((asg_is (b := .f (rowD r)) (frz_is (b := .f (rowD r)) (oix_is h rfl rfl)) rfl).trans rfl)]
  have hc : c ∈ cs := List.mem_of_getElem? hk
  rw [seq_nx (ρ1 := [some (.f (mach cs rs)), some (.f (.int i)), some (.f (.str (sg c))), some (.f (rowD r))]) (δ1 := δ) ((if_f (δ1 := δ) ((tOr_f (δ1 := δ) (tNot_is (c := true) (sTest_is (call_is (cons_is (b := .f (.str (sg c))) rfl rfl rfl) (let_ok c (sub_in hs c hc) δ) rfl)))).trans (sTest_is (s2_is (a := .f (.str (sg c))) (z := .f (.bl false)) rfl (val0_is rfl) (in_is hc true))))).trans rfl)]
  exact ret_is (b := .f (stD p)) (s2_is (s2_is (a := .f (rowD r)) (z := .f (.tup (r.st.map stD))) rfl rfl (ixB_tup (i := 1) rfl)) (idx_is hs hk (val0_is rfl) rfl) (ixB_tup (by rw [List.getElem?_map, hp]; rfl)))
theorem let_prop {cs : List Nat} {rs : List Rw} (δ : DS) : m_Machine_letters [mach cs rs] δ = some (.f (.str (zOf cs)), δ) := fn_rt (ret_is (b := .f (.str (zOf cs))) (val0_is rfl))
end K56
namespace K56
open PySem L2 Py
/-! ### play -/
theorem add_tup {x y : List D} (h : x.length + y.length ≤ cap) : addA (.f (.tup x)) (.f (.tup y)) = some (.f (.tup (x ++ y))) := by
  have e : addTup (.f (.tup x)) (.f (.tup y)) = some (.f (.tup (x ++ y))) := if_pos h
  show orB addTup addLst (.f (.tup x)) (.f (.tup y)) = _
  unfold orB
  rw [e]
theorem mrk {cs : List Nat} {rs : List Rw} (hs : SgOk cs) (hm : MOk cs.length rs) {i k : Nat} {r : Rw} (h : rs[i]? = some r) (hk : k < cs.length) : ∃ p, r.st[k]? = some p ∧ MkL p.1 ∧ p.1.length ≤ 4 ∧ p.2 < rs.length := by
  have hr := hm.row r (List.mem_of_getElem? h)
  have hk2 : k < r.st.length := by rw [hr.st]; exact hk
  exact ⟨r.st[k], List.getElem?_eq_getElem hk2, hr.ok _ (List.getElem_mem hk2)⟩
theorem play1 {cs ws0 : List Nat} {rs : List Rw} (δ : DS) : ∀ (ws : List Nat) (k : Nat) (x y : Option B), (∀ c ∈ ws, c ∈ cs) → ∃ x' y', forF (gTp (gCn (gNm 2) (gCn (gNm 3) (gNl)))) (sIfS (sTest (s2 (inA true) (sVar 3) (s2 ixB (s1 (fldB "Machine" "m_value") (sVar 0)) (sC (.int 0))))) (sNo) (sNop)) (enumD k (ws.map fun c => .str (sg c))) [some (.f (mach cs rs)), some (.f (.str (zOf ws0))), x, y, none, none, none] δ = some (.nx [some (.f (mach cs rs)), some (.f (.str (zOf ws0))), x', y', none, none, none] δ)
  | [], k, x, y, _ => ⟨x, y, rfl⟩
  | c :: ws, k, x, y, h => by
    obtain ⟨x', y', e⟩ := play1 (cs := cs) (ws0 := ws0) (rs := rs) δ ws (k + 1) (some (.f (.int k))) (some (.f (.str (sg c)))) fun d hd => h d (List.mem_cons_of_mem _ hd)
    refine ⟨x', y', ?_⟩
    show forF _ _ (.tup [.int k, .str (sg c)] :: enumD (k + 1) (ws.map fun c => .str (sg c))) _ _ = _
    rw [for_cons (ρ1 := [some (.f (mach cs rs)), some (.f (.str (zOf ws0))), some (.f (.int k)), some (.f (.str (sg c))), none, none, none]) (ρ2 := [some (.f (mach cs rs)), some (.f (.str (zOf ws0))), some (.f (.int k)), some (.f (.str (sg c))), none, none, none]) (δ1 := δ) rfl ((if_f (δ1 := δ) (sTest_is (s2_is (a := .f (.str (sg c))) (z := .f (.bl false)) rfl (val0_is rfl) (in_is (h c (List.mem_cons_self ..)) true)))).trans rfl)]
    exact e
theorem play2 {cs ws0 : List Nat} {rs : List Rw} (hs : SgOk cs) (hm : MOk cs.length rs) (x : Option B) (δ : DS) : ∀ (ws : List Nat) (ms : List D) (i : Nat) (y s : Option B), (∀ c ∈ ws, c ∈ cs) → i < rs.length → MkL ms → ms.length + 4 * ws.length ≤ 100 → ∃ ms' i' y' s', forF (gNm 3) (sSeq (sAsgT (gTp (gCn (gNm 6) (gCn (gNm 5) (gNl)))) (sMth "Machine" "step" m_Machine_step (sVar 0) (aCons (sVar 5) (aCons (sVar 3) (aNil))))) (sAsg 4 (sFrz (s2 addA (sVar 4) (sVar 6))))) (ws.map fun c => .str (sg c)) [some (.f (mach cs rs)), some (.f (.str (zOf ws0))), x, y, some (.f (.tup ms)), some (.f (.int i)), s] δ = some (.nx [some (.f (mach cs rs)), some (.f (.str (zOf ws0))), x, y', some (.f (.tup ms')), some (.f (.int (i' : Nat))), s'] δ) ∧ i' < rs.length ∧ MkL ms' ∧ ms'.length ≤ ms.length + 4 * ws.length
  | [], ms, i, y, s, _, hi, hM, hl => ⟨ms, i, y, s, rfl, hi, hM, by simp⟩
  | c :: ws, ms, i, y, s, h, hi, hM, hl => by
    have hc : c ∈ cs := h c (List.mem_cons_self ..)
    obtain ⟨k, hk, hck⟩ := List.getElem_of_mem hc
    have hr := List.getElem?_eq_getElem hi
    obtain ⟨p, hp, p1, p2, p3⟩ := mrk hs hm hr hk
    have hck' : cs[k]? = some c := by rw [List.getElem?_eq_getElem hk, hck]
    rw [List.length_cons] at hl
    obtain ⟨ms', i', y', s', e, e1, e2, e3⟩ := play2 (ws0 := ws0) hs hm x δ ws (ms ++ p.1) p.2 (some (.f (.str (sg c)))) (some (.f (.tup p.1))) (fun d hd => h d (List.mem_cons_of_mem _ hd)) p3 (hM.app p1) (by rw [List.length_append]; omega)
    refine ⟨ms', i', y', s', ?_, e1, e2, ?_⟩
    · rw [List.map_cons]
      have k1 : sAsgT (gTp (gCn (gNm 6) (gCn (gNm 5) (gNl)))) (sMth "Machine" "step" m_Machine_step (sVar 0) (aCons (sVar 5) (aCons (sVar 3) (aNil)))) [some (.f (mach cs rs)), some (.f (.str (zOf ws0))), x, some (.f (.str (sg c))), some (.f (.tup ms)), some (.f (.int i)), s] δ = some (.nx [some (.f (mach cs rs)), some (.f (.str (zOf ws0))), x, some (.f (.str (sg c))), some (.f (.tup ms)), some (.f (.int p.2)), some (.f (.tup p.1))] δ) := by
        unfold sAsgT
        rw [mth_is (mn := "step") (by decide +kernel) rfl (cons_is (b := .f (.int i)) rfl rfl (cons_is (b := .f (.str (sg c))) rfl rfl rfl)) (mstep_is hs.sub hr hck' hp δ) rfl]
        rfl
      have k2 : sAsg 4 (sFrz (s2 addA (sVar 4) (sVar 6))) [some (.f (mach cs rs)), some (.f (.str (zOf ws0))), x, some (.f (.str (sg c))), some (.f (.tup ms)), some (.f (.int p.2)), some (.f (.tup p.1))] δ = some (.nx [some (.f (mach cs rs)), some (.f (.str (zOf ws0))), x, some (.f (.str (sg c))), some (.f (.tup (ms ++ p.1))), some (.f (.int p.2)), some (.f (.tup p.1))] δ) := by
        refine (asg_is (b := .f (.tup (ms ++ p.1))) (frz_is (b := .f (.tup (ms ++ p.1))) (s2_is (a := .f (.tup ms)) (b := .f (.tup p.1)) rfl rfl (add_tup (cap100 (by omega))))) rfl).trans rfl
      rw [for_cons (ρ1 := [some (.f (mach cs rs)), some (.f (.str (zOf ws0))), x, some (.f (.str (sg c))), some (.f (.tup ms)), some (.f (.int i)), s]) (ρ2 := [some (.f (mach cs rs)), some (.f (.str (zOf ws0))), x, some (.f (.str (sg c))), some (.f (.tup (ms ++ p.1))), some (.f (.int p.2)), some (.f (.tup p.1))]) (δ1 := δ) rfl ((seq_nx k1).trans k2)]
      exact e
    · rw [List.length_append] at e3
      rw [List.length_cons]
      omega
theorem play_is {cs ws : List Nat} {rs : List Rw} (hs : SgOk cs) (hm : MOk cs.length rs) (hw : ∀ c ∈ ws, c ∈ cs) (hl : ws.length ≤ 7) (δ : DS) : ∃ ms, MkL ms ∧ ms.length ≤ 32 ∧ m_Machine_play [mach cs rs, .str (zOf ws)] δ = some (.f (.tup ms), δ) := by
  obtain ⟨x, y, e1⟩ := play1 (cs := cs) (ws0 := ws) (rs := rs) δ ws 0 none none hw
  obtain ⟨ms, i, y', s', e2, hi, hM, hl2⟩ := play2 (ws0 := ws) hs hm x δ ws [] 0 y none hw hm.ne MkL.nil (by simp; omega)
  have hr := List.getElem?_eq_getElem hi
  have hro := hm.row _ (List.getElem_mem hi)
  have hen := hro.el
  have hl3 : ms.length ≤ 28 := by simp at hl2; omega
  refine ⟨ms ++ rs[i].en, hM.app hro.en, by rw [List.length_append]; omega, fn_rt (b := .f (.tup (ms ++ rs[i].en))) ?_⟩
  show mb_Machine_play [some (.f (mach cs rs)), some (.f (.str (zOf ws))), none, none, none, none, none] δ = _
  unfold mb_Machine_play
  rw [seq_nx (ρ1 := [some (.f (mach cs rs)), some (.f (.str (zOf ws))), none, none, none, none, none]) (δ1 := δ) ((if_f (δ1 := δ) (tNot_is (c := true) (δ1 := δ) rfl)).trans rfl)]
  have f1 : sFor (mEnum (sVar 1)) (gTp (gCn (gNm 2) (gCn (gNm 3) (gNl)))) (sIfS (sTest (s2 (inA true) (sVar 3) (s2 ixB (s1 (fldB "Machine" "m_value") (sVar 0)) (sC (.int 0))))) (sNo) (sNop)) [some (.f (mach cs rs)), some (.f (.str (zOf ws))), none, none, none, none, none] δ = some (.nx [some (.f (mach cs rs)), some (.f (.str (zOf ws))), x, y, none, none, none] δ) := by
    refine (sFor_is (ds := enumD 0 (ws.map fun c => .str (sg c))) (δ1 := δ) ?_).trans e1
    show some ((enumD 0 (chs (zOf ws)), false), δ) = _
    rw [chs_z]
  rw [seq_nx f1]
  have f2 : sPar [4, 5] (bCons (sTup (aNil)) (bCons (sC (.int 0)) (bNil))) [some (.f (mach cs rs)), some (.f (.str (zOf ws))), x, y, none, none, none] δ = some (.nx [some (.f (mach cs rs)), some (.f (.str (zOf ws))), x, y, some (.f (.tup [])), some (.f (.int 0)), none] δ) := rfl
  rw [seq_nx f2]
  have f3 : sFor (mIt (sVar 1)) (gNm 3) (sSeq (sAsgT (gTp (gCn (gNm 6) (gCn (gNm 5) (gNl)))) (sMth "Machine" "step" m_Machine_step (sVar 0) (aCons (sVar 5) (aCons (sVar 3) (aNil))))) (sAsg 4 (sFrz (s2 addA (sVar 4) (sVar 6))))) [some (.f (mach cs rs)), some (.f (.str (zOf ws))), x, y, some (.f (.tup [])), some (.f (.int 0)), none] δ = some (.nx [some (.f (mach cs rs)), some (.f (.str (zOf ws))), x, y', some (.f (.tup ms)), some (.f (.int (i : Nat))), s'] δ) := by
    refine (sFor_is (ds := ws.map fun c => .str (sg c)) (δ1 := δ) ?_).trans e2
    show some ((chs (zOf ws), false), δ) = _
    rw [chs_z]
  rw [seq_nx f3]
  exact ret_is (b := .f (.tup (ms ++ rs[i].en))) (s2_is (a := .f (.tup ms)) (b := .f (.tup rs[i].en)) rfl (s2_is (a := .f (rowD rs[i])) (s2_is (val1_is rfl) (b := .f (.int i)) rfl (rows_at hr)) rfl (ixB_tup (i := 0) rfl)) (add_tup (cap100 (by omega))))
end K56
namespace K56
open PySem L2 Py
/-! ### _law_marks -/
def menus : List D := [.lst [.int 0], .lst [.int 0, .int 1], .lst [.int 0, .int 1, .str "a"], .lst [.int 0, .non, .str "a", .tup [.int 1, .str "b"], .tup []]]
theorem mkl_of {l : List D} (h : l.foldr (fun a p => a ∈ mk7 ∧ p) True) : MkL l := all_of (Pr := fun a => a ∈ mk7) l h
theorem menu_ok : ∀ d ∈ menus, ∃ ds, d = .lst ds ∧ ds ≠ [] ∧ ds.length ≤ 5 ∧ MkL ds := all_of _ ⟨⟨_, rfl, by simp, by decide, mkl_of (by simp [mk7])⟩, ⟨_, rfl, by simp, by decide, mkl_of (by simp [mk7])⟩, ⟨_, rfl, by simp, by decide, mkl_of (by simp [mk7])⟩, ⟨_, rfl, by simp, by decide, mkl_of (by simp [mk7])⟩, True.intro⟩
theorem lst_is {ms : MeL} {ρ : En} {δ δ1 : DS} {ds : List D} (h : ms ρ δ = some (ds, δ1)) (hl : ds.length ≤ cap) : sLst ms ρ δ = some (.o (.lst ds), δ1) := by
  unfold sLst
  rw [h, Option.bind_some]
  exact if_pos hl
theorem tupm_is {ms : MeL} {ρ : En} {δ δ1 : DS} {ds : List D} (h : ms ρ δ = some (ds, δ1)) (hl : ds.length ≤ cap) : sTup ms ρ δ = some (.f (.tup ds), δ1) := by
  unfold sTup
  rw [h, Option.bind_some]
  exact if_pos hl
theorem c_is {d : D} {ms : MeL} {ρ : En} {δ δ1 : DS} {ds : List D} (h : ms ρ δ = some (ds, δ1)) : aCons (sC d) ms ρ δ = some (d :: ds, δ1) := cons_is (b := .f d) rfl rfl h
theorem menus_is (ρ : En) (δ : DS) : sLst (aCons (sLst (aCons (sC (.int 0)) (aNil))) (aCons (sLst (aCons (sC (.int 0)) (aCons (sC (.int 1)) (aNil)))) (aCons (sLst (aCons (sC (.int 0)) (aCons (sC (.int 1)) (aCons (sC (.str "a")) (aNil))))) (aCons (sLst (aCons (sC (.int 0)) (aCons (sC .non) (aCons (sC (.str "a")) (aCons (sTup (aCons (sC (.int 1)) (aCons (sC (.str "b")) (aNil)))) (aCons (sTup (aNil)) (aNil))))))) (aNil))))) ρ δ = some (.o (.lst menus), δ) :=
  lst_is (cons_is (b := .o (.lst [.int 0])) (lst_is (c_is rfl) (cap4 (by simp))) rfl (cons_is (b := .o (.lst [.int 0, .int 1])) (lst_is (c_is (c_is rfl)) (cap4 (by simp))) rfl (cons_is (b := .o (.lst [.int 0, .int 1, .str "a"])) (lst_is (c_is (c_is (c_is rfl))) (cap4 (by simp))) rfl (cons_is (b := .o (.lst [.int 0, .non, .str "a", .tup [.int 1, .str "b"], .tup []])) (lst_is (c_is (c_is (c_is (cons_is (b := .f (.tup [.int 1, .str "b"])) (tupm_is (c_is (c_is rfl)) (cap4 (by simp))) rfl (cons_is (b := .f (.tup [])) (tupm_is (ds := []) rfl (Nat.zero_le _)) rfl rfl))))) (cap100 (by simp))) rfl rfl)))) (cap4 (show 4 ≤ 4 by omega))
theorem marks_ok {δ : DS} (ok : DOk δ) : ∃ ms δ', MkL ms ∧ ms.length ≤ 2 ∧ m__law_marks [.drw, .int 2] δ = some (.f (.tup ms), δ') ∧ DOk δ' := by
  obtain ⟨x, δ1, hx, e1, ok1⟩ := pick_lst (ds := menus) ok (by simp [menus]) (by decide)
  obtain ⟨ds, rfl, hne, hl5, hM⟩ := menu_ok x hx
  obtain ⟨r, δ2, e2, hr, ok2⟩ := take_ok (n := 3) ok1 (by decide) (by decide)
  obtain ⟨ys, δ3, f1, f2, f3, ok3⟩ := lc_all (mg := gNm 3) (mt := tYesM) (me := sCall m__law_pick (aCons (sVar 0) (aCons (sVar 2) (aNil)))) (ρ := wipeE [some (.f .drw), some (.f (.int 2)), some (.f (.lst ds)), none] [3]) (fun y => y ∈ mk7) DOk (rngD 0 ((r : Int)).toNat) (fun x hx δ hδ => by
    obtain ⟨y, δ', hy, e, ok'⟩ := pick_lst (ds := ds) hδ hne (by omega)
    exact ⟨_, .f y, δ', rfl, rfl, call_is (b := .f y) (cons_is (b := .f .drw) rfl rfl (cons_is (b := .f (.lst ds)) rfl rfl rfl)) (by rw [pick_eq]; exact e) rfl, rfl, hM y hy, ok'⟩) δ2 ok2
  rw [rngD_len, Int.toNat_natCast] at f2
  refine ⟨ys, δ3, f3, by omega, fn_rt (b := .f (.tup ys)) ?_, ok3⟩
  show mb__law_marks [some (.f .drw), some (.f (.int 2)), none, none] δ = _
  unfold mb__law_marks
  rw [seq_nx (ρ1 := [some (.f .drw), some (.f (.int 2)), some (.f (.lst ds)), none]) (δ1 := δ1) ((asg_is (b := .f (.lst ds)) (frz_is (b := .f (.lst ds)) (call_is (b := .f (.lst ds)) (ds := [.drw, .lst menus]) (cons_is (b := .f .drw) rfl rfl (cons_is (b := .o (.lst menus)) (menus_is _ _) rfl rfl)) (by rw [pick_eq]; exact e1) rfl)) rfl).trans rfl)]
  have hi : mRng1 (aCons (sCall m__law_take (aCons (sVar 0) (aCons (s2 addA (sVar 1) (sC (.int 1))) (aNil)))) (aNil)) [some (.f .drw), some (.f (.int 2)), some (.f (.lst ds)), none] δ1 = some ((rngD 0 ((r : Int)).toNat, false), δ2) := rng1_is (cons_is (b := .f (.int r)) (call_is (ds := [.drw, .int 3]) (cons_is (b := .f .drw) rfl rfl (cons_is (b := .f (.int 3)) rfl rfl rfl)) (by rw [take_eq]; exact e2) rfl) rfl rfl) (by omega) (by omega)
  exact ret_is (b := .f (.tup ys)) (b_is (bs := [.o (.lst ys)]) (vcons_is (lc_is (own := [3]) hi (by rw [rngD_len, Int.toNat_natCast]; exact cap100 (by omega)) f1) rfl) rfl)
/-! ### _law_lists -/
theorem rngD_succ (lo : Int) (n : Nat) : rngD lo (n + 1) = .int lo :: rngD (lo + 1) n := by
  unfold rngD
  rw [List.range_succ_eq_map, List.map_cons, List.map_map]
  congr 1
  · simp
  · apply List.map_congr_left
    intro i _
    simp only [Function.comp]
    congr 1
    omega
theorem stD_map {P : List D × Nat → Prop} : ∀ {ys : List D}, (∀ y ∈ ys, ∃ p, y = stD p ∧ P p) → ∃ ps : List (List D × Nat), ys = ps.map stD ∧ ∀ p ∈ ps, P p
  | [], _ => ⟨[], rfl, by simp⟩
  | y :: ys, h => by
    obtain ⟨p, rfl, hp⟩ := h y (List.mem_cons_self ..)
    obtain ⟨ps, rfl, hps⟩ := stD_map fun z hz => h z (List.mem_cons_of_mem _ hz)
    refine ⟨p :: ps, rfl, fun q hq => ?_⟩
    rcases List.mem_cons.mp hq with z | z
    · subst z; exact hp
    · exact hps q z
def frontM : Me := sIf (tAndM (sTest (s2 gtA (sVar 4) (sC (.int 0)))) (sTest (s2 (eqD false) (sCall m__law_take (aCons (sVar 0) (aCons (sC (.int 2)) (aNil)))) (sC (.int 0))))) (sCall m__law_marks (aCons (sVar 0) (aCons (sC (.int 2)) (aNil)))) (sTup (aNil))
def stepsM : Me := sB tupB (vCons (sLc (mRng1 (aCons (sVar 1) (aNil))) (gNm 7) (tYesM) (sTup (aCons (s2 addA (sVar 5) (sCall m__law_marks (aCons (sVar 0) (aCons (sC (.int 2)) (aNil))))) (aCons (sCall m__law_take (aCons (sVar 0) (aCons (sVar 2) (aNil)))) (aNil)))) [7]) (vNil))
def endM : Me := sIf (tAndM (sTest (s2 gtA (sVar 4) (sC (.int 0)))) (fun _ δ => some (true, δ))) (s2 addA (sVar 5) (sCall m__law_marks (aCons (sVar 0) (aCons (sC (.int 2)) (aNil))))) (sTup (aNil))
theorem gt_is {ma : Me} {ρ : En} {δ : DS} {i : Nat} (h : ma ρ δ = some (.f (.int i), δ)) : sTest (s2 gtA ma (sC (.int 0))) ρ δ = some (decide (0 < i), δ) := by
  refine sTest_is (s2_is (b := .f (.int 0)) (z := .f (.bl (decide (0 < i)))) h rfl ?_)
  show some (B.f (.bl (decide ((i : Int) > 0)))) = _
  congr 3
  simp
theorem mcall {ρ : En} {δ δ' : DS} {ms : List D} (h : sVar 0 ρ δ = some (.f .drw, δ)) (e : m__law_marks [.drw, .int 2] δ = some (.f (.tup ms), δ')) : sCall m__law_marks (aCons (sVar 0) (aCons (sC (.int 2)) (aNil))) ρ δ = some (.f (.tup ms), δ') := call_is (ds := [.drw, .int 2]) (cons_is (b := .f .drw) h rfl (cons_is (b := .f (.int 2)) rfl rfl rfl)) e rfl
theorem row_ok {n m : Nat} (hn : n ≤ 5) (hm0 : 0 < m) (hm : m ≤ 6) (k : Nat) (fs : List D) (f5 f6 f7 : Option B) {δ : DS} (ok : DOk δ) : ∃ r f5' f6' δ', RowOk n m r ∧ (k = 0 → r.en = []) ∧ (fs.length ≤ 100 → sSeq (sAsg 5 (sFrz frontM)) (sSeq (sAsg 6 (sFrz stepsM)) (sApp 3 (aCons (sTup (aCons (sIf (sTest (s2 gtA (sVar 4) (sC (.int 0)))) (s2 addA (sVar 5) (sCall m__law_marks (aCons (sVar 0) (aCons (sC (.int 2)) (aNil))))) (sTup (aNil))) (aCons (sVar 6) (aNil)))) (aNil)))) [some (.f .drw), some (.f (.int n)), some (.f (.int m)), some (.o (.lst fs)), some (.f (.int k)), f5, f6, f7] δ = some (.nx [some (.f .drw), some (.f (.int n)), some (.f (.int m)), some (.o (.lst (fs ++ [rowD r]))), some (.f (.int k)), f5', f6', f7] δ')) ∧ DOk δ' := by
  -- front
  obtain ⟨fr, δ1, hf, hfl, e1, ok1⟩ : ∃ fr δ1, MkL fr ∧ fr.length ≤ 2 ∧ frontM [some (.f .drw), some (.f (.int n)), some (.f (.int m)), some (.o (.lst fs)), some (.f (.int k)), f5, f6, f7] δ = some (.f (.tup fr), δ1) ∧ DOk δ1 := by
    have g1 := gt_is (ma := sVar 4) (ρ := [some (.f .drw), some (.f (.int n)), some (.f (.int m)), some (.o (.lst fs)), some (.f (.int k)), f5, f6, f7]) (δ := δ) (i := k) rfl
    by_cases hk : 0 < k
    · rw [decide_eq_true hk] at g1
      obtain ⟨r, δ1, e, hr, ok1⟩ := take_ok (n := 2) ok (by decide) (by decide)
      have g2 : sTest (s2 (eqD false) (sCall m__law_take (aCons (sVar 0) (aCons (sC (.int 2)) (aNil)))) (sC (.int 0))) [some (.f .drw), some (.f (.int n)), some (.f (.int m)), some (.o (.lst fs)), some (.f (.int k)), f5, f6, f7] δ = some (((r : Int) == 0) != false, δ1) := sTest_is (s2_is (a := .f (.int r)) (b := .f (.int 0)) (call_is (ds := [.drw, .int 2]) (cons_is (b := .f .drw) rfl rfl (cons_is (b := .f (.int 2)) rfl rfl rfl)) (by rw [take_eq]; exact e) rfl) rfl (eqD_int _ _ _))
      cases hq : (((r : Int) == 0) != false) with
      | true =>
        rw [hq] at g2
        obtain ⟨ms, δ2, a, b, c, d⟩ := marks_ok ok1
        exact ⟨ms, δ2, a, b, (sIf_t ((tAnd_t g1).trans g2)).trans (mcall rfl c), d⟩
      | false =>
        rw [hq] at g2
        exact ⟨[], δ1, MkL.nil, Nat.zero_le _, (sIf_f ((tAnd_t g1).trans g2)).trans rfl, ok1⟩
    · rw [decide_eq_false hk] at g1
      exact ⟨[], δ, MkL.nil, Nat.zero_le _, (sIf_f (tAnd_f g1)).trans rfl, ok⟩
  -- steps
  obtain ⟨ys, δ2, s1, s2', s3, ok2⟩ := lc_all (mg := gNm 7) (mt := tYesM) (me := sTup (aCons (s2 addA (sVar 5) (sCall m__law_marks (aCons (sVar 0) (aCons (sC (.int 2)) (aNil))))) (aCons (sCall m__law_take (aCons (sVar 0) (aCons (sVar 2) (aNil)))) (aNil)))) (ρ := wipeE [some (.f .drw), some (.f (.int n)), some (.f (.int m)), some (.o (.lst fs)), some (.f (.int k)), some (.f (.tup fr)), f6, f7] [7]) (fun y => ∃ p, y = stD p ∧ MkL p.1 ∧ p.1.length ≤ 4 ∧ p.2 < m) DOk (rngD 0 ((n : Int)).toNat) (fun x hx δ hδ => by
    obtain ⟨ms, δ2, a, b, c, d⟩ := marks_ok hδ
    obtain ⟨r, δ3, e, hr, ok3⟩ := take_ok (n := (m : Int)) d (by omega) (by omega)
    refine ⟨_, .f (stD (fr ++ ms, r)), δ3, rfl, rfl, ?_, rfl, ⟨(fr ++ ms, r), rfl, hf.app a, by rw [List.length_append]; omega, by omega⟩, ok3⟩
    have q1 : aCons (s2 addA (sVar 5) (sCall m__law_marks (aCons (sVar 0) (aCons (sC (.int 2)) (aNil))))) (aCons (sCall m__law_take (aCons (sVar 0) (aCons (sVar 2) (aNil)))) (aNil)) [some (.f .drw), some (.f (.int n)), some (.f (.int m)), some (.o (.lst fs)), some (.f (.int k)), some (.f (.tup fr)), f6, some (.f x)] δ = some ([.tup (fr ++ ms), .int r], δ3) := cons_is (b := .f (.tup (fr ++ ms))) (s2_is (a := .f (.tup fr)) rfl (mcall rfl c) (add_tup (cap100 (by omega)))) rfl (cons_is (b := .f (.int r)) (call_is (ds := [.drw, .int m]) (cons_is (b := .f .drw) rfl rfl (cons_is (b := .f (.int m)) rfl rfl rfl)) (by rw [take_eq]; exact e) rfl) rfl rfl)
    unfold sTup
    show Option.bind (aCons _ _ [some (.f .drw), some (.f (.int n)), some (.f (.int m)), some (.o (.lst fs)), some (.f (.int k)), some (.f (.tup fr)), f6, some (.f x)] δ) _ = _
    rw [q1]
    rfl) δ1 ok1
  rw [rngD_len, Int.toNat_natCast] at s2'
  obtain ⟨ps, rfl, hps⟩ := stD_map s3
  have e2 : stepsM [some (.f .drw), some (.f (.int n)), some (.f (.int m)), some (.o (.lst fs)), some (.f (.int k)), some (.f (.tup fr)), f6, f7] δ1 = some (.f (.tup (ps.map stD)), δ2) := b_is (bs := [.o (.lst (ps.map stD))]) (vcons_is (lc_is (own := [7]) (rng1_is (j := (n : Int)) (cons_is (b := .f (.int n)) rfl rfl rfl) (by omega) (by omega)) (by rw [rngD_len, Int.toNat_natCast]; exact cap100 (by omega)) s1) rfl) rfl
  -- end
  obtain ⟨en, δ3, hE, hEl, hE0, e3, ok3⟩ : ∃ en δ3, MkL en ∧ en.length ≤ 4 ∧ (k = 0 → en = []) ∧ sIf (sTest (s2 gtA (sVar 4) (sC (.int 0)))) (s2 addA (sVar 5) (sCall m__law_marks (aCons (sVar 0) (aCons (sC (.int 2)) (aNil))))) (sTup (aNil)) [some (.f .drw), some (.f (.int n)), some (.f (.int m)), some (.o (.lst fs)), some (.f (.int k)), some (.f (.tup fr)), some (.f (.tup (ps.map stD))), f7] δ2 = some (.f (.tup en), δ3) ∧ DOk δ3 := by
    have g1 := gt_is (ma := sVar 4) (ρ := [some (.f .drw), some (.f (.int n)), some (.f (.int m)), some (.o (.lst fs)), some (.f (.int k)), some (.f (.tup fr)), some (.f (.tup (ps.map stD))), f7]) (δ := δ2) (i := k) rfl
    by_cases hk : 0 < k
    · rw [decide_eq_true hk] at g1
      obtain ⟨ms, δ3, a, b, c, d⟩ := marks_ok ok2
      exact ⟨fr ++ ms, δ3, hf.app a, by rw [List.length_append]; omega, by omega, (sIf_t g1).trans (s2_is (a := .f (.tup fr)) rfl (mcall rfl c) (add_tup (cap100 (by omega)))), d⟩
    · rw [decide_eq_false hk] at g1
      exact ⟨[], δ2, MkL.nil, by simp, fun _ => rfl, (sIf_f g1).trans rfl, ok2⟩
  refine ⟨⟨en, ps⟩, some (.f (.tup fr)), some (.f (.tup (ps.map stD))), δ3, ⟨hE, hEl, by rw [← s2', List.length_map], hps⟩, hE0, fun hfs => ?_, ok3⟩
  rw [seq_nx (ρ1 := [some (.f .drw), some (.f (.int n)), some (.f (.int m)), some (.o (.lst fs)), some (.f (.int k)), some (.f (.tup fr)), f6, f7]) (δ1 := δ1) ((asg_is (b := .f (.tup fr)) (frz_is (b := .f (.tup fr)) e1) rfl).trans rfl)]
  rw [seq_nx (ρ1 := [some (.f .drw), some (.f (.int n)), some (.f (.int m)), some (.o (.lst fs)), some (.f (.int k)), some (.f (.tup fr)), some (.f (.tup (ps.map stD))), f7]) (δ1 := δ2) ((asg_is (b := .f (.tup (ps.map stD))) (frz_is (b := .f (.tup (ps.map stD))) e2) rfl).trans rfl)]
  have q1 : sTup (aCons (sIf (sTest (s2 gtA (sVar 4) (sC (.int 0)))) (s2 addA (sVar 5) (sCall m__law_marks (aCons (sVar 0) (aCons (sC (.int 2)) (aNil))))) (sTup (aNil))) (aCons (sVar 6) (aNil))) [some (.f .drw), some (.f (.int n)), some (.f (.int m)), some (.o (.lst fs)), some (.f (.int k)), some (.f (.tup fr)), some (.f (.tup (ps.map stD))), f7] δ2 = some (.f (rowD ⟨en, ps⟩), δ3) := by
    exact tupm_is (cons_is (b := .f (.tup en)) e3 rfl (cons_is (b := .f (.tup (ps.map stD))) rfl rfl rfl)) (cap4 (show 2 ≤ 4 by omega))
  unfold sApp
  show Option.bind (aCons _ aNil _ δ2) _ = _
  rw [cons_is (b := .f (rowD ⟨en, ps⟩)) q1 rfl rfl]
  show (if fs.length ≤ cap then _ else _) = _
  rw [if_pos (cap100 (by omega))]
  rfl
end K56
namespace K56
open PySem L2 Py
def appM : MeS := sApp 3 (aCons (sTup (aCons (sIf (sTest (s2 gtA (sVar 4) (sC (.int 0)))) (s2 addA (sVar 5) (sCall m__law_marks (aCons (sVar 0) (aCons (sC (.int 2)) (aNil))))) (sTup (aNil))) (aCons (sVar 6) (aNil)))) (aNil))
def rowB : MeS := sSeq (sAsg 5 (sFrz frontM)) (sSeq (sAsg 6 (sFrz stepsM)) appM)
theorem rows_loop {n m : Nat} (hn : n ≤ 5) (hm0 : 0 < m) (hm : m ≤ 6) (f7 : Option B) : ∀ (j : Nat) (rs : List Rw) (x4 f5 f6 : Option B) (δ : DS), DOk δ → rs.length + j = m → (∀ r ∈ rs, RowOk n m r) → (∀ r, rs[0]? = some r → r.en = []) →
    ∃ (rs' : List Rw) (x4' f5' f6' : Option B) (δ' : DS), forF (gNm 4) rowB (rngD rs.length j) [some (.f .drw), some (.f (.int n)), some (.f (.int m)), some (.o (.lst (rs.map rowD))), x4, f5, f6, f7] δ = some (.nx [some (.f .drw), some (.f (.int n)), some (.f (.int m)), some (.o (.lst (rs'.map rowD))), x4', f5', f6', f7] δ') ∧ rs'.length = m ∧ (∀ r ∈ rs', RowOk n m r) ∧ (∀ r, rs'[0]? = some r → r.en = []) ∧ DOk δ'
  | 0, rs, x4, f5, f6, δ, ok, hl, h1, h2 => ⟨rs, x4, f5, f6, δ, rfl, hl, h1, h2, ok⟩
  | j + 1, rs, x4, f5, f6, δ, ok, hl, h1, h2 => by
    obtain ⟨r, f5', f6', δ1, a1, a2, a3, ok1⟩ := row_ok hn hm0 hm rs.length (rs.map rowD) f5 f6 f7 ok
    have a3 := a3 (by rw [List.length_map]; omega)
    obtain ⟨rs', x4', g5, g6, δ', e, b1, b2, b3, ok2⟩ := rows_loop hn hm0 hm f7 j (rs ++ [r]) (some (.f (.int rs.length))) f5' f6' δ1 ok1 (by rw [List.length_append]; simp; omega) (fun q hq => by
      rcases List.mem_append.mp hq with z | z
      · exact h1 q z
      · rw [List.mem_singleton] at z; subst z; exact a1) (fun q hq => by
      cases rs with
      | nil =>
        simp at hq; subst hq; exact a2 rfl
      | cons y ys => exact h2 q (by simpa using hq))
    refine ⟨rs', x4', g5, g6, δ', ?_, b1, b2, b3, ok2⟩
    rw [rngD_succ, for_cons (m := rowB) (ρ1 := [some (.f .drw), some (.f (.int n)), some (.f (.int m)), some (.o (.lst (rs.map rowD))), some (.f (.int rs.length)), f5, f6, f7]) rfl a3]
    rw [List.length_append, List.map_append] at e
    exact e
theorem lists_ok {n m : Nat} (hn : n ≤ 5) (hm0 : 0 < m) (hm : m ≤ 6) {δ : DS} (ok : DOk δ) : ∃ rs δ', MOk n rs ∧ m__law_lists [.drw, .int n, .int m] δ = some (.f (rowsD rs), δ') ∧ DOk δ' := by
  obtain ⟨rs, x4, f5, f6, δ', e, b1, b2, b3, ok'⟩ := rows_loop hn hm0 hm none m [] none none none δ ok (by simp) (by simp) (by simp)
  refine ⟨rs, δ', ⟨by omega, by omega, fun r hr => by rw [b1]; exact b2 r hr, b3⟩, fn_rt (b := .f (rowsD rs)) ?_, ok'⟩
  show mb__law_lists [some (.f .drw), some (.f (.int n)), some (.f (.int m)), none, none, none, none, none] δ = _
  unfold mb__law_lists
  rw [seq_nx (ρ1 := [some (.f .drw), some (.f (.int n)), some (.f (.int m)), some (.o (.lst [])), none, none, none, none]) (δ1 := δ) ((asg_is (b := .o (.lst [])) (lst_is (ds := []) rfl (Nat.zero_le _)) rfl).trans rfl)]
  have hf : sFor (mRng1 (aCons (sVar 2) (aNil))) (gNm 4) rowB [some (.f .drw), some (.f (.int n)), some (.f (.int m)), some (.o (.lst [])), none, none, none, none] δ = some (.nx [some (.f .drw), some (.f (.int n)), some (.f (.int m)), some (.o (.lst (rs.map rowD))), x4, f5, f6, none] δ') := by
    refine (sFor_is (ds := rngD 0 ((m : Int)).toNat) (δ1 := δ) (rng1_is (j := (m : Int)) (cons_is (b := .f (.int m)) rfl rfl rfl) (by omega) (by omega))).trans ?_
    rw [Int.toNat_natCast]
    exact e
  refine (seq_nx (m := sFor (mRng1 (aCons (sVar 2) (aNil))) (gNm 4) rowB) hf).trans ?_
  exact ret_is (b := .f (.tup (rs.map rowD))) (b_is (bs := [.w (.lst (rs.map rowD))]) (vcons_is rfl rfl) rfl)
/-! ### words -/
theorem glue_sg : ∀ (ws : List Nat) (acc : Array Nat), (ws.map sg).foldl (fun acc p => acc ++ ("" : PySem.Str).cps ++ p.cps) acc = acc ++ ws.toArray
  | [], acc => by simp
  | c :: ws, acc => by
    rw [List.map_cons, List.foldl_cons, glue_sg ws]
    show acc ++ #[] ++ #[c] ++ ws.toArray = _
    simp
theorem join_all (ws : List Nat) : Txt.join "" (ws.map sg) = zOf ws := by
  show Builtin.Str.glued "" (ws.map sg) = zOf ws
  unfold Builtin.Str.glued zOf
  cases ws with
  | nil => rfl
  | cons c ws =>
    show PySem.Str.mk ((ws.map sg).foldl _ #[c]) = _
    rw [glue_sg]
    simp
theorem word_ok {cs : List Nat} (hs : SgOk cs) {ρ : En} (g0 : sVar 1 ρ = fun δ => some (.f .drw, δ)) (h8 : ∀ x : D, sVar 1 ((wipeE ρ [8]).set 8 (some (.f x))) = (fun δ => some (.f .drw, δ)) ∧ sVar 3 ((wipeE ρ [8]).set 8 (some (.f x))) = fun δ => some (.f (.str (zOf cs)), δ)) {δ : DS} (ok : DOk δ) : ∃ ws δ', (∀ c ∈ ws, c ∈ cs) ∧ ws.length ≤ 7 ∧ sJoin (sC (.str "")) (sLc (mRng1 (aCons (sCall m__law_take (aCons (sVar 1) (aCons (sC (.int 8)) (aNil)))) (aNil))) (gNm 8) (tYesM) (sCall m__law_pick (aCons (sVar 1) (aCons (sVar 3) (aNil)))) [8]) ρ δ = some (.f (.str (zOf ws)), δ') ∧ DOk δ' := by
  have h5 := subs_len cs hs.sub
  obtain ⟨r, δ1, e1, hr, ok1⟩ := take_ok (n := 8) ok (by decide) (by decide)
  obtain ⟨ys, δ2, f1, f2, f3, ok2⟩ := lc_all (mg := gNm 8) (mt := tYesM) (me := sCall m__law_pick (aCons (sVar 1) (aCons (sVar 3) (aNil)))) (ρ := wipeE ρ [8]) (fun y => ∃ c ∈ cs, y = .str (sg c)) DOk (rngD 0 ((r : Int)).toNat) (fun x hx δ hδ => by
    obtain ⟨c, δ', hc, e, ok'⟩ := pick_str (z := zOf cs) hδ hs.ne (by rw [zlen]; exact cap100 (by omega))
    exact ⟨_, .f (.str (sg c)), δ', rfl, rfl, call_is (ds := [.drw, .str (zOf cs)]) (cons_is (b := .f .drw) (congrFun (h8 x).1 _) rfl (cons_is (b := .f (.str (zOf cs))) (congrFun (h8 x).2 _) rfl rfl)) (by rw [pick_eq]; exact e) rfl, rfl, ⟨c, hc, rfl⟩, ok'⟩) δ1 ok1
  rw [rngD_len, Int.toNat_natCast] at f2
  obtain ⟨ws, rfl, hws⟩ : ∃ ws : List Nat, ys = (ws.map sg).map D.str ∧ ∀ c ∈ ws, c ∈ cs := by
    clear f1 f2
    induction ys with
    | nil => exact ⟨[], rfl, by simp⟩
    | cons y ys ih =>
      obtain ⟨c, hc, rfl⟩ := f3 y (List.mem_cons_self ..)
      obtain ⟨ws, rfl, hws⟩ := ih fun z hz => f3 z (List.mem_cons_of_mem _ hz)
      refine ⟨c :: ws, rfl, fun d hd => ?_⟩
      rcases List.mem_cons.mp hd with q | q
      · subst q; exact hc
      · exact hws d q
  rw [List.length_map, List.length_map] at f2
  refine ⟨ws, δ2, hws, by omega, ?_, ok2⟩
  have hi : mRng1 (aCons (sCall m__law_take (aCons (sVar 1) (aCons (sC (.int 8)) (aNil)))) (aNil)) ρ δ = some ((rngD 0 ((r : Int)).toNat, false), δ1) := rng1_is (cons_is (b := .f (.int r)) (call_is (ds := [.drw, .int 8]) (cons_is (b := .f .drw) (congrFun g0 _) rfl (cons_is (b := .f (.int 8)) rfl rfl rfl)) (by rw [take_eq]; exact e1) rfl) rfl rfl) (by omega) (by omega)
  have hlc := lc_is (own := [8]) hi (by rw [rngD_len, Int.toNat_natCast]; exact cap100 (by omega)) f1
  unfold sJoin
  show ((sLc _ _ _ _ _ ρ δ).bind _) = _
  rw [hlc, Option.bind_some]
  show (strsD ((ws.map sg).map D.str)).bind _ = _
  rw [strsD_map, Option.bind_some, if_pos (by
    rw [sum_sg, List.length_map]
    show ws.length + ws.length * 0 ≤ cap
    exact cap100 (by omega)), join_all]
/-! ### _law_bent -/
theorem cut_lo {ds : List D} (k : Nat) : cutD ds none (some (k : Int)) = ds.take (min k ds.length) := by
  unfold cutD
  rw [HT.sIx_none, HT.sIx_nat]; rfl
theorem cut_hi {ds : List D} (k : Nat) : cutD ds (some (k : Int)) none = ds.drop k := by
  unfold cutD
  rw [HT.sIx_none, HT.sIx_nat]
  rw [List.take_of_length_le (by rw [List.length_drop]; exact Nat.le_refl _)]
  by_cases h : k ≤ ds.length
  · rw [Nat.min_eq_left h]
  · rw [Nat.min_eq_right (by omega), List.drop_of_length_le (Nat.le_refl _), List.drop_of_length_le (by omega)]
theorem cut_mid {ds : List D} (k j : Nat) : cutD ds (some (k : Int)) (some ((k + j : Nat) : Int)) = (ds.drop k).take j := by
  unfold cutD
  rw [HT.sIx_nat, HT.sIx_nat]
  by_cases h : k ≤ ds.length
  · rw [Nat.min_eq_left h]
    by_cases h2 : k + j ≤ ds.length
    · rw [Nat.min_eq_left h2]; congr 1; omega
    · rw [Nat.min_eq_right (by omega), List.take_of_length_le (by rw [List.length_drop]; exact Nat.le_refl _), List.take_of_length_le (by rw [List.length_drop]; omega)]
  · rw [List.drop_of_length_le (show ds.length ≤ min k ds.length by omega), List.drop_of_length_le (show ds.length ≤ k by omega)]; simp
end K56
namespace K56
open PySem L2 Py
/-! ### _law_bent -/
theorem sl_lo {i : Nat} {mo : MeO} {ds : List D} {k : Nat} {ρ : En} {δ : DS} (h : sVar i ρ δ = some (.f (.tup ds), δ)) (ho : mo ρ δ = some (some (k : Int), δ)) : sSl slA (sVar i) oNo mo ρ δ = some (.f (.tup (ds.take (min k ds.length))), δ) := by
  unfold sSl
  rw [h, Option.bind_some]
  show (mo ρ δ).bind _ = _
  rw [ho, Option.bind_some]
  show some (B.f (.tup (cutD ds none (some (k : Int)))), δ) = _
  rw [cut_lo]
theorem sl_hi {i : Nat} {mo : MeO} {ds : List D} {k : Nat} {ρ : En} {δ : DS} (h : sVar i ρ δ = some (.f (.tup ds), δ)) (ho : mo ρ δ = some (some (k : Int), δ)) : sSl slA (sVar i) mo oNo ρ δ = some (.f (.tup (ds.drop k)), δ) := by
  unfold sSl
  rw [h, Option.bind_some]
  show (mo ρ δ).bind _ = _
  rw [ho, Option.bind_some]
  show some (B.f (.tup (cutD ds (some (k : Int)) none)), δ) = _
  rw [cut_hi]
theorem sl_mid {i : Nat} {mo mp : MeO} {ds : List D} {k j : Nat} {ρ : En} {δ : DS} (h : sVar i ρ δ = some (.f (.tup ds), δ)) (ho : mo ρ δ = some (some (k : Int), δ)) (hp : mp ρ δ = some (some ((k + j : Nat) : Int), δ)) : sSl slA (sVar i) mo mp ρ δ = some (.f (.tup ((ds.drop k).take j)), δ) := by
  unfold sSl
  rw [h, Option.bind_some]
  show (mo ρ δ).bind _ = _
  rw [ho, Option.bind_some]
  show (mp ρ δ).bind _ = _
  rw [hp, Option.bind_some]
  show some (B.f (.tup (cutD ds (some (k : Int)) (some ((k + j : Nat) : Int)))), δ) = _
  rw [cut_mid]
theorem yes_is {m : Me} {ρ : En} {δ : DS} {i : Int} (h : m ρ δ = some (.f (.int i), δ)) : oYes m ρ δ = some (some i, δ) := by
  unfold oYes
  rw [h]; rfl
theorem add1_is {m : Me} {ρ : En} {δ : DS} {k : Nat} (h : m ρ δ = some (.f (.int k), δ)) : s2 addA m (sC (.int 1)) ρ δ = some (.f (.int (k + 1 : Nat)), δ) := s2_is (a := .f (.int k)) (b := .f (.int 1)) h rfl rfl
theorem bcons_is {m : Me} {ms : MeB} {ρ : En} {δ δ1 δ2 : DS} {b : B} {bs : List B} (h : m ρ δ = some (b, δ1)) (hw : b.isW = false) (k : ms ρ δ1 = some (bs, δ2)) : bCons m ms ρ δ = some (b :: bs, δ2) := by
  unfold bCons
  rw [h, Option.bind_some]
  show (if b.isW = true then _ else _) = _
  rw [hw]
  show (ms ρ δ1).bind _ = _
  rw [k]; rfl
theorem par_is {is : List Nat} {ms : MeB} {ρ : En} {δ δ1 : DS} {bs : List B} (h : ms ρ δ = some (bs, δ1)) (hw : bs.all (fun b => !b.isW) = true) : sPar is ms ρ δ = some (.nx (setsB ρ is bs) δ1) := by
  unfold sPar
  rw [h, Option.bind_some]
  exact if_pos hw
theorem mk7_is (ρ : En) (δ : DS) : sLst (aCons (sC (.int 0)) (aCons (sC (.int 1)) (aCons (sC .non) (aCons (sC (.str "a")) (aCons (sTup (aCons (sC (.int 1)) (aCons (sC (.str "b")) (aNil)))) (aCons (sTup (aNil)) (aCons (sC (.int 2)) (aNil)))))))) ρ δ = some (.o (.lst [.int 0, .int 1, .non, .str "a", .tup [.int 1, .str "b"], .tup [], .int 2]), δ) :=
  lst_is (c_is (c_is (c_is (c_is (cons_is (b := .f (.tup [.int 1, .str "b"])) (tupm_is (c_is (c_is rfl)) (cap4 (by simp))) rfl (cons_is (b := .f (.tup [])) (tupm_is (ds := []) rfl (Nat.zero_le _)) rfl (c_is rfl))))))) (cap100 (show 7 ≤ 1000 by omega))
theorem add_lst {x y : List D} (h : x.length + y.length ≤ cap) : addA (.w (.lst x)) (.o (.lst y)) = some (.o (.lst (x ++ y))) := by
  have e : addLst (.w (.lst x)) (.o (.lst y)) = some (.o (.lst (x ++ y))) := by
    show (if x.length + y.length ≤ cap then _ else _) = _
    rw [if_pos h]
  show orB addTup addLst (.w (.lst x)) (.o (.lst y)) = _
  unfold orB
  exact e
theorem add_flst {x y : List D} (h : x.length + y.length ≤ cap) : addA (.f (.lst x)) (.o (.lst y)) = some (.o (.lst (x ++ y))) := by
  have e : addLst (.f (.lst x)) (.o (.lst y)) = some (.o (.lst (x ++ y))) := by
    show (if x.length + y.length ≤ cap then some (B.o (.lst (x ++ y))) else none) = _
    rw [if_pos h]
  show orB addTup addLst (.f (.lst x)) (.o (.lst y)) = _
  unfold orB
  exact e
theorem bent_ok {ms : List D} (hM : MkL ms) (hl : ms.length ≤ 32) {δ : DS} (ok : DOk δ) : ∃ ms' δ', MkL ms' ∧ ms'.length ≤ 33 ∧ m__law_bent [.drw, .tup ms] δ = some (.f (.tup ms'), δ') ∧ DOk δ' := by
  obtain ⟨k, δ1, e1, hk, ok1⟩ := take_ok (n := ((ms.length : Int) + 1)) ok (by omega) (by omega)
  obtain ⟨w, δ2, e2, hw, ok2⟩ := take_ok (n := 5) ok1 (by decide) (by decide)
  obtain ⟨mk, δ3, hmk, e3, ok3⟩ := pick_lst (ds := [.int 0, .int 1, .non, .str "a", .tup [.int 1, .str "b"], .tup [], .int 2]) ok2 (by simp) (show 7 < _ by omega)
  have hmk7 : mk ∈ mk7 := (mkl_of (l := [.int 0, .int 1, .non, .str "a", .tup [.int 1, .str "b"], .tup [], .int 2]) (by simp [mk7])) mk hmk
  have hmk1 : MkL [mk] := fun d hd => by rw [List.mem_singleton] at hd; subst hd; exact hmk7
  have hlo := MkL.take (min k ms.length) hM
  have hhi := MkL.drop k hM
  have hhi1 := MkL.drop (k + 1) hM
  have l1 : (ms.take (min k ms.length)).length = k := by rw [List.length_take]; omega
  have l2 : (ms.drop k).length = ms.length - k := List.length_drop
  have l3 : (ms.drop (k + 1)).length = ms.length - (k + 1) := List.length_drop
  let opts : List D := [.tup ms, .tup ms, .tup ((ms.take (min k ms.length) ++ [mk]) ++ ms.drop k), .tup (ms.take (min k ms.length) ++ ms.drop (k + 1))]
  let last : D := .tup ((ms.take (min k ms.length) ++ [mk]) ++ ms.drop (k + 1))
  obtain ⟨ms', h1, h2, h3⟩ : ∃ ms', (opts ++ [last])[w]? = some (.tup ms') ∧ MkL ms' ∧ ms'.length ≤ 33 := by
    match w, hw with
    | 0, _ => exact ⟨ms, rfl, hM, by omega⟩
    | 1, _ => exact ⟨ms, rfl, hM, by omega⟩
    | 2, _ => exact ⟨_, rfl, (hlo.app hmk1).app hhi, by rw [List.length_append, List.length_append, l1, l2]; simp; omega⟩
    | 3, _ => exact ⟨_, rfl, hlo.app hhi1, by rw [List.length_append, l1, l3]; omega⟩
    | 4, _ => exact ⟨_, rfl, (hlo.app hmk1).app hhi1, by rw [List.length_append, List.length_append, l1, l3]; simp; omega⟩
    | n + 5, h => omega
  refine ⟨ms', δ3, h2, h3, fn_rt (b := .f (.tup ms')) ?_, ok3⟩
  show mb__law_bent [some (.f .drw), some (.f (.tup ms)), none, none, none, none] δ = _
  unfold mb__law_bent
  have q1 := par_is (is := [2, 3]) (bcons_is (m := sFrz (sCall m__law_take (aCons (sVar 0) (aCons (s2 addA (sB lenB (vCons (sVar 1) (vNil))) (sC (.int 1))) (aNil))))) (ρ := [some (.f .drw), some (.f (.tup ms)), none, none, none, none]) (b := .f (.int k)) (frz_is (b := .f (.int k)) (call_is (ds := [.drw, .int ((ms.length : Int) + 1)]) (cons_is (b := .f .drw) rfl rfl (cons_is (b := .f (.int ((ms.length : Int) + 1))) (s2_is (a := .f (.int ms.length)) (b := .f (.int 1)) (b_is (bs := [.f (.tup ms)]) (vcons_is rfl rfl) rfl) rfl rfl) rfl rfl)) (by rw [take_eq]; exact e1) rfl)) rfl (bcons_is (m := sFrz (sCall m__law_take (aCons (sVar 0) (aCons (sC (.int 5)) (aNil))))) (b := .f (.int w)) (frz_is (b := .f (.int w)) (call_is (ds := [.drw, .int 5]) (cons_is (b := .f .drw) rfl rfl (cons_is (b := .f (.int 5)) rfl rfl rfl)) (by rw [take_eq]; exact e2) rfl)) rfl (show bNil _ δ2 = some ([], δ2) from rfl))) rfl
  rw [seq_nx q1]
  show sSeq _ _ [some (.f .drw), some (.f (.tup ms)), some (.f (.int k)), some (.f (.int w)), none, none] δ2 = _
  rw [seq_nx (ρ1 := [some (.f .drw), some (.f (.tup ms)), some (.f (.int k)), some (.f (.int w)), some (.f mk), none]) (δ1 := δ3) ((asg_is (b := .f mk) (frz_is (b := .f mk) (call_is (ds := [.drw, .lst [.int 0, .int 1, .non, .str "a", .tup [.int 1, .str "b"], .tup [], .int 2]]) (cons_is (b := .f .drw) rfl rfl (cons_is (b := .o (.lst _)) (mk7_is _ _) rfl rfl)) (by rw [pick_eq]; exact e3) rfl)) rfl).trans rfl)]
  have t1 : ∀ f5, s2 addA (sSl slA (sVar 1) (oNo) (oYes (sVar 2))) (sTup (aCons (sVar 4) (aNil))) [some (.f .drw), some (.f (.tup ms)), some (.f (.int k)), some (.f (.int w)), some (.f mk), f5] δ3 = some (.f (.tup (ms.take (min k ms.length) ++ [mk])), δ3) := fun f5 => s2_is (b := .f (.tup [mk])) (sl_lo rfl (yes_is rfl)) (tupm_is (cons_is (b := .f mk) rfl rfl rfl) (cap4 (show 1 ≤ 4 by omega))) (add_tup (cap100 (by rw [l1]; simp; omega)))
  have q2 : sLst (aCons (sVar 1) (aCons (sVar 1) (aCons (s2 addA (s2 addA (sSl slA (sVar 1) (oNo) (oYes (sVar 2))) (sTup (aCons (sVar 4) (aNil)))) (sSl slA (sVar 1) (oYes (sVar 2)) (oNo))) (aCons (s2 addA (sSl slA (sVar 1) (oNo) (oYes (sVar 2))) (sSl slA (sVar 1) (oYes (s2 addA (sVar 2) (sC (.int 1)))) (oNo))) (aNil))))) [some (.f .drw), some (.f (.tup ms)), some (.f (.int k)), some (.f (.int w)), some (.f mk), none] δ3 = some (.o (.lst opts), δ3) := lst_is (cons_is (b := .f (.tup ms)) rfl rfl (cons_is (b := .f (.tup ms)) rfl rfl (cons_is (b := .f (.tup ((ms.take (min k ms.length) ++ [mk]) ++ ms.drop k))) (s2_is (t1 none) (sl_hi rfl (yes_is rfl)) (add_tup (cap100 (by rw [List.length_append, l1, l2]; simp; omega)))) rfl (cons_is (b := .f (.tup (ms.take (min k ms.length) ++ ms.drop (k + 1)))) (s2_is (sl_lo rfl (yes_is rfl)) (sl_hi rfl (yes_is (add1_is rfl))) (add_tup (cap100 (by rw [l1, l3]; omega)))) rfl rfl)))) (cap4 (show 4 ≤ 4 by omega))
  rw [seq_nx (ρ1 := [some (.f .drw), some (.f (.tup ms)), some (.f (.int k)), some (.f (.int w)), some (.f mk), some (.f (.lst opts))]) (δ1 := δ3) ((asg_is (b := .f (.lst opts)) (frz_is (b := .o (.lst opts)) q2) rfl).trans rfl)]
  have q3 : sLst (aCons (s2 addA (s2 addA (sSl slA (sVar 1) (oNo) (oYes (sVar 2))) (sTup (aCons (sVar 4) (aNil)))) (sSl slA (sVar 1) (oYes (s2 addA (sVar 2) (sC (.int 1)))) (oNo))) (aNil)) [some (.f .drw), some (.f (.tup ms)), some (.f (.int k)), some (.f (.int w)), some (.f mk), some (.f (.lst opts))] δ3 = some (.o (.lst [last]), δ3) := lst_is (cons_is (b := .f last) (s2_is (t1 _) (sl_hi rfl (yes_is (add1_is rfl))) (add_tup (cap100 (by rw [List.length_append, l1, l3]; simp; omega)))) rfl rfl) (cap4 (show 1 ≤ 4 by omega))
  exact ret_is (b := .f (.tup ms')) (s2_is (a := .o (.lst (opts ++ [last]))) (b := .f (.int w)) (s2_is (a := .f (.lst opts)) (b := .o (.lst [last])) rfl q3 (add_flst (cap100 (show 5 ≤ 1000 by omega)))) rfl (ixB_olst h1))
end K56
namespace K56
open PySem L2 Py
/-! ### the search, plainly -/
abbrev Sq := Nat × Nat
def news : List Sq → List (Nat × Sq) → List (Nat × Sq)
  | _, [] => []
  | K, (c, t) :: l => if t ∈ K then news K l else (c, t) :: news (t :: K) l
def addK (K : List Sq) (l : List (Nat × Sq)) : List Sq := K ++ (news K l).map (·.2)
def addQ (K : List Sq) (q : List (Sq × List Nat)) (w : List Nat) (l : List (Nat × Sq)) : List (Sq × List Nat) := q ++ (news K l).map fun p => (p.2, w ++ [p.1])
def runN (acc : Sq → Bool) (suc : Sq → List (Nat × Sq)) : Nat → List Sq → List (Sq × List Nat) → Option (Option (List Nat))
  | 0, _, _ => none
  | _ + 1, _, [] => some none
  | f + 1, K, (s, w) :: q => if acc s then some (some w) else runN acc suc f (addK K (suc s)) (addQ K q w (suc s))
theorem news_congr : ∀ (l : List (Nat × Sq)) {K K' : List Sq}, (∀ t, t ∈ K ↔ t ∈ K') → news K l = news K' l
  | [], _, _, _ => rfl
  | (c, t) :: l, K, K', h => by
    unfold news
    by_cases ht : t ∈ K
    · rw [if_pos ht, if_pos ((h t).mp ht), news_congr l h]
    · rw [if_neg ht, if_neg (fun z => ht ((h t).mpr z)), news_congr l (K' := t :: K') fun u => by simp [h u]]
theorem news_all : ∀ (l : List (Nat × Sq)) {K : List Sq} {q : Nat × Sq}, q ∈ l → q.2 ∈ K ∨ q.2 ∈ (news K l).map (·.2)
  | (c, t) :: l, K, q, h => by
    unfold news
    by_cases ht : t ∈ K
    · rw [if_pos ht]
      rcases List.mem_cons.mp h with z | z
      · subst z; exact .inl ht
      · exact news_all l z
    · rw [if_neg ht, List.map_cons]
      rcases List.mem_cons.mp h with z | z
      · subst z; exact .inr (List.mem_cons_self ..)
      · rcases news_all l (K := t :: K) z with y | y
        · rcases List.mem_cons.mp y with x | x
          · exact .inr (by rw [x]; exact List.mem_cons_self ..)
          · exact .inl x
        · exact .inr (List.mem_cons_of_mem _ y)
theorem news_none : ∀ (l : List (Nat × Sq)) {K : List Sq}, (∀ q ∈ l, q.2 ∈ K) → news K l = []
  | [], _, _ => rfl
  | (c, t) :: l, K, h => by
    unfold news
    rw [if_pos (h (c, t) (List.mem_cons_self ..))]
    exact news_none l fun q hq => h q (List.mem_cons_of_mem _ hq)
theorem news_one {s0 : Sq} : ∀ (l : List (Nat × Sq)) {KL KR : List Sq}, (∀ t, t ∈ KR ↔ t ∈ KL ∨ t = s0) → s0 ∉ KL → (news KL l = news KR l ∧ s0 ∉ (news KL l).map (·.2)) ∨ ∃ a c b, news KL l = a ++ (c, s0) :: b ∧ news KR l = a ++ b
  | [], _, _, _, _ => .inl ⟨rfl, by simp [news]⟩
  | (c, t) :: l, KL, KR, h, h0 => by
    by_cases ht : t ∈ KL
    · have e1 : news KL ((c, t) :: l) = news KL l := by rw [news, if_pos ht]
      have e2 : news KR ((c, t) :: l) = news KR l := by rw [news, if_pos ((h t).mpr (.inl ht))]
      rw [e1, e2]
      exact news_one l h h0
    · by_cases hs : t = s0
      · subst hs
        have e1 : news KL ((c, t) :: l) = (c, t) :: news (t :: KL) l := by rw [news, if_neg ht]
        have e2 : news KR ((c, t) :: l) = news KR l := by rw [news, if_pos ((h t).mpr (.inr rfl))]
        refine .inr ⟨[], c, news KR l, ?_, e2⟩
        rw [e1, news_congr l (K' := KR) fun u => by rw [h u, List.mem_cons]; exact ⟨fun z => z.symm, fun z => z.symm⟩]; rfl
      · have e1 : news KL ((c, t) :: l) = (c, t) :: news (t :: KL) l := by rw [news, if_neg ht]
        have e2 : news KR ((c, t) :: l) = (c, t) :: news (t :: KR) l := by rw [news, if_neg (fun z => ((h t).mp z).elim ht hs)]
        rw [e1, e2]
        rcases news_one l (KL := t :: KL) (KR := t :: KR) (s0 := s0) (fun u => by
          rw [List.mem_cons, List.mem_cons, h u]
          constructor
          · rintro (z | z | z)
            · exact .inl (.inl z)
            · exact .inl (.inr z)
            · exact .inr z
          · rintro ((z | z) | z)
            · exact .inl z
            · exact .inr (.inl z)
            · exact .inr (.inr z)) (fun z => by
          rcases List.mem_cons.mp z with x | x
          · exact hs x.symm
          · exact h0 x) with ⟨x, y⟩ | ⟨a, c', b, x, y⟩
        · refine .inl ⟨by rw [x], ?_⟩
          rw [List.map_cons]
          intro z
          rcases List.mem_cons.mp z with z | z
          · exact hs z.symm
          · exact y z
        · exact .inr ⟨(c, t) :: a, c', b, by rw [x]; rfl, by rw [y]; rfl⟩
section
variable {acc : Sq → Bool} {suc : Sq → List (Nat × Sq)}
theorem runN_succ : ∀ {f : Nat} {K : List Sq} {Q : List (Sq × List Nat)} {r : Option (List Nat)}, runN acc suc f K Q = some r → runN acc suc (f + 1) K Q = some r
  | 0, _, _, _, h => by cases h
  | f + 1, K, [], r, h => h
  | f + 1, K, (s, w) :: q, r, h => by
    rw [runN] at h ⊢
    by_cases ha : acc s = true
    · rw [if_pos ha] at h ⊢; exact h
    · rw [if_neg ha] at h ⊢; exact runN_succ h
theorem mem_addK {K : List Sq} {l : List (Nat × Sq)} {t : Sq} : t ∈ addK K l ↔ t ∈ K ∨ t ∈ (news K l).map (·.2) := List.mem_append
theorem bisim {s0 : Sq} (acc0 : acc s0 = false) : ∀ (f : Nat) (KL KR : List Sq) (QL QR : List (Sq × List Nat)) (r : Option (List Nat)), (∀ q ∈ suc s0, q.2 ∈ KL) → (∀ t, t ∈ KR ↔ t ∈ KL ∨ t = s0) → (QL = QR ∨ (s0 ∈ KL ∧ ∃ Q1 w Q2, QL = Q1 ++ (s0, w) :: Q2 ∧ QR = Q1 ++ Q2)) → runN acc suc f KL QL = some r → runN acc suc f KR QR = some r
  | 0, _, _, _, _, _, _, _, _, h => by cases h
  | f + 1, KL, KR, QL, QR, r, hs, hk, hq, h => by
    have up : ∀ l, ∀ q ∈ suc s0, q.2 ∈ addK KL l := fun l q hq => mem_addK.mpr (.inl (hs q hq))
    -- both pop (s, w)
    have both : ∀ (s : Sq) (w : List Nat) (qL qR : List (Sq × List Nat)), acc s = false → (qL = qR ∨ (s0 ∈ KL ∧ ∃ Q1 w Q2, qL = Q1 ++ (s0, w) :: Q2 ∧ qR = Q1 ++ Q2)) → runN acc suc f (addK KL (suc s)) (addQ KL qL w (suc s)) = some r → runN acc suc f (addK KR (suc s)) (addQ KR qR w (suc s)) = some r := by
      intro s w qL qR ha hq h
      by_cases h0 : s0 ∈ KL
      · have e : news KR (suc s) = news KL (suc s) := news_congr _ fun t => by rw [hk t]; exact ⟨fun z => z.elim id fun z => z ▸ h0, .inl⟩
        refine bisim acc0 f _ _ _ _ r (up _) (fun t => ?_) ?_ h
        · rw [mem_addK, mem_addK, hk t, e]
          constructor
          · rintro ((z | z) | z)
            · exact .inl (.inl z)
            · exact .inr z
            · exact .inl (.inr z)
          · rintro ((z | z) | z)
            · exact .inl (.inl z)
            · exact .inr z
            · exact .inl (.inr z)
        · unfold addQ
          rw [e]
          rcases hq with z | ⟨_, Q1, w', Q2, z1, z2⟩
          · exact .inl (by rw [z])
          · exact .inr ⟨mem_addK.mpr (.inl h0), Q1, w', Q2 ++ (news KL (suc s)).map fun p => (p.2, w ++ [p.1]), by rw [z1, List.append_assoc]; rfl, by rw [z2, List.append_assoc]⟩
      · have hq : qL = qR := hq.elim id fun z => absurd z.1 h0
        subst hq
        rcases news_one (suc s) hk h0 with ⟨e, _⟩ | ⟨a, c, b, e1, e2⟩
        · refine bisim acc0 f _ _ _ _ r (up _) (fun t => ?_) (.inl (by unfold addQ; rw [e])) h
          rw [mem_addK, mem_addK, hk t, ← e]
          constructor
          · rintro ((z | z) | z)
            · exact .inl (.inl z)
            · exact .inr z
            · exact .inl (.inr z)
          · rintro ((z | z) | z)
            · exact .inl (.inl z)
            · exact .inr z
            · exact .inl (.inr z)
        · refine bisim acc0 f _ _ _ _ r (up _) (fun t => ?_) (.inr ⟨mem_addK.mpr (.inr ?_), qL ++ a.map fun p => (p.2, w ++ [p.1]), w ++ [c], b.map fun p => (p.2, w ++ [p.1]), ?_, ?_⟩) h
          · rw [mem_addK, mem_addK, hk t, e1, e2, List.map_append, List.map_append, List.map_cons, List.mem_append, List.mem_append, List.mem_cons]
            constructor
            · rintro ((z | z) | z | z)
              · exact .inl (.inl z)
              · exact .inr z
              · exact .inl (.inr (.inl z))
              · exact .inl (.inr (.inr (.inr z)))
            · rintro ((z | z | z | z) | z)
              · exact .inl (.inl z)
              · exact .inr (.inl z)
              · exact .inl (.inr z)
              · exact .inr (.inr z)
              · exact .inl (.inr z)
          · rw [e1, List.map_append, List.map_cons]
            exact List.mem_append_right _ (List.mem_cons_self ..)
          · unfold addQ
            rw [e1, List.map_append, List.map_cons, List.append_assoc]
          · unfold addQ
            rw [e2, List.map_append, List.append_assoc]
    rcases hq with z | ⟨h0, Q1, w, Q2, z1, z2⟩
    · subst z
      match QL, h with
      | [], h => exact h
      | (s, w) :: q, h =>
        rw [runN] at h ⊢
        cases ha : acc s with
        | true => rw [ha] at h; exact h
        | false =>
          rw [ha] at h
          exact both s w q q ha (.inl rfl) h
    · subst z1 z2
      match Q1, h with
      | [], h =>
        have h : (if acc s0 = true then _ else _) = some r := h
        rw [if_neg (by rw [acc0]; simp)] at h
        have e := news_none (suc s0) hs
        unfold addK addQ at h
        rw [e] at h
        simp only [List.map_nil, List.append_nil] at h
        exact runN_succ (bisim acc0 f KL KR Q2 Q2 r hs hk (.inl rfl) h)
      | (s, w') :: Q1, h =>
        have h : (if acc s = true then _ else _) = some r := h
        show (if acc s = true then _ else _) = some r
        cases ha : acc s with
        | true => rw [ha] at h; exact h
        | false =>
          rw [ha] at h
          exact both s w' _ _ ha (.inr ⟨h0, Q1, w, Q2, rfl, rfl⟩) h
theorem start_same {s0 : Sq} {f : Nat} {r : Option (List Nat)} (h : runN acc suc f [] [(s0, [])] = some r) : runN acc suc f [s0] [(s0, [])] = some r := by
  match f, h with
  | f + 1, h =>
    have h : (if acc s0 = true then _ else _) = some r := h
    show (if acc s0 = true then _ else _) = some r
    cases ha : acc s0 with
    | true => rw [ha] at h; exact h
    | false =>
      rw [ha] at h
      have h : runN acc suc f (addK [] (suc s0)) (addQ [] [] [] (suc s0)) = some r := h
      show runN acc suc f (addK [s0] (suc s0)) (addQ [s0] [] [] (suc s0)) = some r
      have hs : ∀ q ∈ suc s0, q.2 ∈ addK [] (suc s0) := fun q hq => mem_addK.mpr (news_all _ hq)
      rcases news_one (suc s0) (KL := []) (KR := [s0]) (s0 := s0) (fun t => by simp) (by simp) with ⟨e, _⟩ | ⟨a, c, b, e1, e2⟩
      · refine bisim ha f _ _ _ _ r hs (fun t => ?_) (.inl (by unfold addQ; rw [e])) h
        rw [mem_addK, mem_addK, ← e]
        simp only [List.mem_singleton, List.not_mem_nil, false_or]
        exact ⟨fun z => z.symm, fun z => z.symm⟩
      · refine bisim ha f _ _ _ _ r hs (fun t => ?_) (.inr ⟨mem_addK.mpr (.inr ?_), a.map fun p => (p.2, [] ++ [p.1]), [] ++ [c], b.map fun p => (p.2, [] ++ [p.1]), ?_, ?_⟩) h
        · rw [mem_addK, mem_addK, e1, e2, List.map_append, List.map_append, List.map_cons, List.mem_append, List.mem_append]
          simp only [List.mem_cons, List.not_mem_nil, false_or, or_false]
          constructor
          · rintro (z | z | z)
            · exact .inr z
            · exact .inl (.inl z)
            · exact .inl (.inr (.inr z))
          · rintro ((z | z | z) | z)
            · exact .inr (.inl z)
            · exact .inl z
            · exact .inr (.inr z)
            · exact .inl z
        · rw [e1, List.map_append, List.map_cons]
          exact List.mem_append_right _ (List.mem_cons_self ..)
        · unfold addQ
          rw [e1, List.map_append, List.map_cons]; rfl
        · unfold addQ
          rw [e2, List.map_append]; rfl
end
end K56
namespace K56
open PySem L2 Py
/-! ### the search ends -/
def U : List Sq := (List.range 6).flatMap fun i => (List.range 34).map fun k => (i, k)
theorem U_len : U.length = 204 := by decide +kernel
def Bd (m L : Nat) (t : Sq) : Prop := t.1 < m ∧ t.2 ≤ L
theorem bd_U {m L : Nat} (hm : m ≤ 6) (hL : L ≤ 33) {t : Sq} (h : Bd m L t) : t ∈ U := List.mem_flatMap.mpr ⟨t.1, List.mem_range.mpr (by have := h.1; omega), List.mem_map.mpr ⟨t.2, List.mem_range.mpr (by have := h.2; omega), rfl⟩⟩
theorem news_nd : ∀ (l : List (Nat × Sq)) {K : List Sq}, K.Nodup → (K ++ (news K l).map (·.2)).Nodup
  | [], K, h => by simpa [news] using h
  | (c, t) :: l, K, h => by
    unfold news
    by_cases ht : t ∈ K
    · rw [if_pos ht]; exact news_nd l h
    · rw [if_neg ht, List.map_cons]
      have z := news_nd l (K := t :: K) (List.nodup_cons.mpr ⟨ht, h⟩)
      exact (List.perm_middle.nodup_iff).mpr z
theorem news_in : ∀ (l : List (Nat × Sq)) {K : List Sq} {q : Nat × Sq}, q ∈ news K l → q ∈ l
  | (c, t) :: l, K, q, h => by
    unfold news at h
    by_cases ht : t ∈ K
    · rw [if_pos ht] at h; exact List.mem_cons_of_mem _ (news_in l h)
    · rw [if_neg ht] at h
      rcases List.mem_cons.mp h with z | z
      · rw [z]; exact List.mem_cons_self ..
      · exact List.mem_cons_of_mem _ (news_in l z)
structure Inv (cs : List Nat) (m L : Nat) (K : List Sq) (Q : List (Sq × List Nat)) : Prop where
  nd : K.Nodup
  bd : ∀ t ∈ K, Bd m L t
  q : ∀ p ∈ Q, Bd m L p.1 ∧ p.2.length ≤ K.length ∧ ∀ c ∈ p.2, c ∈ cs
  ql : Q.length ≤ K.length + 1
theorem Inv.kl {cs : List Nat} {m L : Nat} {K : List Sq} {Q : List (Sq × List Nat)} (h : Inv cs m L K Q) (hm : m ≤ 6) (hL : L ≤ 33) : K.length ≤ 204 := by
  rw [← U_len]
  exact h.nd.length_le_of_subset fun t ht => bd_U hm hL (h.bd t ht)
section
variable {acc : Sq → Bool} {suc : Sq → List (Nat × Sq)} {cs : List Nat} {m L : Nat}
theorem Inv.step (hsuc : ∀ s, Bd m L s → ∀ p ∈ suc s, Bd m L p.2 ∧ p.1 ∈ cs) {K : List Sq} {q : List (Sq × List Nat)} {s : Sq} {w : List Nat} (h : Inv cs m L K ((s, w) :: q)) : Inv cs m L (addK K (suc s)) (addQ K q w (suc s)) := by
  have hs := (h.q (s, w) (List.mem_cons_self ..))
  have hl := h.ql
  rw [List.length_cons] at hl
  refine ⟨news_nd _ h.nd, fun t ht => ?_, fun p hp => ?_, ?_⟩
  · rcases mem_addK.mp ht with z | z
    · exact h.bd t z
    · obtain ⟨p, hp, rfl⟩ := List.mem_map.mp z
      exact (hsuc s hs.1 p (news_in _ hp)).1
  · unfold addK
    rw [List.length_append, List.length_map]
    rcases List.mem_append.mp (show p ∈ q ++ _ from hp) with z | z
    · obtain ⟨a, b, c⟩ := h.q p (List.mem_cons_of_mem _ z)
      exact ⟨a, by omega, c⟩
    · obtain ⟨y, hy, rfl⟩ := List.mem_map.mp z
      obtain ⟨a, b⟩ := hsuc s hs.1 y (news_in _ hy)
      have : 0 < (news K (suc s)).length := List.length_pos_of_mem hy
      refine ⟨a, ?_, fun c hc => ?_⟩
      · show (w ++ [y.1]).length ≤ _
        rw [List.length_append]
        have := hs.2.1
        have h1 : [y.1].length = 1 := rfl
        simp only at this
        omega
      · rcases List.mem_append.mp hc with x | x
        · exact hs.2.2 c x
        · rw [List.mem_singleton] at x; subst x; exact b
  · unfold addK addQ
    rw [List.length_append, List.length_append, List.length_map, List.length_map]
    omega
theorem term (hm : m ≤ 6) (hL : L ≤ 33) (hsuc : ∀ s, Bd m L s → ∀ p ∈ suc s, Bd m L p.2 ∧ p.1 ∈ cs) : ∀ (f : Nat) (K : List Sq) (Q : List (Sq × List Nat)), Inv cs m L K Q → Q.length + (204 - K.length) < f → ∃ r, runN acc suc f K Q = some r ∧ ∀ w, r = some w → w.length ≤ 204 ∧ ∀ c ∈ w, c ∈ cs
  | 0, _, _, _, h => by omega
  | f + 1, K, [], _, _ => ⟨none, rfl, fun w h => by cases h⟩
  | f + 1, K, (s, w) :: q, h, hf => by
    have hk := h.kl hm hL
    show ∃ r, (if acc s = true then _ else _) = some r ∧ _
    by_cases ha : acc s = true
    · rw [if_pos ha]
      obtain ⟨a, b, c⟩ := h.q (s, w) (List.mem_cons_self ..)
      exact ⟨some w, rfl, fun w' e => by cases e; exact ⟨Nat.le_trans b hk, c⟩⟩
    · rw [if_neg ha]
      have h2 := h.step hsuc
      have hk2 := h2.kl hm hL
      refine term hm hL hsuc f _ _ h2 ?_
      rw [List.length_cons] at hf
      unfold addK at hk2 ⊢
      unfold addQ
      rw [List.length_append, List.length_map] at hk2
      rw [List.length_append, List.length_append, List.length_map, List.length_map]
      omega
end
/-! ### the search of this law -/
def accS (rs : List Rw) (ms : List D) (s : Sq) : Bool := match rs[s.1]? with
  | some r => eqP (.tup r.en) (.tup (ms.drop s.2))
  | none => false
def fits (ms : List D) (k : Nat) (p : List D × Nat) : Bool := eqP (.tup ((ms.drop k).take p.1.length)) (.tup p.1)
def sucR (ms : List D) (k : Nat) (l : List (Nat × (List D × Nat))) : List (Nat × Sq) := l.filterMap fun q => if fits ms k q.2 then some (q.1, (q.2.2, k + q.2.1.length)) else none
def sucS (cs : List Nat) (rs : List Rw) (ms : List D) (s : Sq) : List (Nat × Sq) := match rs[s.1]? with
  | some r => sucR ms s.2 (cs.zip r.st)
  | none => []
theorem eqv_len : ∀ {xs ys : List PyData}, PyData.eqvAll xs ys = true → xs.length = ys.length
  | [], [], _ => rfl
  | [], _ :: _, h => by simp [PyData.eqvAll] at h
  | _ :: _, [], h => by simp [PyData.eqvAll] at h
  | x :: xs, y :: ys, h => by
    simp only [PyData.eqvAll, Bool.and_eq_true] at h
    exact congrArg Nat.succ (eqv_len h.2)
theorem eqP_len {xs ys : List D} (h : eqP (.tup xs) (.tup ys) = true) : xs.length = ys.length := by
  unfold eqP at h
  cases e1 : toPys xs with
  | none => rw [show toPy (.tup xs) = none from by show (toPys xs).bind _ = _; rw [e1]; rfl] at h; cases h
  | some ps =>
    rw [show toPy (.tup xs) = some (.tuple ps) from by show (toPys xs).bind _ = _; rw [e1]; rfl] at h
    cases e2 : toPys ys with
    | none => rw [show toPy (.tup ys) = none from by show (toPys ys).bind _ = _; rw [e2]; rfl] at h; cases h
    | some qs =>
      rw [show toPy (.tup ys) = some (.tuple qs) from by show (toPys ys).bind _ = _; rw [e2]; rfl] at h
      have h : PyData.eqv (.tuple ps) (.tuple qs) = true := h
      simp only [PyData.eqv] at h
      rw [← toPys_len e1, ← toPys_len e2]
      exact eqv_len h
theorem sucS_ok {cs : List Nat} {rs : List Rw} {ms : List D} (hm : MOk cs.length rs) : ∀ s, Bd rs.length ms.length s → ∀ p ∈ sucS cs rs ms s, Bd rs.length ms.length p.2 ∧ p.1 ∈ cs := by
  intro s hs p hp
  unfold sucS at hp
  rw [List.getElem?_eq_getElem hs.1] at hp
  have hr := hm.row _ (List.getElem_mem hs.1)
  obtain ⟨q, hq, e⟩ := List.mem_filterMap.mp hp
  obtain ⟨q1, q2⟩ := List.of_mem_zip (show (q.1, q.2) ∈ _ from hq)
  split at e
  · next hf =>
    cases e
    obtain ⟨_, _, a⟩ := hr.ok _ q2
    refine ⟨⟨a, ?_⟩, q1⟩
    have z := eqP_len hf
    rw [List.length_take, List.length_drop] at z
    have := hs.2
    show s.2 + q.2.1.length ≤ ms.length
    omega
  · cases e
end K56
namespace K56
open PySem L2 Py
/-! ### the search of the law: _law_least -/
theorem eq_tup {a b : List D} (ha : MkL a) (hb : MkL b) : eqD false (.f (.tup a)) (.f (.tup b)) = some (.f (.bl (eqP (.tup a) (.tup b)))) := by
  rw [eqD_pl (k := 2) (by decide) false (a := .f (.tup a)) (b := .f (.tup b)) (mkl_pl ha) (mkl_pl hb)]
  show some (B.f (.bl (eqP (.tup a) (.tup b) != false))) = _
  cases eqP (.tup a) (.tup b) <;> rfl
def stT (s : Sq) : D := .tup [.int s.1, .int s.2]
def pyT (s : Sq) : PyData := .tuple [.int s.1, .int s.2]
def quT (p : Sq × List Nat) : D := .tup [.int p.1.1, .int p.1.2, .str (zOf p.2)]
theorem toPys_T : ∀ K : List Sq, toPys (K.map stT) = some (K.map pyT)
  | [] => rfl
  | s :: K => by
    show (some (pyT s)).bind _ = _
    rw [Option.bind_some, toPys_T K]; rfl
theorem lay_T : ∀ K : List Sq, PyData.canLayAll0 (K.map pyT) = true ∧ PyData.depthAll (K.map pyT) ≤ 10
  | [] => by simp [PyData.canLayAll0, PyData.depthAll]
  | s :: K => by
    obtain ⟨a, b⟩ := lay_T K
    refine ⟨?_, ?_⟩
    · rw [List.map_cons]
      simp only [PyData.canLayAll0, a, Bool.and_true]
      simp [pyT, PyData.canLay0, PyData.canLayAll0]
    · rw [List.map_cons]
      simp only [PyData.depthAll]
      refine Nat.max_le.mpr ⟨?_, b⟩
      simp [pyT, PyData.depth, PyData.depthAll]
theorem any_T (s : Sq) : ∀ K : List Sq, ((K.map pyT).any fun z => PyData.eqv z (pyT s)) = decide (s ∈ K)
  | [] => rfl
  | t :: K => by
    rw [List.map_cons, List.any_cons, any_T s K]
    show (PyData.eqv (.tuple [.int t.1, .int t.2]) (.tuple [.int s.1, .int s.2]) || _) = _
    rw [eqv_2]
    by_cases h : s = t
    · subst h; simp
    · rw [show ((t.1 : Int) == s.1 && (t.2 : Int) == s.2) = false from by
        cases hq : ((t.1 : Int) == s.1 && (t.2 : Int) == s.2) with
        | false => rfl
        | true =>
          rw [Bool.and_eq_true, beq_iff_eq, beq_iff_eq] at hq
          exact absurd (Prod.ext (by omega) (by omega)) h]
      simp [h]
theorem in_K (s : Sq) (K : List Sq) : inA true (.f (stT s)) (.w (.lst (K.map stT))) = some (.f (.bl (!decide (s ∈ K)))) := by
  show inL true (.f (stT s)) (.w (.lst (K.map stT))) = _
  show (some (pyT s)).bind _ = _
  rw [Option.bind_some]
  show (toPys (K.map stT)).bind _ = _
  rw [toPys_T, Option.bind_some]
  obtain ⟨a, b⟩ := lay_T K
  have h1 : SeqAt.shaped (pyT s) = true := by simp [SeqAt.shaped, pyT, PyData.canLay0, PyData.canLayAll0, PyData.depth, PyData.depthAll]
  have h2 : SeqAt.shaped (.list (K.map pyT)) = true := by
    unfold SeqAt.shaped
    rw [Bool.and_eq_true]
    refine ⟨by simp [PyData.canLay0, a], decide_eq_true ?_⟩
    simp only [PyData.depth]
    omega
  rw [h1, h2, if_pos (show (true && true) = true from rfl), any_T]
  cases decide (s ∈ K) <;> rfl
theorem addK_in {K : List Sq} {p : Nat × Sq} {l : List (Nat × Sq)} (Q : List (Sq × List Nat)) (w : List Nat) (h : p.2 ∈ K) : addK K (p :: l) = addK K l ∧ addQ K Q w (p :: l) = addQ K Q w l := by
  have e : news K (p :: l) = news K l := by
    show (if p.2 ∈ K then _ else _) = _
    rw [if_pos h]
  unfold addK addQ
  rw [e]
  exact ⟨rfl, rfl⟩
theorem addK_out {K : List Sq} {p : Nat × Sq} {l : List (Nat × Sq)} (Q : List (Sq × List Nat)) (w : List Nat) (h : p.2 ∉ K) : addK K (p :: l) = addK (K ++ [p.2]) l ∧ addQ K Q w (p :: l) = addQ (K ++ [p.2]) (Q ++ [(p.2, w ++ [p.1])]) w l := by
  have e : news K (p :: l) = p :: news (K ++ [p.2]) l := by
    show (if p.2 ∈ K then _ else _) = _
    rw [if_neg h, news_congr l (K' := K ++ [p.2]) fun t => by rw [List.mem_cons, List.mem_append, List.mem_singleton]; exact ⟨fun z => z.symm, fun z => z.symm⟩]
  unfold addK addQ
  rw [e, List.map_cons, List.map_cons]
  exact ⟨by rw [List.append_assoc]; rfl, by rw [List.append_assoc]; rfl⟩
theorem add_str {w : List Nat} {c : Nat} (h : w.length ≤ 500) : addA (.f (.str (zOf w))) (.f (.str (sg c))) = some (.f (.str (zOf (w ++ [c])))) := by
  have e : addStr (.f (.str (zOf w))) (.f (.str (sg c))) = some (.f (.str (zOf (w ++ [c])))) := by
    show (if (zOf w).length + (sg c).length ≤ cap then some (B.f (.str (zOf w ++ sg c))) else none) = _
    rw [zlen, if_pos (cap100 (show w.length + (sg c).length ≤ 1000 from (show w.length + 1 ≤ 1000 by omega)))]
    congr 3
    show (⟨w.toArray ++ #[c]⟩ : PySem.Str) = ⟨(w ++ [c]).toArray⟩
    simp
  show orB addStr (orB addTup addLst) (.f (.str (zOf w))) (.f (.str (sg c))) = _
  unfold orB
  rw [e]
theorem sucR_cons (ms : List D) (k : Nat) (q : Nat × (List D × Nat)) (l : List (Nat × (List D × Nat))) : sucR ms k (q :: l) = if fits ms k q.2 then (q.1, (q.2.2, k + q.2.1.length)) :: sucR ms k l else sucR ms k l := by
  unfold sucR
  rw [List.filterMap_cons]
  split
  · next h =>
    split at h
    · cases h
    · next hf => rw [if_neg hf]
  · next b h =>
    split at h
    · next hf => cases h; rw [if_pos hf]
    · cases h
def bodyL : MeS := sSeq (sAsgT (gTp (gCn (gNm 10) (gCn (gNm 11) (gNl)))) (s2 ixB (s2 ixB (s2 ixB (sVar 1) (sVar 5)) (sC (.int 1))) (sVar 8))) (sIfS (tAndM (sTest (s2 (eqD false) (sSl slA (sVar 2) (oYes (sVar 6)) (oYes (s2 addA (sVar 6) (sB lenB (vCons (sVar 10) (vNil)))))) (sVar 10))) (sTest (s2 (inA true) (sTup (aCons (sVar 11) (aCons (s2 addA (sVar 6) (sB lenB (vCons (sVar 10) (vNil)))) (aNil)))) (sVar 3)))) (sSeq (sApp 3 (aCons (sTup (aCons (sVar 11) (aCons (s2 addA (sVar 6) (sB lenB (vCons (sVar 10) (vNil)))) (aNil)))) (aNil))) (sApp 4 (aCons (sTup (aCons (sVar 11) (aCons (s2 addA (sVar 6) (sB lenB (vCons (sVar 10) (vNil)))) (aCons (s2 addA (sVar 7) (sVar 9)) (aNil))))) (aNil)))) (sNop))
def envL (cs : List Nat) (rs : List Rw) (ms : List D) (K : List Sq) (Q : List (Sq × List Nat)) (x5 x6 x7 x8 x9 x10 x11 : Option B) : En := [some (.f (.str (zOf cs))), some (.f (rowsD rs)), some (.f (.tup ms)), some (.o (.lst (K.map stT))), some (.o (.lst (Q.map quT))), x5, x6, x7, x8, x9, x10, x11]
theorem app_is {i : Nat} {ds : List D} {ms : MeL} {ρ : En} {δ : DS} {d : D} (h : ownL ρ i = some ds) (hm : ms ρ δ = some ([d], δ)) (hl : ds.length ≤ cap) : sApp i ms ρ δ = some (.nx (ρ.set i (some (.o (.lst (ds ++ [d]))))) δ) := by
  unfold sApp
  rw [h, Option.bind_some, hm, Option.bind_some]
  exact if_pos hl
theorem loopL {cs : List Nat} {rs : List Rw} {ms : List D} (hM : MkL ms) (s : Sq) (w : List Nat) {r : Rw} (hr : rs[s.1]? = some r) (hw : w.length ≤ 500) (δ : DS) : ∀ (l : List (Nat × (List D × Nat))) (j : Nat) (K : List Sq) (Q : List (Sq × List Nat)) (x8 x9 x10 x11 : Option B), (∀ i q, l[i]? = some q → r.st[j + i]? = some q.2) → (∀ q ∈ l, MkL q.2.1 ∧ q.2.1.length ≤ 4) → K.length + l.length ≤ 1000 → Q.length + l.length ≤ 1000 →
    ∃ y8 y9 y10 y11, forF (gTp (gCn (gNm 8) (gCn (gNm 9) (gNl)))) bodyL (enumD j (l.map fun q => .str (sg q.1))) (envL cs rs ms K Q (some (.f (.int s.1))) (some (.f (.int s.2))) (some (.f (.str (zOf w)))) x8 x9 x10 x11) δ = some (.nx (envL cs rs ms (addK K (sucR ms s.2 l)) (addQ K Q w (sucR ms s.2 l)) (some (.f (.int s.1))) (some (.f (.int s.2))) (some (.f (.str (zOf w)))) y8 y9 y10 y11) δ)
  | [], j, K, Q, x8, x9, x10, x11, _, _, _, _ => ⟨x8, x9, x10, x11, by
    show some (Out.nx (envL cs rs ms K Q _ _ _ _ _ _ _) δ) = _
    unfold addK addQ
    simp [sucR, news]⟩
  | q :: l, j, K, Q, x8, x9, x10, x11, h1, h2, h3, h4 => by
    rw [List.length_cons] at h3 h4
    have hq : r.st[j]? = some q.2 := h1 0 q rfl
    obtain ⟨hq1, hq2⟩ := h2 q (List.mem_cons_self ..)
    have h1' : ∀ i q', l[i]? = some q' → r.st[j + 1 + i]? = some q'.2 := fun i q' h => by
      have := h1 (i + 1) q' (by simpa using h)
      rw [← this]; congr 1; omega
    have h2' : ∀ q' ∈ l, MkL q'.2.1 ∧ q'.2.1.length ≤ 4 := fun q' hq' => h2 q' (List.mem_cons_of_mem _ hq')
    -- the row's step
    let E := fun (K : List Sq) (Q : List (Sq × List Nat)) => envL cs rs ms K Q (some (.f (.int s.1))) (some (.f (.int s.2))) (some (.f (.str (zOf w)))) (some (.f (.int j))) (some (.f (.str (sg q.1)))) (some (.f (.tup q.2.1))) (some (.f (.int q.2.2)))
    have b1 : sAsgT (gTp (gCn (gNm 10) (gCn (gNm 11) (gNl)))) (s2 ixB (s2 ixB (s2 ixB (sVar 1) (sVar 5)) (sC (.int 1))) (sVar 8)) (envL cs rs ms K Q (some (.f (.int s.1))) (some (.f (.int s.2))) (some (.f (.str (zOf w)))) (some (.f (.int j))) (some (.f (.str (sg q.1)))) x10 x11) δ = some (.nx (E K Q) δ) := by
      have z : s2 ixB (s2 ixB (s2 ixB (sVar 1) (sVar 5)) (sC (.int 1))) (sVar 8) (envL cs rs ms K Q (some (.f (.int s.1))) (some (.f (.int s.2))) (some (.f (.str (zOf w)))) (some (.f (.int j))) (some (.f (.str (sg q.1)))) x10 x11) δ = some (.f (stD q.2), δ) := s2_is (a := .f (.tup (r.st.map stD))) (b := .f (.int j)) (s2_is (a := .f (rowD r)) (b := .f (.int 1)) (s2_is (a := .f (rowsD rs)) (b := .f (.int s.1)) rfl rfl (rows_at hr)) rfl (ixB_tup (i := 1) rfl)) rfl (ixB_tup (by rw [List.getElem?_map, hq]; rfl))
      unfold sAsgT
      rw [z]; rfl
    have len1 : ∀ K Q, s2 addA (sVar 6) (sB lenB (vCons (sVar 10) (vNil))) (E K Q) δ = some (.f (.int (s.2 + q.2.1.length : Nat)), δ) := fun K Q => s2_is (a := .f (.int s.2)) (b := .f (.int q.2.1.length)) rfl (b_is (bs := [.f (.tup q.2.1)]) (vcons_is rfl rfl) rfl) rfl
    have c1 : sTest (s2 (eqD false) (sSl slA (sVar 2) (oYes (sVar 6)) (oYes (s2 addA (sVar 6) (sB lenB (vCons (sVar 10) (vNil)))))) (sVar 10)) (E K Q) δ = some (fits ms s.2 q.2, δ) := sTest_is (s2_is (a := .f (.tup ((ms.drop s.2).take q.2.1.length))) (b := .f (.tup q.2.1)) (sl_mid (k := s.2) (j := q.2.1.length) rfl (yes_is rfl) (yes_is (len1 K Q))) rfl (eq_tup ((hM.drop _).take _) hq1))
    have st1 : ∀ K Q, sTup (aCons (sVar 11) (aCons (s2 addA (sVar 6) (sB lenB (vCons (sVar 10) (vNil)))) (aNil))) (E K Q) δ = some (.f (stT (q.2.2, s.2 + q.2.1.length)), δ) := fun K Q => tupm_is (cons_is (b := .f (.int q.2.2)) rfl rfl (cons_is (b := .f (.int (s.2 + q.2.1.length : Nat))) (len1 K Q) rfl rfl)) (cap4 (show 2 ≤ 4 by omega))
    have c2 : sTest (s2 (inA true) (sTup (aCons (sVar 11) (aCons (s2 addA (sVar 6) (sB lenB (vCons (sVar 10) (vNil)))) (aNil)))) (sVar 3)) (E K Q) δ = some (!decide ((q.2.2, s.2 + q.2.1.length) ∈ K), δ) := sTest_is (s2_is (b := .w (.lst (K.map stT))) (st1 K Q) rfl (in_K _ _))
    -- how one turn ends
    have turn : ∀ K' Q', bodyL (envL cs rs ms K Q (some (.f (.int s.1))) (some (.f (.int s.2))) (some (.f (.str (zOf w)))) (some (.f (.int j))) (some (.f (.str (sg q.1)))) x10 x11) δ = some (.nx (E K' Q') δ) → addK K' (sucR ms s.2 l) = addK K (sucR ms s.2 (q :: l)) → addQ K' Q' w (sucR ms s.2 l) = addQ K Q w (sucR ms s.2 (q :: l)) → K'.length ≤ K.length + 1 → Q'.length ≤ Q.length + 1 → ∃ y8 y9 y10 y11, forF (gTp (gCn (gNm 8) (gCn (gNm 9) (gNl)))) bodyL (enumD j ((q :: l).map fun q => .str (sg q.1))) (envL cs rs ms K Q (some (.f (.int s.1))) (some (.f (.int s.2))) (some (.f (.str (zOf w)))) x8 x9 x10 x11) δ = some (.nx (envL cs rs ms (addK K (sucR ms s.2 (q :: l))) (addQ K Q w (sucR ms s.2 (q :: l))) (some (.f (.int s.1))) (some (.f (.int s.2))) (some (.f (.str (zOf w)))) y8 y9 y10 y11) δ) := fun K' Q' e eK eQ lK lQ => by
      obtain ⟨y8, y9, y10, y11, z⟩ := loopL (cs := cs) hM s w hr hw δ l (j + 1) K' Q' (some (.f (.int j))) (some (.f (.str (sg q.1)))) (some (.f (.tup q.2.1))) (some (.f (.int q.2.2))) h1' h2' (by omega) (by omega)
      refine ⟨y8, y9, y10, y11, ?_⟩
      show forF _ bodyL (.tup [.int j, .str (sg q.1)] :: enumD (j + 1) (l.map fun q => .str (sg q.1))) _ δ = _
      rw [for_cons (m := bodyL) (ρ1 := envL cs rs ms K Q (some (.f (.int s.1))) (some (.f (.int s.2))) (some (.f (.str (zOf w)))) (some (.f (.int j))) (some (.f (.str (sg q.1)))) x10 x11) rfl e, ← eK, ← eQ]
      exact z
    by_cases hf : fits ms s.2 q.2 = true
    · rw [hf] at c1
      by_cases hk : (q.2.2, s.2 + q.2.1.length) ∈ K
      · rw [decide_eq_true hk] at c2
        obtain ⟨a, b⟩ := addK_in (p := (q.1, (q.2.2, s.2 + q.2.1.length))) (l := sucR ms s.2 l) Q w hk
        refine turn K Q ?_ (by rw [sucR_cons, if_pos hf, a]) (by rw [sucR_cons, if_pos hf, b]) (by omega) (by omega)
        unfold bodyL
        rw [seq_nx b1, if_f ((tAnd_t c1).trans c2)]
        rfl
      · rw [decide_eq_false hk] at c2
        obtain ⟨a, b⟩ := addK_out (p := (q.1, (q.2.2, s.2 + q.2.1.length))) (l := sucR ms s.2 l) Q w hk
        refine turn (K ++ [(q.2.2, s.2 + q.2.1.length)]) (Q ++ [((q.2.2, s.2 + q.2.1.length), w ++ [q.1])]) ?_ (by rw [sucR_cons, if_pos hf, a]) (by rw [sucR_cons, if_pos hf, b]) (by rw [List.length_append]; exact Nat.le_refl _) (by rw [List.length_append]; exact Nat.le_refl _)
        unfold bodyL
        rw [seq_nx b1, if_t ((tAnd_t c1).trans c2)]
        have a1 : sApp 3 (aCons (sTup (aCons (sVar 11) (aCons (s2 addA (sVar 6) (sB lenB (vCons (sVar 10) (vNil)))) (aNil)))) (aNil)) (E K Q) δ = some (.nx (E (K ++ [(q.2.2, s.2 + q.2.1.length)]) Q) δ) := by
          rw [app_is (ds := K.map stT) rfl (cons_is (b := .f (stT (q.2.2, s.2 + q.2.1.length))) (st1 K Q) rfl rfl) (by rw [List.length_map]; exact cap100 (by omega))]
          show some (Out.nx (envL cs rs ms K Q _ _ _ _ _ _ _ |>.set 3 _) δ) = some (Out.nx (envL cs rs ms (K ++ [_]) Q _ _ _ _ _ _ _) δ)
          unfold envL
          rw [List.map_append]; rfl
        rw [seq_nx a1]
        have q1 : sTup (aCons (sVar 11) (aCons (s2 addA (sVar 6) (sB lenB (vCons (sVar 10) (vNil)))) (aCons (s2 addA (sVar 7) (sVar 9)) (aNil)))) (E (K ++ [(q.2.2, s.2 + q.2.1.length)]) Q) δ = some (.f (quT ((q.2.2, s.2 + q.2.1.length), w ++ [q.1])), δ) := tupm_is (cons_is (b := .f (.int q.2.2)) rfl rfl (cons_is (b := .f (.int (s.2 + q.2.1.length : Nat))) (len1 _ Q) rfl (cons_is (b := .f (.str (zOf (w ++ [q.1])))) (s2_is (a := .f (.str (zOf w))) (b := .f (.str (sg q.1))) rfl rfl (add_str hw)) rfl rfl))) (cap4 (show 3 ≤ 4 by omega))
        rw [app_is (ds := Q.map quT) rfl (cons_is (b := .f (quT ((q.2.2, s.2 + q.2.1.length), w ++ [q.1]))) q1 rfl rfl) (by rw [List.length_map]; exact cap100 (by omega))]
        show some (Out.nx (envL cs rs ms (K ++ [_]) Q _ _ _ _ _ _ _ |>.set 4 _) δ) = some (Out.nx (envL cs rs ms (K ++ [_]) (Q ++ [_]) _ _ _ _ _ _ _) δ)
        unfold envL
        rw [show (Q ++ [((q.2.2, s.2 + q.2.1.length), w ++ [q.1])]).map quT = Q.map quT ++ [quT ((q.2.2, s.2 + q.2.1.length), w ++ [q.1])] from List.map_append]; rfl
    · have hf : fits ms s.2 q.2 = false := by simpa using hf
      rw [hf] at c1
      refine turn K Q ?_ (by rw [sucR_cons, hf]; rfl) (by rw [sucR_cons, hf]; rfl) (by omega) (by omega)
      unfold bodyL
      rw [seq_nx b1, if_f (tAnd_f c1)]
      rfl
end K56
namespace K56
open PySem L2 Py
theorem cs_lt {cs : List Nat} (hs : SgOk cs) {c : Nat} (h : c ∈ cs) : c < 128 := by
  have : ∀ c ∈ abc5, c < 128 := by decide
  exact this c (sub_in hs.sub c h)
theorem quT_pl {p : Sq × List Nat} (h : ∀ c ∈ p.2, c < 128) : pl 3 (quT p) = true := by
  have z : PyData.strOk (zOf p.2) = true := by
    unfold PyData.strOk zOf
    simp only [List.all_toArray]
    exact List.all_eq_true.mpr fun c hc => decide_eq_true (by have := h c hc; omega)
  show ((true && (true && (PyData.strOk (zOf p.2) && true))) = true)
  rw [z]; rfl
def testL : MeT := sTest (s2 (eqD true) (sVar 4) (sLst (aNil)))
def bodyW : MeS := sSeq (sPop0 4 (gTp (gCn (gNm 5) (gCn (gNm 6) (gCn (gNm 7) (gNl)))))) (sSeq (sIfS (sTest (s2 (eqD false) (s2 ixB (s2 ixB (sVar 1) (sVar 5)) (sC (.int 0))) (sSl slA (sVar 2) (oYes (sVar 6)) (oNo)))) (sRet (sVar 7)) (sNop)) (sFor (mEnum (sVar 0)) (gTp (gCn (gNm 8) (gCn (gNm 9) (gNl)))) bodyL))
def resD : Option (List Nat) → D
  | some w => .str (zOf w)
  | none => .non
theorem zip_str {cs : List Nat} {st : List (List D × Nat)} (h : st.length = cs.length) : ((cs.zip st).map fun q => D.str (sg q.1)) = cs.map fun c => .str (sg c) := by
  rw [show (fun q : Nat × (List D × Nat) => D.str (sg q.1)) = (fun c => D.str (sg c)) ∘ Prod.fst from rfl, ← List.map_map, List.map_fst_zip (by omega)]
theorem zip_get {cs : List Nat} {st : List (List D × Nat)} {i : Nat} {q : Nat × (List D × Nat)} (h : (cs.zip st)[i]? = some q) : cs[i]? = some q.1 ∧ st[i]? = some q.2 := by
  rw [List.getElem?_zip_eq_some] at h
  exact h
theorem test_is {cs : List Nat} {rs : List Rw} {ms : List D} {K : List Sq} {Q : List (Sq × List Nat)} {x5 x6 x7 x8 x9 x10 x11 : Option B} (δ : DS) (hc : ∀ p ∈ Q, ∀ c ∈ p.2, c < 128) : testL (envL cs rs ms K Q x5 x6 x7 x8 x9 x10 x11) δ = some (!Q.isEmpty, δ) := by
  have hp : pl 4 (.lst (Q.map quT)) = true := List.all_eq_true.mpr fun d hd => by
    obtain ⟨p, hp, rfl⟩ := List.mem_map.mp hd
    exact quT_pl (hc p hp)
  refine sTest_is (s2_is (a := .w (.lst (Q.map quT))) (b := .o (.lst [])) rfl (lst_is (ds := []) rfl (Nat.zero_le _)) ?_)
  rw [eqD_pl (k := 4) (by decide) true (a := .w (.lst (Q.map quT))) (b := .o (.lst [])) hp rfl]
  show some (B.f (.bl (eqP (.lst (Q.map quT)) (.lst []) != true))) = _
  rw [eqP_lst_nil (k := 4) hp]
  cases Q <;> rfl
theorem least_run {cs : List Nat} {rs : List Rw} {ms : List D} (hs : SgOk cs) (hm : MOk cs.length rs) (hM : MkL ms) (hL : ms.length ≤ 33) (δ : DS) : ∀ (f : Nat) (K : List Sq) (Q : List (Sq × List Nat)) (x5 x6 x7 x8 x9 x10 x11 : Option B) (r : Option (List Nat)), Inv cs rs.length ms.length K Q → runN (accS rs ms) (sucS cs rs ms) f K Q = some r →
    ∃ o, whN testL bodyW f (envL cs rs ms K Q x5 x6 x7 x8 x9 x10 x11) δ = some o ∧ match r with | some w => o = .rt (.f (.str (zOf w))) δ | none => ∃ ρ, o = .nx ρ δ
  | 0, _, _, _, _, _, _, _, _, _, _, _, h => by cases h
  | f + 1, K, [], x5, x6, x7, x8, x9, x10, x11, r, hi, h => by
    cases h
    refine ⟨.nx (envL cs rs ms K [] x5 x6 x7 x8 x9 x10 x11) δ, ?_, _, rfl⟩
    rw [whN, test_is δ (by simp), Option.bind_some]
    rfl
  | f + 1, K, (s, w) :: q, x5, x6, x7, x8, x9, x10, x11, r, hi, h => by
    have hk := hi.kl hm.le hL
    have hql := hi.ql
    rw [List.length_cons] at hql
    obtain ⟨hbd, hwl, hwc⟩ := hi.q (s, w) (List.mem_cons_self ..)
    have hwl : w.length ≤ K.length := hwl
    obtain ⟨r0, hr⟩ : ∃ r0, rs[s.1]? = some r0 := ⟨_, List.getElem?_eq_getElem hbd.1⟩
    have hro := hm.row r0 (List.mem_of_getElem? hr)
    have h5 := subs_len cs hs.sub
    let E := envL cs rs ms K q (some (.f (.int s.1))) (some (.f (.int s.2))) (some (.f (.str (zOf w)))) x8 x9 x10 x11
    have p1 : sPop0 4 (gTp (gCn (gNm 5) (gCn (gNm 6) (gCn (gNm 7) (gNl))))) (envL cs rs ms K ((s, w) :: q) x5 x6 x7 x8 x9 x10 x11) δ = some (.nx E δ) := by
      unfold sPop0
      show (if (((s, w) :: q).map quT).length ≤ cap then _ else _) = _
      rw [List.length_map, List.length_cons, if_pos (cap100 (by omega))]
      rfl
    have t1 : sTest (s2 (eqD false) (s2 ixB (s2 ixB (sVar 1) (sVar 5)) (sC (.int 0))) (sSl slA (sVar 2) (oYes (sVar 6)) (oNo))) E δ = some (accS rs ms s, δ) := by
      have z : accS rs ms s = eqP (.tup r0.en) (.tup (ms.drop s.2)) := by
        unfold accS
        rw [hr]
      rw [z]
      exact sTest_is (s2_is (a := .f (.tup r0.en)) (b := .f (.tup (ms.drop s.2))) (s2_is (a := .f (rowD r0)) (b := .f (.int 0)) (s2_is (a := .f (rowsD rs)) (b := .f (.int s.1)) rfl rfl (rows_at hr)) rfl (ixB_tup (i := 0) rfl)) (sl_hi (k := s.2) rfl (yes_is rfl)) (eq_tup hro.en (hM.drop _)))
    have tt : testL (envL cs rs ms K ((s, w) :: q) x5 x6 x7 x8 x9 x10 x11) δ = some (true, δ) := test_is δ fun p hp c hc => cs_lt hs ((hi.q p hp).2.2 c hc)
    have h : (if accS rs ms s = true then _ else _) = some r := h
    rw [whN, tt, Option.bind_some]
    show ∃ o, (bodyW (envL cs rs ms K ((s, w) :: q) x5 x6 x7 x8 x9 x10 x11) δ).bind _ = some o ∧ _
    by_cases ha : accS rs ms s = true
    · rw [if_pos ha] at h
      cases h
      rw [ha] at t1
      refine ⟨.rt (.f (.str (zOf w))) δ, ?_, rfl⟩
      have z : bodyW (envL cs rs ms K ((s, w) :: q) x5 x6 x7 x8 x9 x10 x11) δ = some (.rt (.f (.str (zOf w))) δ) := by
        unfold bodyW
        rw [seq_nx p1]
        exact seq_rt ((if_t t1).trans (ret_is (b := .f (.str (zOf w))) rfl))
      rw [z]; rfl
    · rw [if_neg ha] at h
      rw [show accS rs ms s = false from by simpa using ha] at t1
      have hz : (cs.zip r0.st).length ≤ 5 := by rw [List.length_zip]; omega
      obtain ⟨y8, y9, y10, y11, e⟩ := loopL (cs := cs) hM s w hr (by omega) δ (cs.zip r0.st) 0 K q x8 x9 x10 x11 (fun i q' hq => by rw [Nat.zero_add]; exact (zip_get hq).2) (fun q' hq => by
        obtain ⟨a, b, _⟩ := hro.ok _ (List.of_mem_zip (show (q'.1, q'.2) ∈ _ from hq)).2
        exact ⟨a, b⟩) (by omega) (by omega)
      have hsu : sucS cs rs ms s = sucR ms s.2 (cs.zip r0.st) := by
        unfold sucS
        rw [hr]
      rw [← hsu, zip_str hro.st] at e
      have z : bodyW (envL cs rs ms K ((s, w) :: q) x5 x6 x7 x8 x9 x10 x11) δ = some (.nx (envL cs rs ms (addK K (sucS cs rs ms s)) (addQ K q w (sucS cs rs ms s)) (some (.f (.int s.1))) (some (.f (.int s.2))) (some (.f (.str (zOf w)))) y8 y9 y10 y11) δ) := by
        unfold bodyW
        rw [seq_nx p1, seq_nx (ρ1 := E) (δ1 := δ) ((if_f t1).trans rfl), sFor_is (ds := enumD 0 (cs.map fun c => .str (sg c))) (δ1 := δ) (by
          show some ((enumD 0 (chs (zOf cs)), false), δ) = _
          rw [chs_z])]
        exact e
      rw [z, Option.bind_some]
      exact least_run hs hm hM hL δ f _ _ _ _ _ _ _ _ _ r (hi.step (sucS_ok hm)) h
theorem least_is {cs : List Nat} {rs : List Rw} {ms : List D} (hs : SgOk cs) (hm : MOk cs.length rs) (hM : MkL ms) (hL : ms.length ≤ 33) {f : Nat} {r : Option (List Nat)} (h : runN (accS rs ms) (sucS cs rs ms) f [] [((0, 0), [])] = some r) (δ : DS) : m__law_least [.str (zOf cs), rowsD rs, .tup ms] δ = some (.f (resD r), δ) := by
  have hi : Inv cs rs.length ms.length [] [((0, 0), [])] := ⟨.nil, by simp, fun p hp => by
    rw [List.mem_singleton] at hp; subst hp
    exact ⟨⟨hm.ne, Nat.zero_le _⟩, Nat.zero_le _, by simp⟩, by simp⟩
  obtain ⟨o, e, ho⟩ := least_run hs hm hM hL δ f [] [((0, 0), [])] none none none none none none none r hi h
  refine fn_rt (b := .f (resD r)) ?_
  show mb__law_least [some (.f (.str (zOf cs))), some (.f (rowsD rs)), some (.f (.tup ms)), none, none, none, none, none, none, none, none, none] δ = _
  unfold mb__law_least
  have z0 : ("" : PySem.Str) = zOf [] := by decide +kernel
  have q1 : sTup (aCons (sC (.int 0)) (aCons (sC (.int 0)) (aCons (sC (.str "")) (aNil)))) [some (.f (.str (zOf cs))), some (.f (rowsD rs)), some (.f (.tup ms)), none, none, none, none, none, none, none, none, none] δ = some (.f (quT ((0, 0), [])), δ) := by
    rw [z0]
    exact tupm_is (c_is (c_is (c_is rfl))) (cap4 (show 3 ≤ 4 by omega))
  have q0 : sPar [3, 4] (bCons (sLst (aNil)) (bCons (sLst (aCons (sTup (aCons (sC (.int 0)) (aCons (sC (.int 0)) (aCons (sC (.str "")) (aNil))))) (aNil))) (bNil))) [some (.f (.str (zOf cs))), some (.f (rowsD rs)), some (.f (.tup ms)), none, none, none, none, none, none, none, none, none] δ = some (.nx (envL cs rs ms [] [((0, 0), [])] none none none none none none none) δ) := (par_is (bs := [.o (.lst []), .o (.lst [quT ((0, 0), [])])]) (bcons_is (b := .o (.lst [])) (lst_is (ds := []) rfl (Nat.zero_le _)) rfl (bcons_is (b := .o (.lst [quT ((0, 0), [])])) (lst_is (ds := [quT ((0, 0), [])]) (cons_is (b := .f (quT ((0, 0), []))) q1 rfl rfl) (cap4 (show 1 ≤ 4 by omega))) rfl rfl)) rfl).trans rfl
  rw [seq_nx q0]
  have e := sWh_of e
  cases r with
  | some w =>
    have ho : o = .rt (.f (.str (zOf w))) δ := ho
    subst ho
    exact seq_rt (m := sWh testL bodyW) e
  | none =>
    obtain ⟨ρ, ho⟩ := (show ∃ ρ, o = .nx ρ δ from ho)
    subst ho
    refine (seq_nx (m := sWh testL bodyW) e).trans ?_
    exact ret_is (b := .f .non) rfl
end K56
namespace K56
open PySem L2 Py
/-! ### the search of the program: read -/
def keyR (s : Sq) : List Key := [.inl s.1, .inl s.2]
def dk (s : Sq) : D × D := (stT s, .bl true)
theorem keyR_inj {s t : Sq} (h : keyR s = keyR t) : s = t := by
  unfold keyR at h
  simp only [List.cons.injEq, Sum.inl.injEq, and_true] at h
  exact Prod.ext (by omega) (by omega)
theorem key_eq (s t : Sq) : decide (toKK true (dk t).1 = some (keyR s)) = decide (s = t) := by
  have e : toKK true (dk t).1 = some (keyR t) := rfl
  rw [e]
  by_cases h : s = t
  · subst h; simp
  · rw [decide_eq_false h]
    exact decide_eq_false fun z => h (keyR_inj (Option.some.inj z).symm)
theorem any_K (s : Sq) : ∀ K : List Sq, ((K.map dk).any fun p => decide (toKK true p.1 = some (keyR s))) = decide (s ∈ K)
  | [] => rfl
  | t :: K => by
    rw [List.map_cons, List.any_cons, any_K s K, key_eq]
    by_cases h : s = t
    · subst h; simp
    · simp [h]
theorem get_K (s : Sq) (K : List Sq) : (dGet true (K.map dk) (keyR s)).isSome = decide (s ∈ K) := by
  unfold dGet
  rw [Option.isSome_map, ← any_K]
  generalize K.map dk = l
  induction l with
  | nil => rfl
  | cons a l ih =>
    rw [List.find?_cons, List.any_cons]
    cases decide (toKK true a.1 = some (keyR s)) with
    | true => rfl
    | false => exact ih
theorem put_K {s : Sq} {K : List Sq} (h : s ∉ K) : dPut true (K.map dk) (keyR s) (.bl true) = (K ++ [s]).map dk := by
  unfold dPut
  rw [any_K, decide_eq_false h, if_neg (by simp), List.map_append]
  rfl
theorem in_D (s : Sq) (K : List Sq) : inA true (.f (stT s)) (.w (.dct true (K.map dk))) = some (.f (.bl (!decide (s ∈ K)))) := by
  show orB (inD true) (inL true) (.f (stT s)) (.w (.dct true (K.map dk))) = _
  have e : inD true (.f (stT s)) (.w (.dct true (K.map dk))) = some (.f (.bl (!decide (s ∈ K)))) := by
    show some (B.f (.bl ((dGet true (K.map dk) (keyR s)).isSome != true))) = _
    rw [get_K]
    cases decide (s ∈ K) <;> rfl
  unfold orB
  rw [e]
def bodyR : MeS := sSeq (sAsgT (gTp (gCn (gNm 9) (gCn (gNm 10) (gNl)))) (sMth "Machine" "step" m_Machine_step (sVar 0) (aCons (sVar 5) (aCons (sVar 8) (aNil))))) (sSeq (sAsg 11 (sTup (aCons (sVar 10) (aCons (s2 addA (sVar 6) (sB lenB (vCons (sVar 9) (vNil)))) (aNil))))) (sIfS (tAndM (sTest (s2 (eqD false) (sSl slA (sVar 1) (oYes (sVar 6)) (oYes (s2 addA (sVar 6) (sB lenB (vCons (sVar 9) (vNil)))))) (sVar 9))) (sTest (s2 (inA true) (sVar 11) (sVar 2)))) (sSeq (sSetD 2 (sVar 11) (sC (.bl true))) (sApp 3 (aCons (sTup (aStar (sVar 11) (aCons (s2 addA (sVar 7) (sVar 8)) (aNil)))) (aNil)))) (sNop)))
def envR (cs : List Nat) (rs : List Rw) (ms : List D) (K : List Sq) (W : List (Sq × List Nat)) (x4 x5 x6 x7 x8 x9 x10 x11 : Option B) : En := [some (.f (mach cs rs)), some (.f (.tup ms)), some (.o (.dct true (K.map dk))), some (.o (.lst (W.map quT))), x4, x5, x6, x7, x8, x9, x10, x11]
theorem addQ_pre (P Q : List (Sq × List Nat)) (K : List Sq) (w : List Nat) (l : List (Nat × Sq)) : addQ K (P ++ Q) w l = P ++ addQ K Q w l := by
  unfold addQ
  rw [List.append_assoc]
theorem loopR {cs : List Nat} {rs : List Rw} {ms : List D} (hs : SgOk cs) (hM : MkL ms) (s : Sq) (w : List Nat) {r : Rw} (hr : rs[s.1]? = some r) (hw : w.length ≤ 500) (x4 : Option B) (δ : DS) : ∀ (l : List (Nat × (List D × Nat))) (j : Nat) (K : List Sq) (W : List (Sq × List Nat)) (x8 x9 x10 x11 : Option B), (∀ i q, l[i]? = some q → cs[j + i]? = some q.1 ∧ r.st[j + i]? = some q.2) → (∀ q ∈ l, MkL q.2.1 ∧ q.2.1.length ≤ 4) → K.length + l.length ≤ 1000 → W.length + l.length ≤ 1000 →
    ∃ y8 y9 y10 y11, forF (gNm 8) bodyR (l.map fun q => .str (sg q.1)) (envR cs rs ms K W x4 (some (.f (.int s.1))) (some (.f (.int s.2))) (some (.f (.str (zOf w)))) x8 x9 x10 x11) δ = some (.nx (envR cs rs ms (addK K (sucR ms s.2 l)) (addQ K W w (sucR ms s.2 l)) x4 (some (.f (.int s.1))) (some (.f (.int s.2))) (some (.f (.str (zOf w)))) y8 y9 y10 y11) δ)
  | [], j, K, W, x8, x9, x10, x11, _, _, _, _ => ⟨x8, x9, x10, x11, by
    show some (Out.nx (envR cs rs ms K W _ _ _ _ _ _ _ _) δ) = _
    unfold addK addQ
    simp [sucR, news]⟩
  | q :: l, j, K, W, x8, x9, x10, x11, h1, h2, h3, h4 => by
    rw [List.length_cons] at h3 h4
    obtain ⟨hqc, hq⟩ : cs[j]? = some q.1 ∧ r.st[j]? = some q.2 := h1 0 q rfl
    obtain ⟨hq1, hq2⟩ := h2 q (List.mem_cons_self ..)
    have h1' : ∀ i q', l[i]? = some q' → cs[j + 1 + i]? = some q'.1 ∧ r.st[j + 1 + i]? = some q'.2 := fun i q' h => by
      have := h1 (i + 1) q' (by simpa using h)
      rw [show j + 1 + i = j + (i + 1) by omega]
      exact this
    have h2' : ∀ q' ∈ l, MkL q'.2.1 ∧ q'.2.1.length ≤ 4 := fun q' hq' => h2 q' (List.mem_cons_of_mem _ hq')
    let E0 := fun (x11 : Option B) (K : List Sq) (W : List (Sq × List Nat)) => envR cs rs ms K W x4 (some (.f (.int s.1))) (some (.f (.int s.2))) (some (.f (.str (zOf w)))) (some (.f (.str (sg q.1)))) (some (.f (.tup q.2.1))) (some (.f (.int q.2.2))) x11
    let E := E0 (some (.f (stT (q.2.2, s.2 + q.2.1.length))))
    have b1 : sAsgT (gTp (gCn (gNm 9) (gCn (gNm 10) (gNl)))) (sMth "Machine" "step" m_Machine_step (sVar 0) (aCons (sVar 5) (aCons (sVar 8) (aNil)))) (envR cs rs ms K W x4 (some (.f (.int s.1))) (some (.f (.int s.2))) (some (.f (.str (zOf w)))) (some (.f (.str (sg q.1)))) x9 x10 x11) δ = some (.nx (E0 x11 K W) δ) := by
      unfold sAsgT
      rw [mth_is (cs := cs) (rs := rs) (mn := "step") (b := .f (stD q.2)) (δ1 := δ) (δ2 := δ) (ds := [.int s.1, .str (sg q.1)]) (by decide +kernel) rfl (cons_is (b := .f (.int s.1)) rfl rfl (cons_is (b := .f (.str (sg q.1))) rfl rfl rfl)) (mstep_is hs.sub hr hqc hq δ) rfl]
      rfl
    have len1 : ∀ x K W, s2 addA (sVar 6) (sB lenB (vCons (sVar 9) (vNil))) (E0 x K W) δ = some (.f (.int (s.2 + q.2.1.length : Nat)), δ) := fun x K W => s2_is (a := .f (.int s.2)) (b := .f (.int q.2.1.length)) rfl (b_is (bs := [.f (.tup q.2.1)]) (vcons_is rfl rfl) rfl) rfl
    have b2 : sAsg 11 (sTup (aCons (sVar 10) (aCons (s2 addA (sVar 6) (sB lenB (vCons (sVar 9) (vNil)))) (aNil)))) (E0 x11 K W) δ = some (.nx (E K W) δ) := (asg_is (b := .f (stT (q.2.2, s.2 + q.2.1.length))) (tupm_is (cons_is (b := .f (.int q.2.2)) rfl rfl (cons_is (b := .f (.int (s.2 + q.2.1.length : Nat))) (len1 _ K W) rfl rfl)) (cap4 (show 2 ≤ 4 by omega))) rfl).trans rfl
    have c1 : sTest (s2 (eqD false) (sSl slA (sVar 1) (oYes (sVar 6)) (oYes (s2 addA (sVar 6) (sB lenB (vCons (sVar 9) (vNil)))))) (sVar 9)) (E K W) δ = some (fits ms s.2 q.2, δ) := sTest_is (s2_is (a := .f (.tup ((ms.drop s.2).take q.2.1.length))) (b := .f (.tup q.2.1)) (sl_mid (k := s.2) (j := q.2.1.length) rfl (yes_is rfl) (yes_is (len1 _ K W))) rfl (eq_tup ((hM.drop _).take _) hq1))
    have c2 : sTest (s2 (inA true) (sVar 11) (sVar 2)) (E K W) δ = some (!decide ((q.2.2, s.2 + q.2.1.length) ∈ K), δ) := sTest_is (s2_is (a := .f (stT (q.2.2, s.2 + q.2.1.length))) (b := .w (.dct true (K.map dk))) rfl rfl (in_D _ _))
    have turn : ∀ K' W', bodyR (envR cs rs ms K W x4 (some (.f (.int s.1))) (some (.f (.int s.2))) (some (.f (.str (zOf w)))) (some (.f (.str (sg q.1)))) x9 x10 x11) δ = some (.nx (E K' W') δ) → addK K' (sucR ms s.2 l) = addK K (sucR ms s.2 (q :: l)) → addQ K' W' w (sucR ms s.2 l) = addQ K W w (sucR ms s.2 (q :: l)) → K'.length ≤ K.length + 1 → W'.length ≤ W.length + 1 → ∃ y8 y9 y10 y11, forF (gNm 8) bodyR ((q :: l).map fun q => .str (sg q.1)) (envR cs rs ms K W x4 (some (.f (.int s.1))) (some (.f (.int s.2))) (some (.f (.str (zOf w)))) x8 x9 x10 x11) δ = some (.nx (envR cs rs ms (addK K (sucR ms s.2 (q :: l))) (addQ K W w (sucR ms s.2 (q :: l))) x4 (some (.f (.int s.1))) (some (.f (.int s.2))) (some (.f (.str (zOf w)))) y8 y9 y10 y11) δ) := fun K' W' e eK eQ lK lQ => by
      obtain ⟨y8, y9, y10, y11, z⟩ := loopR (cs := cs) hs hM s w hr hw x4 δ l (j + 1) K' W' (some (.f (.str (sg q.1)))) (some (.f (.tup q.2.1))) (some (.f (.int q.2.2))) (some (.f (stT (q.2.2, s.2 + q.2.1.length)))) h1' h2' (by omega) (by omega)
      refine ⟨y8, y9, y10, y11, ?_⟩
      rw [List.map_cons, for_cons (m := bodyR) (ρ1 := envR cs rs ms K W x4 (some (.f (.int s.1))) (some (.f (.int s.2))) (some (.f (.str (zOf w)))) (some (.f (.str (sg q.1)))) x9 x10 x11) rfl e, ← eK, ← eQ]
      exact z
    by_cases hf : fits ms s.2 q.2 = true
    · rw [hf] at c1
      by_cases hk : (q.2.2, s.2 + q.2.1.length) ∈ K
      · rw [decide_eq_true hk] at c2
        obtain ⟨a, b⟩ := addK_in (p := (q.1, (q.2.2, s.2 + q.2.1.length))) (l := sucR ms s.2 l) W w hk
        refine turn K W ?_ (by rw [sucR_cons, if_pos hf, a]) (by rw [sucR_cons, if_pos hf, b]) (by omega) (by omega)
        unfold bodyR
        rw [seq_nx b1, seq_nx b2, if_f ((tAnd_t c1).trans c2)]
        rfl
      · rw [decide_eq_false hk] at c2
        obtain ⟨a, b⟩ := addK_out (p := (q.1, (q.2.2, s.2 + q.2.1.length))) (l := sucR ms s.2 l) W w hk
        refine turn (K ++ [(q.2.2, s.2 + q.2.1.length)]) (W ++ [((q.2.2, s.2 + q.2.1.length), w ++ [q.1])]) ?_ (by rw [sucR_cons, if_pos hf, a]) (by rw [sucR_cons, if_pos hf, b]) (by rw [List.length_append]; exact Nat.le_refl _) (by rw [List.length_append]; exact Nat.le_refl _)
        unfold bodyR
        rw [seq_nx b1, seq_nx b2, if_t ((tAnd_t c1).trans c2)]
        have a1 : sSetD 2 (sVar 11) (sC (.bl true)) (E K W) δ = some (.nx (E (K ++ [(q.2.2, s.2 + q.2.1.length)]) W) δ) := by
          unfold sSetD
          show (if (K.map dk).length ≤ cap then some (Out.nx ((E K W).set 2 (some (.o (.dct true (dPut true (K.map dk) (keyR (q.2.2, s.2 + q.2.1.length)) (.bl true)))))) δ) else none) = _
          rw [List.length_map, if_pos (cap100 (by omega)), put_K hk]
          rfl
        rw [seq_nx a1]
        have q1 : sTup (aStar (sVar 11) (aCons (s2 addA (sVar 7) (sVar 8)) (aNil))) (E (K ++ [(q.2.2, s.2 + q.2.1.length)]) W) δ = some (.f (quT ((q.2.2, s.2 + q.2.1.length), w ++ [q.1])), δ) := by
          refine tupm_is (ds := [.int q.2.2, .int (s.2 + q.2.1.length : Nat), .str (zOf (w ++ [q.1]))]) ?_ (cap4 (show 3 ≤ 4 by omega))
          have z : aCons (s2 addA (sVar 7) (sVar 8)) (aNil) (E (K ++ [(q.2.2, s.2 + q.2.1.length)]) W) δ = some ([.str (zOf (w ++ [q.1]))], δ) := cons_is (b := .f (.str (zOf (w ++ [q.1])))) (s2_is (a := .f (.str (zOf w))) (b := .f (.str (sg q.1))) rfl rfl (add_str hw)) rfl rfl
          unfold aStar
          show Option.bind (aCons (s2 addA (sVar 7) (sVar 8)) (aNil) (E (K ++ [(q.2.2, s.2 + q.2.1.length)]) W) δ) _ = _
          rw [z]; rfl
        rw [app_is (ds := W.map quT) rfl (cons_is (b := .f (quT ((q.2.2, s.2 + q.2.1.length), w ++ [q.1]))) q1 rfl rfl) (by rw [List.length_map]; exact cap100 (by omega))]
        show some (Out.nx (envR cs rs ms (K ++ [_]) W _ _ _ _ _ _ _ _ |>.set 3 _) δ) = some (Out.nx (envR cs rs ms (K ++ [_]) (W ++ [_]) _ _ _ _ _ _ _ _) δ)
        unfold envR
        rw [show (W ++ [((q.2.2, s.2 + q.2.1.length), w ++ [q.1])]).map quT = W.map quT ++ [quT ((q.2.2, s.2 + q.2.1.length), w ++ [q.1])] from List.map_append]; rfl
    · have hf : fits ms s.2 q.2 = false := by simpa using hf
      rw [hf] at c1
      refine turn K W ?_ (by rw [sucR_cons, hf]; rfl) (by rw [sucR_cons, hf]; rfl) (by omega) (by omega)
      unfold bodyR
      rw [seq_nx b1, seq_nx b2, if_f (tAnd_f c1)]
      rfl
end K56
namespace K56
open PySem L2 Py
def testR : MeT := sTest (s2 ltA (sVar 4) (sB lenB (vCons (sVar 3) (vNil))))
def bodyX : MeS := sSeq (sAsgT (gTp (gCn (gNm 5) (gCn (gNm 6) (gCn (gNm 7) (gNl))))) (s2 ixB (sVar 3) (sVar 4))) (sSeq (sAug 4 (fun a b => a + b) (sC (.int 1))) (sSeq (sIfS (sTest (s2 (eqD false) (s2 ixB (sOix "Machine" m_Machined__getitemd_ (sVar 0) (sVar 5)) (sC (.int 0))) (sSl slA (sVar 1) (oYes (sVar 6)) (oNo)))) (sRet (sVar 7)) (sNop)) (sFor (mIt (sPrp "Machine" m_Machine_letters (sVar 0))) (gNm 8) bodyR)))
theorem prp_is {cs : List Nat} {rs : List Rw} {ρ : En} {i : Nat} {δ : DS} (h : sVar i ρ δ = some (.f (mach cs rs), δ)) : sPrp "Machine" m_Machine_letters (sVar i) ρ δ = some (.f (.str (zOf cs)), δ) := by
  unfold sPrp
  rw [h, Option.bind_some]
  show (if ("Machine" : PySem.Str) = "Machine" then (m_Machine_letters [mach cs rs] δ).bind fun q => if q.1.isW then none else some q else none) = _
  rw [if_pos rfl, let_prop]; rfl
theorem testR_is {cs : List Nat} {rs : List Rw} {ms : List D} {K : List Sq} {P Q : List (Sq × List Nat)} {x5 x6 x7 x8 x9 x10 x11 : Option B} (δ : DS) : testR (envR cs rs ms K (P ++ Q) (some (.f (.int P.length))) x5 x6 x7 x8 x9 x10 x11) δ = some (!Q.isEmpty, δ) := by
  refine sTest_is (s2_is (a := .f (.int P.length)) (b := .f (.int ((P ++ Q).map quT).length)) rfl (b_is (bs := [.w (.lst ((P ++ Q).map quT))]) (vcons_is rfl rfl) rfl) ?_)
  show some (B.f (.bl (decide ((P.length : Int) < (((P ++ Q).map quT).length : Nat))))) = _
  rw [List.length_map, List.length_append]
  cases Q with
  | nil => rw [decide_eq_false (by simp)]; rfl
  | cons a l => rw [decide_eq_true (by simp; omega)]; rfl
theorem read_run {cs : List Nat} {rs : List Rw} {ms : List D} (hs : SgOk cs) (hm : MOk cs.length rs) (hM : MkL ms) (hL : ms.length ≤ 33) (δ : DS) : ∀ (f : Nat) (K : List Sq) (P Q : List (Sq × List Nat)) (x5 x6 x7 x8 x9 x10 x11 : Option B) (r : Option (List Nat)), Inv cs rs.length ms.length K Q → P.length + Q.length = K.length → runN (accS rs ms) (sucS cs rs ms) f K Q = some r →
    ∃ o, whN testR bodyX f (envR cs rs ms K (P ++ Q) (some (.f (.int P.length))) x5 x6 x7 x8 x9 x10 x11) δ = some o ∧ match r with | some w => o = .rt (.f (.str (zOf w))) δ | none => ∃ ρ, o = .nx ρ δ
  | 0, _, _, _, _, _, _, _, _, _, _, _, _, _, h => by cases h
  | f + 1, K, P, [], x5, x6, x7, x8, x9, x10, x11, r, hi, hpq, h => by
    cases h
    refine ⟨.nx (envR cs rs ms K (P ++ []) (some (.f (.int P.length))) x5 x6 x7 x8 x9 x10 x11) δ, ?_, _, rfl⟩
    rw [whN, testR_is δ, Option.bind_some]
    rfl
  | f + 1, K, P, (s, w) :: q, x5, x6, x7, x8, x9, x10, x11, r, hi, hpq, h => by
    have hk := hi.kl hm.le hL
    rw [List.length_cons] at hpq
    obtain ⟨hbd, hwl, hwc⟩ := hi.q (s, w) (List.mem_cons_self ..)
    have hwl : w.length ≤ K.length := hwl
    obtain ⟨r0, hr⟩ : ∃ r0, rs[s.1]? = some r0 := ⟨_, List.getElem?_eq_getElem hbd.1⟩
    have hro := hm.row r0 (List.mem_of_getElem? hr)
    have h5 := subs_len cs hs.sub
    let W := P ++ (s, w) :: q
    have hW : W.length = K.length := by show (P ++ (s, w) :: q).length = _; rw [List.length_append, List.length_cons]; omega
    let E := envR cs rs ms K W (some (.f (.int (P.length + 1 : Nat)))) (some (.f (.int s.1))) (some (.f (.int s.2))) (some (.f (.str (zOf w)))) x8 x9 x10 x11
    have p1 : sAsgT (gTp (gCn (gNm 5) (gCn (gNm 6) (gCn (gNm 7) (gNl))))) (s2 ixB (sVar 3) (sVar 4)) (envR cs rs ms K W (some (.f (.int P.length))) x5 x6 x7 x8 x9 x10 x11) δ = some (.nx (envR cs rs ms K W (some (.f (.int P.length))) (some (.f (.int s.1))) (some (.f (.int s.2))) (some (.f (.str (zOf w)))) x8 x9 x10 x11) δ) := by
      unfold sAsgT
      rw [s2_is (a := .w (.lst (W.map quT))) (b := .f (.int P.length)) (z := .f (quT (s, w))) (δ1 := δ) (δ2 := δ) rfl rfl (ixB_wlst (by
        rw [List.getElem?_map, show W[P.length]? = some (s, w) from by
          show (P ++ (s, w) :: q)[P.length]? = _
          simp]
        rfl))]
      rfl
    have p2 : sAug 4 (fun a b => a + b) (sC (.int 1)) (envR cs rs ms K W (some (.f (.int P.length))) (some (.f (.int s.1))) (some (.f (.int s.2))) (some (.f (.str (zOf w)))) x8 x9 x10 x11) δ = some (.nx E δ) := rfl
    have t1 : sTest (s2 (eqD false) (s2 ixB (sOix "Machine" m_Machined__getitemd_ (sVar 0) (sVar 5)) (sC (.int 0))) (sSl slA (sVar 1) (oYes (sVar 6)) (oNo))) E δ = some (accS rs ms s, δ) := by
      have z : accS rs ms s = eqP (.tup r0.en) (.tup (ms.drop s.2)) := by
        unfold accS
        rw [hr]
      rw [z]
      exact sTest_is (s2_is (a := .f (.tup r0.en)) (b := .f (.tup (ms.drop s.2))) (s2_is (a := .f (rowD r0)) (b := .f (.int 0)) (oix_is (cs := cs) (rs := rs) hr rfl rfl) rfl (ixB_tup (i := 0) rfl)) (sl_hi (k := s.2) rfl (yes_is rfl)) (eq_tup hro.en (hM.drop _)))
    have h : (if accS rs ms s = true then _ else _) = some r := h
    rw [whN, testR_is δ, Option.bind_some]
    show ∃ o, (bodyX (envR cs rs ms K W (some (.f (.int P.length))) x5 x6 x7 x8 x9 x10 x11) δ).bind _ = some o ∧ _
    by_cases ha : accS rs ms s = true
    · rw [if_pos ha] at h
      cases h
      rw [ha] at t1
      refine ⟨.rt (.f (.str (zOf w))) δ, ?_, rfl⟩
      have z : bodyX (envR cs rs ms K W (some (.f (.int P.length))) x5 x6 x7 x8 x9 x10 x11) δ = some (.rt (.f (.str (zOf w))) δ) := by
        unfold bodyX
        rw [seq_nx p1, seq_nx p2]
        exact seq_rt ((if_t t1).trans (ret_is (b := .f (.str (zOf w))) rfl))
      rw [z]; rfl
    · rw [if_neg ha] at h
      rw [show accS rs ms s = false from by simpa using ha] at t1
      have hz : (cs.zip r0.st).length ≤ 5 := by rw [List.length_zip]; omega
      obtain ⟨y8, y9, y10, y11, e⟩ := loopR (cs := cs) hs hM s w hr (by omega) (some (.f (.int (P.length + 1 : Nat)))) δ (cs.zip r0.st) 0 K W x8 x9 x10 x11 (fun i q' hq => by rw [Nat.zero_add]; exact zip_get hq) (fun q' hq => by
        obtain ⟨a, b, _⟩ := hro.ok _ (List.of_mem_zip (show (q'.1, q'.2) ∈ _ from hq)).2
        exact ⟨a, b⟩) (by omega) (by omega)
      have hsu : sucS cs rs ms s = sucR ms s.2 (cs.zip r0.st) := by
        unfold sucS
        rw [hr]
      have hWQ : addQ K W w (sucS cs rs ms s) = (P ++ [(s, w)]) ++ addQ K q w (sucS cs rs ms s) := by
        rw [← addQ_pre, List.append_assoc]; rfl
      rw [← hsu, zip_str hro.st, hWQ] at e
      have z : bodyX (envR cs rs ms K W (some (.f (.int P.length))) x5 x6 x7 x8 x9 x10 x11) δ = some (.nx (envR cs rs ms (addK K (sucS cs rs ms s)) ((P ++ [(s, w)]) ++ addQ K q w (sucS cs rs ms s)) (some (.f (.int (P.length + 1 : Nat)))) (some (.f (.int s.1))) (some (.f (.int s.2))) (some (.f (.str (zOf w)))) y8 y9 y10 y11) δ) := by
        unfold bodyX
        rw [seq_nx p1, seq_nx p2, seq_nx (ρ1 := E) (δ1 := δ) ((if_f t1).trans rfl), sFor_is (ds := cs.map fun c => .str (sg c)) (δ1 := δ) (by
          unfold mIt
          rw [prp_is (cs := cs) (rs := rs) rfl, Option.bind_some]
          show some ((chs (zOf cs), false), δ) = _
          rw [chs_z])]
        exact e
      rw [z, Option.bind_some]
      have hl : (P ++ [(s, w)]).length = P.length + 1 := by rw [List.length_append]; rfl
      rw [← hl]
      refine read_run hs hm hM hL δ f _ (P ++ [(s, w)]) _ _ _ _ _ _ _ _ r (hi.step (sucS_ok hm)) ?_ h
      rw [hl]
      unfold addK addQ
      rw [List.length_append, List.length_append, List.length_map, List.length_map]
      omega
theorem read_is {cs : List Nat} {rs : List Rw} {ms : List D} (hs : SgOk cs) (hm : MOk cs.length rs) (hM : MkL ms) (hL : ms.length ≤ 33) {f : Nat} {r : Option (List Nat)} (h : runN (accS rs ms) (sucS cs rs ms) f [(0, 0)] [((0, 0), [])] = some r) (δ : DS) : m_read [mach cs rs, .tup ms] δ = some (.f (resD r), δ) := by
  have hi : Inv cs rs.length ms.length [(0, 0)] [((0, 0), [])] := ⟨by simp, fun t ht => by
    rw [List.mem_singleton] at ht; subst ht
    exact ⟨hm.ne, Nat.zero_le _⟩, fun p hp => by
    rw [List.mem_singleton] at hp; subst hp
    exact ⟨⟨hm.ne, Nat.zero_le _⟩, Nat.zero_le _, by simp⟩, by simp⟩
  obtain ⟨o, e, ho⟩ := read_run hs hm hM hL δ f [(0, 0)] [] [((0, 0), [])] none none none none none none none r hi rfl h
  refine fn_rt (b := .f (resD r)) ?_
  show mb_read [some (.f (mach cs rs)), some (.f (.tup ms)), none, none, none, none, none, none, none, none, none, none] δ = _
  unfold mb_read
  rw [seq_nx (ρ1 := [some (.f (mach cs rs)), some (.f (.tup ms)), none, none, none, none, none, none, none, none, none, none]) (δ1 := δ) ((if_f (δ1 := δ) (tNot_is (c := true) (sTest_is (call_is (ds := [.tup ms]) (cons_is (b := .f (.tup ms)) rfl rfl rfl) (are_ok hM (cap100 (by omega)) δ) rfl)))).trans rfl)]
  have z0 : ("" : PySem.Str) = zOf [] := by decide +kernel
  have q1 : sTup (aCons (sC (.int 0)) (aCons (sC (.int 0)) (aCons (sC (.str "")) (aNil)))) [some (.f (mach cs rs)), some (.f (.tup ms)), none, none, none, none, none, none, none, none, none, none] δ = some (.f (quT ((0, 0), [])), δ) := by
    rw [z0]
    exact tupm_is (c_is (c_is (c_is rfl))) (cap4 (show 3 ≤ 4 by omega))
  have q2 : sDisp true [(sTup (aCons (sC (.int 0)) (aCons (sC (.int 0)) (aNil))), sC (.bl true))] [some (.f (mach cs rs)), some (.f (.tup ms)), none, none, none, none, none, none, none, none, none, none] δ = some (.o (.dct true ([(0, 0)].map dk)), δ) := rfl
  have q0 : sPar [2, 3, 4] (bCons (sDisp true [(sTup (aCons (sC (.int 0)) (aCons (sC (.int 0)) (aNil))), sC (.bl true))]) (bCons (sLst (aCons (sTup (aCons (sC (.int 0)) (aCons (sC (.int 0)) (aCons (sC (.str "")) (aNil))))) (aNil))) (bCons (sC (.int 0)) (bNil)))) [some (.f (mach cs rs)), some (.f (.tup ms)), none, none, none, none, none, none, none, none, none, none] δ = some (.nx (envR cs rs ms [(0, 0)] ([] ++ [((0, 0), [])]) (some (.f (.int ([] : List (Sq × List Nat)).length))) none none none none none none none) δ) := (par_is (bs := [.o (.dct true ([(0, 0)].map dk)), .o (.lst [quT ((0, 0), [])]), .f (.int 0)]) (bcons_is (b := .o (.dct true ([(0, 0)].map dk))) q2 rfl (bcons_is (b := .o (.lst [quT ((0, 0), [])])) (lst_is (ds := [quT ((0, 0), [])]) (cons_is (b := .f (quT ((0, 0), []))) q1 rfl rfl) (cap4 (show 1 ≤ 4 by omega))) rfl (bcons_is (b := .f (.int 0)) rfl rfl rfl))) rfl).trans rfl
  rw [seq_nx q0]
  have e := sWh_of e
  cases r with
  | some w =>
    have ho : o = .rt (.f (.str (zOf w))) δ := ho
    subst ho
    exact seq_rt (m := sWh testR bodyX) e
  | none =>
    obtain ⟨ρ, ho⟩ := (show ∃ ρ, o = .nx ρ δ from ho)
    subst ho
    refine (seq_nx (m := sWh testR bodyX) e).trans ?_
    exact ret_is (b := .f .non) rfl
end K56
namespace K56
open PySem L2 Py
/-! ### repr -/
theorem rc_ok : ∀ q ∈ [39, 34], ∀ c ∈ abc5, ∀ d ∈ Builtin.Str.reprChar q c, d < 128 := by decide +kernel
theorem rq_ok (x : PySem.Str) : reprQuote x ∈ [39, 34] := by
  unfold reprQuote
  split <;> simp
theorem fold_ok (q : Nat) (hq : q ∈ [39, 34]) : ∀ (w : List Nat) (acc : Array Nat), (∀ c ∈ w, c ∈ abc5) → (∀ d ∈ acc.toList, d < 128) → ∀ d ∈ (w.foldl (fun out c => out ++ (Builtin.Str.reprChar q c).toArray) acc).toList, d < 128
  | [], acc, _, h => h
  | c :: w, acc, hw, h => by
    rw [List.foldl_cons]
    refine fold_ok q hq w _ (fun d hd => hw d (List.mem_cons_of_mem _ hd)) fun d hd => ?_
    rw [Array.toList_append] at hd
    rcases List.mem_append.mp hd with z | z
    · exact h d z
    · exact rc_ok q hq c (hw c (List.mem_cons_self ..)) d z
theorem repr_ok {w : List Nat} (hw : ∀ c ∈ w, c ∈ abc5) (hl : w.length ≤ 204) : PyData.strOk (reprText (zOf w)) = true ∧ (reprText (zOf w)).length ≤ sizeLine := by
  constructor
  · unfold PyData.strOk reprText
    rw [← Array.all_toList, Array.toList_push, ← Array.foldl_toList]
    refine List.all_eq_true.mpr fun d hd => decide_eq_true ?_
    have hq := rq_ok (zOf w)
    have hq2 : reprQuote (zOf w) < 128 := by
      simp only [List.mem_cons, List.not_mem_nil, or_false] at hq
      omega
    rcases List.mem_append.mp hd with z | z
    · have := fold_ok (reprQuote (zOf w)) hq w #[reprQuote (zOf w)] hw (fun d hd => by
        have hd : d ∈ [reprQuote (zOf w)] := hd
        rw [List.mem_singleton] at hd; omega) d z
      omega
    · rw [List.mem_singleton] at z; omega
  · refine Nat.le_trans (StrLaws.reprText_len (zOf w) fun c hc => ?_) ?_
    · have : c ∈ abc5 := hw c hc
      have h2 : ∀ c ∈ abc5, c < 16 ^ 8 := by decide
      exact h2 c this
    · rw [zlen]
      exact Nat.le_trans (show 10 * w.length + 2 ≤ 2042 by omega) (by decide)
def rpS : Option (List Nat) → PySem.Str
  | some w => reprText (zOf w)
  | none => "None"
theorem reprB_is {r : Option (List Nat)} (h : ∀ w, r = some w → w.length ≤ 204 ∧ ∀ c ∈ w, c ∈ abc5) : reprB [.f (resD r)] = some (.f (.str (rpS r))) ∧ pl 0 (.str (rpS r)) = true := by
  cases r with
  | none => exact ⟨rfl, by decide +kernel⟩
  | some w =>
    obtain ⟨a, b⟩ := h w rfl
    obtain ⟨c, d⟩ := repr_ok b a
    refine ⟨?_, c⟩
    show Option.bind (if (reprText (zOf w)).length ≤ sizeLine then some (reprText (zOf w)) else none) _ = _
    rw [if_pos d]; rfl
theorem eqv_str (x : PySem.Str) : PyData.eqv (.str x) (.str x) = true := by simp [PyData.eqv]
theorem ne_str {x : PySem.Str} (h : pl 0 (.str x) = true) : eqD true (.f (.str x)) (.f (.str x)) = some (.f (.bl false)) := by
  rw [eqD_pl (k := 0) (by decide) true (a := .f (.str x)) (b := .f (.str x)) h h]
  show some (B.f (.bl (PyData.eqv (.str x) (.str x) != true))) = _
  rw [eqv_str]; rfl
end K56
namespace K56
open PySem L2 Py
/-! ### the law -/
def envA (ns : List Int) (x2 : Option B) (cs : List Nat) (rs : List Rw) (x6 x7 x8 x9 x10 x11 : Option B) : En := [some (.f (.scr ns)), some (.f .drw), x2, some (.f (.str (zOf cs))), some (.f (rowsD rs)), some (.f (mach cs rs)), x6, x7, x8, x9, x10, x11]
noncomputable def againM : MeS := sSeq (sAsg 7 (sFrz (sJoin (sC (.str "")) (sLc (mRng1 (aCons (sCall m__law_take (aCons (sVar 1) (aCons (sC (.int 8)) (aNil)))) (aNil))) (gNm 8) (tYesM) (sCall m__law_pick (aCons (sVar 1) (aCons (sVar 3) (aNil)))) [8])))) (sSeq (sAsg 9 (sFrz (sCall m__law_bent (aCons (sVar 1) (aCons (sMth "Machine" "play" m_Machine_play (sVar 5) (aCons (sVar 7) (aNil))) (aNil)))))) (sSeq (sAsg 10 (sFrz (sCall m__law_least (aCons (sVar 3) (aCons (sVar 4) (aCons (sVar 9) (aNil))))))) (sIfS (tOrM (sTest (s2 (eqD true) (sB reprB (vCons (sCall m_read (aCons (sVar 5) (aCons (sVar 9) (aNil)))) (vNil))) (sB reprB (vCons (sVar 10) (vNil))))) (sTest (s2 (eqD true) (sB reprB (vCons (sCallK [1, 0] m_read (aCons (sVar 9) (aCons (sVar 5) (aNil)))) (vNil))) (sB reprB (vCons (sVar 10) (vNil)))))) (sRet (sC (.bl false))) (sNop))))
theorem search {cs : List Nat} {rs : List Rw} {ms : List D} (hs : SgOk cs) (hm : MOk cs.length rs) (hL : ms.length ≤ 33) : ∃ f r, runN (accS rs ms) (sucS cs rs ms) f [] [((0, 0), [])] = some r ∧ ∀ w, r = some w → w.length ≤ 204 ∧ ∀ c ∈ w, c ∈ cs := by
  have hi : Inv cs rs.length ms.length [] [((0, 0), [])] := ⟨.nil, by simp, fun p hp => by
    rw [List.mem_singleton] at hp; subst hp
    exact ⟨⟨hm.ne, Nat.zero_le _⟩, Nat.zero_le _, by simp⟩, by simp⟩
  obtain ⟨r, a, b⟩ := term (acc := accS rs ms) hm.le hL (sucS_ok hm) 300 [] [((0, 0), [])] hi (by simp)
  exact ⟨300, r, a, b⟩
theorem resD_f (r : Option (List Nat)) : (B.f (resD r)).isW = false := rfl
theorem again_ok {ns : List Int} {x2 x6 x7 x8 x9 x10 x11 : Option B} {cs : List Nat} {rs : List Rw} (hs : SgOk cs) (hm : MOk cs.length rs) {δ : DS} (ok : DOk δ) : ∃ y7 y9 y10 δ', againM (envA ns x2 cs rs x6 x7 x8 x9 x10 x11) δ = some (.nx (envA ns x2 cs rs x6 y7 x8 y9 y10 x11) δ') ∧ DOk δ' := by
  obtain ⟨ws, δ1, hw, hl, e1, ok1⟩ := word_ok hs (ρ := envA ns x2 cs rs x6 x7 x8 x9 x10 x11) rfl (fun x => ⟨rfl, rfl⟩) ok
  obtain ⟨ms, hM, hML, e2⟩ := play_is hs hm hw hl δ1
  obtain ⟨ms', δ2, hM', hML', e3, ok2⟩ := bent_ok hM hML ok1
  obtain ⟨f, r, e4, hr⟩ := search (ms := ms') hs hm hML'
  have e5 := least_is hs hm hM' hML' e4 δ2
  have e6 := read_is hs hm hM' hML' (start_same e4) δ2
  obtain ⟨e7, e8⟩ := reprB_is fun w hw => ⟨(hr w hw).1, fun c hc => sub_in hs.sub c ((hr w hw).2 c hc)⟩
  refine ⟨some (.f (.str (zOf ws))), some (.f (.tup ms')), some (.f (resD r)), δ2, ?_, ok2⟩
  unfold againM
  rw [seq_nx (ρ1 := envA ns x2 cs rs x6 (some (.f (.str (zOf ws)))) x8 x9 x10 x11) (δ1 := δ1) ((asg_is (b := .f (.str (zOf ws))) (frz_is (b := .f (.str (zOf ws))) e1) rfl).trans rfl)]
  have q1 : sMth "Machine" "play" m_Machine_play (sVar 5) (aCons (sVar 7) (aNil)) (envA ns x2 cs rs x6 (some (.f (.str (zOf ws)))) x8 x9 x10 x11) δ1 = some (.f (.tup ms), δ1) := mth_is (cs := cs) (rs := rs) (mn := "play") (ds := [.str (zOf ws)]) (δ1 := δ1) (by decide +kernel) rfl (cons_is (b := .f (.str (zOf ws))) rfl rfl rfl) e2 rfl
  rw [seq_nx (ρ1 := envA ns x2 cs rs x6 (some (.f (.str (zOf ws)))) x8 (some (.f (.tup ms'))) x10 x11) (δ1 := δ2) ((asg_is (b := .f (.tup ms')) (frz_is (b := .f (.tup ms')) (call_is (ds := [.drw, .tup ms]) (cons_is (b := .f .drw) rfl rfl (cons_is (b := .f (.tup ms)) q1 rfl rfl)) e3 rfl)) rfl).trans rfl)]
  rw [seq_nx (ρ1 := envA ns x2 cs rs x6 (some (.f (.str (zOf ws)))) x8 (some (.f (.tup ms'))) (some (.f (resD r))) x11) (δ1 := δ2) ((asg_is (b := .f (resD r)) (frz_is (b := .f (resD r)) (call_is (ds := [.str (zOf cs), rowsD rs, .tup ms']) (cons_is (b := .f (.str (zOf cs))) rfl rfl (cons_is (b := .f (rowsD rs)) rfl rfl (cons_is (b := .f (.tup ms')) rfl rfl rfl))) e5 rfl)) rfl).trans rfl)]
  have r1 : sB reprB (vCons (sVar 10) (vNil)) (envA ns x2 cs rs x6 (some (.f (.str (zOf ws)))) x8 (some (.f (.tup ms'))) (some (.f (resD r))) x11) δ2 = some (.f (.str (rpS r)), δ2) := b_is (bs := [.f (resD r)]) (vcons_is rfl rfl) e7
  have r2 : sB reprB (vCons (sCall m_read (aCons (sVar 5) (aCons (sVar 9) (aNil)))) (vNil)) (envA ns x2 cs rs x6 (some (.f (.str (zOf ws)))) x8 (some (.f (.tup ms'))) (some (.f (resD r))) x11) δ2 = some (.f (.str (rpS r)), δ2) := b_is (bs := [.f (resD r)]) (vcons_is (call_is (ds := [mach cs rs, .tup ms']) (cons_is (b := .f (mach cs rs)) rfl rfl (cons_is (b := .f (.tup ms')) rfl rfl rfl)) e6 rfl) rfl) e7
  have k1 : sCallK [1, 0] m_read (aCons (sVar 9) (aCons (sVar 5) (aNil))) (envA ns x2 cs rs x6 (some (.f (.str (zOf ws)))) x8 (some (.f (.tup ms'))) (some (.f (resD r))) x11) δ2 = some (.f (resD r), δ2) := by
    unfold sCallK
    rw [cons_is (ms := aCons (sVar 5) (aNil)) (b := .f (.tup ms')) (ds := [mach cs rs]) (δ2 := δ2) rfl rfl (cons_is (b := .f (mach cs rs)) rfl rfl rfl), Option.bind_some]
    show Option.bind (m_read [mach cs rs, .tup ms'] δ2) _ = _
    rw [e6]; rfl
  have r3 : sB reprB (vCons (sCallK [1, 0] m_read (aCons (sVar 9) (aCons (sVar 5) (aNil)))) (vNil)) (envA ns x2 cs rs x6 (some (.f (.str (zOf ws)))) x8 (some (.f (.tup ms'))) (some (.f (resD r))) x11) δ2 = some (.f (.str (rpS r)), δ2) := b_is (bs := [.f (resD r)]) (vcons_is k1 rfl) e7
  rw [if_f ((tOr_f (sTest_is (s2_is r2 r1 (ne_str e8)))).trans (sTest_is (s2_is r3 r1 (ne_str e8))))]
  rfl
theorem agains {ns : List Int} {x2 x8 x11 : Option B} {cs : List Nat} {rs : List Rw} (hs : SgOk cs) (hm : MOk cs.length rs) : ∀ (l : List D) (x6 x7 x9 x10 : Option B) (δ : DS), DOk δ → ∃ y6 y7 y9 y10 δ', forF (gNm 6) againM l (envA ns x2 cs rs x6 x7 x8 x9 x10 x11) δ = some (.nx (envA ns x2 cs rs y6 y7 x8 y9 y10 x11) δ') ∧ DOk δ'
  | [], x6, x7, x9, x10, δ, ok => ⟨x6, x7, x9, x10, δ, rfl, ok⟩
  | d :: l, x6, x7, x9, x10, δ, ok => by
    obtain ⟨y7, y9, y10, δ1, e1, ok1⟩ := again_ok (ns := ns) (x2 := x2) (x6 := some (.f d)) (x7 := x7) (x8 := x8) (x9 := x9) (x10 := x10) (x11 := x11) hs hm ok
    obtain ⟨z6, z7, z9, z10, δ', e2, ok2⟩ := agains hs hm l (some (.f d)) y7 y9 y10 δ1 ok1
    refine ⟨z6, z7, z9, z10, δ', ?_, ok2⟩
    rw [for_cons (ρ1 := envA ns x2 cs rs (some (.f d)) x7 x8 x9 x10 x11) rfl e1]
    exact e2
end K56
namespace K56
open PySem L2 Py
/-! ### odd values, the whole law -/
theorem read_odd {cs : List Nat} {rs : List Rw} {d : D} {δ : DS} (h : m_are_symbols [d] δ = some (.f (.bl false), δ)) : m_read [mach cs rs, d] δ = some (.f .non, δ) := by
  refine fn_rt (b := .f .non) ?_
  show mb_read [some (.f (mach cs rs)), some (.f d), none, none, none, none, none, none, none, none, none, none] δ = _
  unfold mb_read
  exact seq_rt ((if_t (δ1 := δ) (tNot_is (c := false) (sTest_is (call_is (ds := [d]) (cons_is (b := .f d) rfl rfl rfl) h rfl)))).trans rfl)
theorem are_tup {d : D} {ds : List D} (hd : ds.length = 1 ∨ ds.length = 2) {δ : DS} (h : m_is_symbol 8 [.tup ds] δ = some (.f (.bl false), δ)) : m_are_symbols [.tup ds] δ = some (.f (.bl false), δ) :=
  fn_rt (ret_is (b := .f (.bl false)) ((and_t (δ1 := δ) rfl).trans (call_is (cons_is rfl rfl rfl) h rfl)))
def oddL (ms : List D) : List D := [.non, .int 5, .str "a", .lst [], .lst [.int 0], .lst ms, .dct false [], .tup [.bl true], .tup [.int 0, .bl false], .tup [.lst []], .tup [.dct false []], .tup [.tup [.bl true]]]
theorem odd_no (ms : List D) (δ : DS) : ∀ d ∈ oddL ms, m_are_symbols [d] δ = some (.f (.bl false), δ) := all_of _ ⟨rfl, rfl, rfl, rfl, rfl, rfl, rfl, rfl, rfl, rfl, rfl, rfl, True.intro⟩
noncomputable def oddM : MeS := sSeq (sAsg 11 (sFrz (sLst (aCons (sC .non) (aCons (sC (.int 5)) (aCons (sC (.str "a")) (aCons (sLst (aNil)) (aCons (sLst (aCons (sC (.int 0)) (aNil))) (aCons (sB lstB (vCons (sMth "Machine" "play" m_Machine_play (sVar 5) (aCons (sVar 3) (aNil))) (vNil))) (aCons (sDic0 false) (aCons (sTup (aCons (sC (.bl true)) (aNil))) (aCons (sTup (aCons (sC (.int 0)) (aCons (sC (.bl false)) (aNil)))) (aCons (sTup (aCons (sLst (aNil)) (aNil))) (aCons (sTup (aCons (sDic0 false) (aNil))) (aCons (sTup (aCons (sTup (aCons (sC (.bl true)) (aNil))) (aNil))) (aNil)))))))))))))))) (sIfS (tOrM (sTest (s1 (isNonB true) (sCall m_read (aCons (sVar 5) (aCons (sCall m__law_pick (aCons (sVar 1) (aCons (sVar 11) (aNil)))) (aNil)))))) (sTest (s2 (eqD true) (sCall m_read (aCons (sVar 5) (aCons (sTup (aNil)) (aNil)))) (sC (.str ""))))) (sRet (sC (.bl false))) (sNop))
theorem read_nil {cs : List Nat} {rs : List Rw} (hs : SgOk cs) (hm : MOk cs.length rs) (δ : DS) : m_read [mach cs rs, .tup []] δ = some (.f (.str (zOf [])), δ) := by
  refine read_is (ms := []) (f := 1) (r := some []) hs hm MkL.nil (by simp) ?_ δ
  have ha : accS rs [] (0, 0) = true := by
    have h0 := hm.ne
    have hr : rs[0]? = some rs[0] := List.getElem?_eq_getElem h0
    unfold accS
    rw [show rs[((0, 0) : Sq).1]? = some rs[0] from hr]
    simp only [hm.e0 _ hr]
    decide +kernel
  unfold runN
  rw [if_pos ha]
theorem odd_ok {ns : List Int} {x2 x6 x7 x8 x9 x10 x11 : Option B} {cs : List Nat} {rs : List Rw} (hs : SgOk cs) (hm : MOk cs.length rs) {δ : DS} (ok : DOk δ) : ∃ y11 δ', oddM (envA ns x2 cs rs x6 x7 x8 x9 x10 x11) δ = some (.nx (envA ns x2 cs rs x6 x7 x8 x9 x10 y11) δ') ∧ DOk δ' := by
  obtain ⟨ms, hM, hML, e2⟩ := play_is hs hm (ws := cs) (fun _ h => h) (by have := subs_len cs hs.sub; omega) δ
  obtain ⟨d, δ1, hd, e3, ok1⟩ := pick_lst ok (ds := oddL ms) (by simp [oddL]) (by simp [oddL])
  refine ⟨some (.f (.lst (oddL ms))), δ1, ?_, ok1⟩
  have q1 : sMth "Machine" "play" m_Machine_play (sVar 5) (aCons (sVar 3) (aNil)) (envA ns x2 cs rs x6 x7 x8 x9 x10 x11) δ = some (.f (.tup ms), δ) := mth_is (cs := cs) (rs := rs) (mn := "play") (ds := [.str (zOf cs)]) (δ1 := δ) (by decide +kernel) rfl (cons_is (b := .f (.str (zOf cs))) rfl rfl rfl) e2 rfl
  unfold oddM
  rw [seq_nx (ρ1 := envA ns x2 cs rs x6 x7 x8 x9 x10 (some (.f (.lst (oddL ms))))) (δ1 := δ) ((asg_is (b := .f (.lst (oddL ms))) (frz_is (b := .o (.lst (oddL ms))) (lst_is (ds := oddL ms) (c_is (c_is (c_is (cons_is (b := .o (.lst [])) rfl rfl (cons_is (b := .o (.lst [.int 0])) rfl rfl (cons_is (b := .o (.lst ms)) (b_is (vcons_is q1 rfl) rfl) rfl (cons_is (b := .o (.dct false [])) rfl rfl rfl))))))) (by simp [oddL, cap]))) rfl).trans rfl)]
  have r1 : sCall m_read (aCons (sVar 5) (aCons (sCall m__law_pick (aCons (sVar 1) (aCons (sVar 11) (aNil)))) (aNil))) (envA ns x2 cs rs x6 x7 x8 x9 x10 (some (.f (.lst (oddL ms))))) δ = some (.f .non, δ1) := call_is (ds := [mach cs rs, d]) (cons_is (b := .f (mach cs rs)) rfl rfl (cons_is (b := .f d) (call_is (ds := [.drw, .lst (oddL ms)]) (cons_is (b := .f .drw) rfl rfl (cons_is (b := .f (.lst (oddL ms))) rfl rfl rfl)) e3 rfl) rfl rfl)) (read_odd (odd_no ms δ1 d hd)) rfl
  have r2 : sCall m_read (aCons (sVar 5) (aCons (sTup (aNil)) (aNil))) (envA ns x2 cs rs x6 x7 x8 x9 x10 (some (.f (.lst (oddL ms))))) δ1 = some (.f (.str (zOf [])), δ1) := call_is (ds := [mach cs rs, .tup []]) (cons_is (b := .f (mach cs rs)) rfl rfl (cons_is (b := .f (.tup [])) rfl rfl rfl)) (read_nil hs hm δ1) rfl
  have r3 : eqD true (.f (.str (zOf []))) (.f (.str "")) = some (.f (.bl false)) := by
    have z0 : ("" : PySem.Str) = zOf [] := by decide +kernel
    rw [z0]
    exact ne_str (by decide +kernel)
  have r4 : s1 (isNonB true) (sCall m_read (aCons (sVar 5) (aCons (sCall m__law_pick (aCons (sVar 1) (aCons (sVar 11) (aNil)))) (aNil)))) (envA ns x2 cs rs x6 x7 x8 x9 x10 (some (.f (.lst (oddL ms))))) δ = some (.f (.bl false), δ1) := by
    unfold s1
    rw [r1]; rfl
  rw [if_f ((tOr_f (sTest_is r4)).trans (sTest_is (s2_is r2 rfl r3)))]
  rfl
noncomputable def turnM : MeS := sSeq (sAsg 3 (sFrz (sCall m__law_signs (aCons (sVar 1) (aCons (sC (.int 3)) (aNil)))))) (sSeq (sAsg 4 (sFrz (sCall m__law_lists (aCons (sVar 1) (aCons (sB lenB (vCons (sVar 3) (vNil))) (aCons (s2 addA (sC (.int 1)) (sCall m__law_take (aCons (sVar 1) (aCons (sC (.int 6)) (aNil))))) (aNil))))))) (sSeq (sAsg 5 (sFrz (sMk "Machine" m_Machined__initd_ (aCons (sVar 3) (aCons (sVar 4) (aNil)))))) (sSeq (sFor (mRng1 (aCons (sC (.int 6)) (aNil))) (gNm 6) againM) oddM)))
def envT (ns : List Int) (x2 x3 x4 x5 x6 x7 x8 x9 x10 x11 : Option B) : En := [some (.f (.scr ns)), some (.f .drw), x2, x3, x4, x5, x6, x7, x8, x9, x10, x11]
theorem mk_is {cs : List Nat} {rs : List Rw} (hs : SgOk cs) (hm : MOk cs.length rs) {ρ : En} {δ : DS} {ms : MeL} (h : ms ρ δ = some ([.str (zOf cs), rowsD rs], δ)) : sMk "Machine" m_Machined__initd_ ms ρ δ = some (.f (mach cs rs), δ) := by
  unfold sMk fiS
  rw [h, Option.bind_some]
  dsimp only
  rw [if_pos fun x => by rw [init_is hs hm, init_is hs hm], init_is hs hm]
  rfl
theorem turn_ok {ns : List Int} {x2 x3 x4 x5 x6 x7 x8 x9 x10 x11 : Option B} {δ : DS} (ok : DOk δ) : ∃ y3 y4 y5 y6 y7 y9 y10 y11 δ', turnM (envT ns x2 x3 x4 x5 x6 x7 x8 x9 x10 x11) δ = some (.nx (envT ns x2 y3 y4 y5 y6 y7 x8 y9 y10 y11) δ') ∧ DOk δ' := by
  obtain ⟨cs, δ1, hs, e1, ok1⟩ := signs_ok ok (n := 3) (by decide) (by decide)
  obtain ⟨r, δ2, e2, hr, ok2⟩ := take_ok (n := 6) ok1 (by decide) (by decide)
  have h5 := subs_len cs hs.sub
  obtain ⟨rs, δ3, hm, e3, ok3⟩ := lists_ok (n := cs.length) (m := r + 1) h5 (by omega) (by omega) ok2
  obtain ⟨y6, y7, y9, y10, δ4, e4, ok4⟩ := agains (ns := ns) (x2 := x2) (x8 := x8) (x11 := x11) hs hm (rngD 0 ((6 : Int)).toNat) x6 x7 x9 x10 δ3 ok3
  obtain ⟨y11, δ5, e5, ok5⟩ := odd_ok (ns := ns) (x2 := x2) (x6 := y6) (x7 := y7) (x8 := x8) (x9 := y9) (x10 := y10) (x11 := x11) hs hm ok4
  refine ⟨some (.f (.str (zOf cs))), some (.f (rowsD rs)), some (.f (mach cs rs)), y6, y7, y9, y10, y11, δ5, ?_, ok5⟩
  unfold turnM
  rw [seq_nx (ρ1 := envT ns x2 (some (.f (.str (zOf cs)))) x4 x5 x6 x7 x8 x9 x10 x11) (δ1 := δ1) ((asg_is (b := .f (.str (zOf cs))) (frz_is (b := .f (.str (zOf cs))) (call_is (ds := [.drw, .int 3]) (cons_is (b := .f .drw) rfl rfl (cons_is (b := .f (.int 3)) rfl rfl rfl)) e1 rfl)) rfl).trans rfl)]
  have k1 : s2 addA (sC (.int 1)) (sCall m__law_take (aCons (sVar 1) (aCons (sC (.int 6)) (aNil)))) (envT ns x2 (some (.f (.str (zOf cs)))) x4 x5 x6 x7 x8 x9 x10 x11) δ1 = some (.f (.int ((r + 1 : Nat) : Int)), δ2) := by
    refine s2_is (a := .f (.int 1)) (b := .f (.int r)) rfl (call_is (ds := [.drw, .int 6]) (cons_is (b := .f .drw) rfl rfl (cons_is (b := .f (.int 6)) rfl rfl rfl)) e2 rfl) ?_
    rw [show ((r + 1 : Nat) : Int) = 1 + (r : Int) by omega]
    rfl
  rw [seq_nx (ρ1 := envT ns x2 (some (.f (.str (zOf cs)))) (some (.f (rowsD rs))) x5 x6 x7 x8 x9 x10 x11) (δ1 := δ3) ((asg_is (b := .f (rowsD rs)) (frz_is (b := .f (rowsD rs)) (call_is (ds := [.drw, .int cs.length, .int ((r + 1 : Nat) : Int)]) (cons_is (b := .f .drw) rfl rfl (cons_is (b := .f (.int cs.length)) (b_is (bs := [.f (.str (zOf cs))]) (vcons_is rfl rfl) (lenB_z h5)) rfl (cons_is (b := .f (.int ((r + 1 : Nat) : Int))) k1 rfl rfl))) e3 rfl)) rfl).trans rfl)]
  rw [seq_nx (ρ1 := envA ns x2 cs rs x6 x7 x8 x9 x10 x11) (δ1 := δ3) ((asg_is (b := .f (mach cs rs)) (frz_is (b := .f (mach cs rs)) (mk_is hs hm (cons_is (b := .f (.str (zOf cs))) rfl rfl (cons_is (b := .f (rowsD rs)) rfl rfl rfl)))) rfl).trans rfl)]
  have f1 : sFor (mRng1 (aCons (sC (.int 6)) (aNil))) (gNm 6) againM (envA ns x2 cs rs x6 x7 x8 x9 x10 x11) δ3 = some (.nx (envA ns x2 cs rs y6 y7 x8 y9 y10 x11) δ4) := (sFor_is (ds := rngD 0 ((6 : Int)).toNat) (δ1 := δ3) rfl).trans e4
  rw [seq_nx f1]
  exact e5
theorem turns {ns : List Int} : ∀ (l : List D) (x2 x3 x4 x5 x6 x7 x8 x9 x10 x11 : Option B) (δ : DS), DOk δ → ∃ y2 y3 y4 y5 y6 y7 y8 y9 y10 y11 δ', forF (gNm 2) turnM l (envT ns x2 x3 x4 x5 x6 x7 x8 x9 x10 x11) δ = some (.nx (envT ns y2 y3 y4 y5 y6 y7 y8 y9 y10 y11) δ') ∧ DOk δ'
  | [], x2, x3, x4, x5, x6, x7, x8, x9, x10, x11, δ, ok => ⟨x2, x3, x4, x5, x6, x7, x8, x9, x10, x11, δ, rfl, ok⟩
  | d :: l, x2, x3, x4, x5, x6, x7, x8, x9, x10, x11, δ, ok => by
    obtain ⟨y3, y4, y5, y6, y7, y9, y10, y11, δ1, e1, ok1⟩ := turn_ok (ns := ns) (x2 := some (.f d)) (x3 := x3) (x4 := x4) (x5 := x5) (x6 := x6) (x7 := x7) (x8 := x8) (x9 := x9) (x10 := x10) (x11 := x11) ok
    obtain ⟨z2, z3, z4, z5, z6, z7, z8, z9, z10, z11, δ', e2, ok2⟩ := turns l (some (.f d)) y3 y4 y5 y6 y7 x8 y9 y10 y11 δ1 ok1
    refine ⟨z2, z3, z4, z5, z6, z7, z8, z9, z10, z11, δ', ?_, ok2⟩
    rw [for_cons (ρ1 := envT ns (some (.f d)) x3 x4 x5 x6 x7 x8 x9 x10 x11) rfl e1]
    exact e2
theorem law_true (ns : List Int) (h : ns.length ≤ 63) : lawM (List.length N_law) mb_law ns = some true := by
  have hn : ∃ j : Nat, 3 + (if (4 : Int) < (ns.length : Int) then (4 : Int) else (ns.length : Int)) = (j : Int) ∧ j < 100 := by
    by_cases q : (4 : Int) < (ns.length : Int)
    · exact ⟨7, by rw [if_pos q]; rfl, by decide⟩
    · exact ⟨3 + ns.length, by rw [if_neg q]; omega, by omega⟩
  obtain ⟨j, hj, hj2⟩ := hn
  obtain ⟨y2, y3, y4, y5, y6, y7, y8, y9, y10, y11, δ', e, ok⟩ := turns (ns := ns) (rngD 0 ((j : Int)).toNat) none none none none none none none none none none (begD ns) (beg_ok ns h)
  unfold lawM
  show (mb_law (envT ns none none none none none none none none none none) (begD ns)).bind _ = _
  unfold mb_law
  have f1 : sFor (mRng1 (aCons (s2 addA (sC (.int 3)) (sB min2B (vCons (sB lenB (vCons (sVar 0) (vNil))) (vCons (sC (.int 4)) (vNil))))) (aNil))) (gNm 2) turnM (envT ns none none none none none none none none none none) (begD ns) = some (.nx (envT ns y2 y3 y4 y5 y6 y7 y8 y9 y10 y11) δ') := by
    refine (sFor_is (ds := rngD 0 ((j : Int)).toNat) (δ1 := begD ns) (rng1_is (j := (j : Int)) (cons_is (b := .f (.int j)) (s2_is (a := .f (.int 3)) (b := .f (.int (if (4 : Int) < (ns.length : Int) then (4 : Int) else (ns.length : Int)))) rfl (b_is (vcons_is (b_is (z := .f (.int ns.length)) (vcons_is rfl rfl) ?_) (vcons_is rfl rfl)) rfl) ?_) rfl rfl) (by omega) (by omega))).trans e
    · rfl
    · rw [← hj]; rfl
  refine (congrArg (fun z => Option.bind z _) ((seq_nx (m := sFor (mRng1 (aCons (s2 addA (sC (.int 3)) (sB min2B (vCons (sB lenB (vCons (sVar 0) (vNil))) (vCons (sC (.int 4)) (vNil))))) (aNil))) (gNm 2) turnM) f1).trans (show sRet (sC (.bl true)) _ _ = some (.rt (.f (.bl true)) δ') from rfl))).trans rfl
end K56
theorem PySem.Challenge.cw_cutfont_k56_texts_read_back_holds : PySem.Challenge.rw_cutfont_k56_texts_read_back.Holds :=
  K56.of_math K56.law_true
