import PyProof.Rows.All
import Wide.All
import OpenK.AllK
import Wide.FinOn
import HandS.ForMost
import KE.GoesEnum
import HandS.IsInst
import HandS.DictTup
import HandS.TupAny
import PyProof.StrOps2
import HandS.TupLen
import HandS.RaiseMore
import HandS.DictComp
import HandS.Defaults
import HandS.Style
import HandS.SetFor
import HandS.Strs
import PySem.Challenge.RW_chargehouse_k22_whole_more_is_no_less
set_option Elab.async false
set_option linter.all false
set_option maxRecDepth 100000
set_option maxHeartbeats 4000000
/-! Data, the ghost split of the heap, the state's relation. -/
namespace Sim
open PySem L2

inductive D where
  | non | bl (b : Bool) | int (i : Int) | str (s : Str) | tup (l : List D) | lst (l : List D) | ref (k : Nat) | scr (ns : List Int) | bor (i : Nat)

inductive Cell where
  | lst (xs : List D) | dK (kvs : List (Key × D)) | dT (kvs : List (List Key × D)) | ins (C : Addr) (fs : List (Str × D))

inductive Sl where
  | val (d : D) | own (xs : List D)

mutual
def Rep (K : PySem.W.Frag) (Z : Hp) (io : List Addr) : D → V → Prop
  | .non, v => v = .non
  | .bl b, v => v = .bl b
  | .int i, v => v = .int i
  | .str s, v => v = .str s
  | .tup ds, v => ∃ a vs, v = .ref a ∧ Z a = some (.tup vs) ∧ Reps K Z io ds vs
  | .lst ds, v => ∃ a vs, v = .ref a ∧ Z a = some (.lst vs) ∧ Reps K Z io ds vs
  | .ref k, v => ∃ a, v = .ref a ∧ io[k]? = some a
  | .scr ns, v => ∃ a, v = .ref a ∧ SqL K Z a (ns.map V.int)
  | .bor _, _ => False
def Reps (K : PySem.W.Frag) (Z : Hp) (io : List Addr) : List D → List V → Prop
  | [], vs => vs = []
  | d :: ds, vs => ∃ v r, vs = v :: r ∧ Rep K Z io d v ∧ Reps K Z io ds r
end

theorem same_rd {H H' : Hp} {a : Addr} {u : HO} (e : Same H H') (h : Rd H a u) : Rd H' a u := by
  rcases h with h | ⟨o, h⟩
  · exact Or.inl (e a _ h)
  · exact Or.inr ⟨o, e a _ h⟩
theorem same_l {K : PySem.W.Frag} {H H' : Hp} {a : Addr} {xs : List V} (e : Same H H') (h : SqL K H a xs) : SqL K H' a xs := by
  rcases h with h | h
  · exact Or.inl (same_rd e h)
  · exact Or.inr h
theorem same_t {K : PySem.W.Frag} {H H' : Hp} {a : Addr} {xs : List V} (e : Same H H') (h : SqT K H a xs) : SqT K H' a xs := by
  rcases h with h | h
  · exact Or.inl (same_rd e h)
  · exact Or.inr h

def Pre (io io' : List Addr) : Prop := ∃ nu, io' = io ++ nu
theorem Pre.refl (io : List Addr) : Pre io io := ⟨[], by simp⟩
theorem Pre.trans {a b c : List Addr} (h1 : Pre a b) (h2 : Pre b c) : Pre a c := by
  obtain ⟨x, rfl⟩ := h1; obtain ⟨y, rfl⟩ := h2; exact ⟨x ++ y, by simp⟩
theorem Pre.get {a b : List Addr} (h : Pre a b) {k : Nat} {x : Addr} (e : a[k]? = some x) : b[k]? = some x := by
  obtain ⟨nu, rfl⟩ := h
  have hk := (List.getElem?_eq_some_iff.mp e).1
  rw [List.getElem?_append_left hk]; exact e

mutual
theorem Rep.mono {K : PySem.W.Frag} {Z Z' : Hp} {io io' : List Addr} (hz : Same Z Z') (hi : Pre io io') : ∀ {d : D} {v : V}, Rep K Z io d v → Rep K Z' io' d v
  | .non, v, h => h
  | .bl b, v, h => h
  | .int i, v, h => h
  | .str s, v, h => h
  | .tup ds, v, h => by
    obtain ⟨a, vs, e, t, r⟩ := h
    exact ⟨a, vs, e, hz _ _ t, Reps.mono hz hi r⟩
  | .lst ds, v, h => by
    obtain ⟨a, vs, e, t, r⟩ := h
    exact ⟨a, vs, e, hz _ _ t, Reps.mono hz hi r⟩
  | .ref k, v, h => by
    obtain ⟨a, e, t⟩ := h
    exact ⟨a, e, hi.get t⟩
  | .scr ns, v, h => by
    obtain ⟨a, e, t⟩ := h
    exact ⟨a, e, same_l hz t⟩
  | .bor _, _, h => h
theorem Reps.mono {K : PySem.W.Frag} {Z Z' : Hp} {io io' : List Addr} (hz : Same Z Z') (hi : Pre io io') : ∀ {ds : List D} {vs : List V}, Reps K Z io ds vs → Reps K Z' io' ds vs
  | [], vs, h => h
  | d :: ds, vs, h => by
    obtain ⟨v, r, e, h1, h2⟩ := h
    exact ⟨v, r, e, Rep.mono hz hi h1, Reps.mono hz hi h2⟩
end
section
variable {K : PySem.W.Frag} {Z : Hp} {io : List Addr}
theorem Reps.nil : Reps K Z io [] [] := rfl
theorem Reps.cons {d : D} {v : V} {ds : List D} {vs : List V} (h : Rep K Z io d v) (r : Reps K Z io ds vs) : Reps K Z io (d :: ds) (v :: vs) := ⟨v, vs, rfl, h, r⟩
theorem Reps.length : ∀ {ds : List D} {vs : List V}, Reps K Z io ds vs → vs.length = ds.length
  | [], vs, h => by have h' : vs = [] := h; rw [h']; rfl
  | d :: ds, vs, h => by
    obtain ⟨v, r, e, h1, h2⟩ := h
    rw [e, List.length_cons, List.length_cons, Reps.length h2]
theorem Reps.get : ∀ {ds : List D} {vs : List V} {i : Nat} {d : D}, Reps K Z io ds vs → ds[i]? = some d → ∃ v, vs[i]? = some v ∧ Rep K Z io d v
  | [], _, _, _, _, e => by simp at e
  | x :: ds, vs, 0, d, h, e => by
    obtain ⟨v, r, e', h1, h2⟩ := h
    simp at e; subst e; subst e'
    exact ⟨v, rfl, h1⟩
  | x :: ds, vs, i + 1, d, h, e => by
    obtain ⟨v, r, e', h1, h2⟩ := h
    subst e'
    obtain ⟨u, a, b⟩ := Reps.get (i := i) h2 (by simpa using e)
    exact ⟨u, by simpa using a, b⟩
theorem Reps.getV {ds : List D} {vs : List V} {i : Nat} {v : V} (h : Reps K Z io ds vs) (e : vs[i]? = some v) : ∃ d, ds[i]? = some d ∧ Rep K Z io d v := by
  have hl := h.length
  have hi := (List.getElem?_eq_some_iff.mp e).1
  have hd : ds[i]? = some ds[i] := List.getElem?_eq_getElem (by omega)
  obtain ⟨u, a, b⟩ := h.get hd
  rw [e] at a; cases a
  exact ⟨_, hd, b⟩
theorem Reps.append : ∀ {ds es : List D} {vs ws : List V}, Reps K Z io ds vs → Reps K Z io es ws → Reps K Z io (ds ++ es) (vs ++ ws)
  | [], es, vs, ws, h, h' => by have e : vs = [] := h; subst e; exact h'
  | d :: ds, es, vs, ws, h, h' => by
    obtain ⟨v, r, e, h1, h2⟩ := h
    subst e
    exact ⟨v, r ++ ws, rfl, h1, Reps.append h2 h'⟩
theorem Reps.take : ∀ {ds : List D} {vs : List V} (n : Nat), Reps K Z io ds vs → Reps K Z io (ds.take n) (vs.take n)
  | _, _, 0, _ => by simp; exact rfl
  | [], vs, n + 1, h => by have e : vs = [] := h; subst e; exact rfl
  | d :: ds, vs, n + 1, h => by
    obtain ⟨v, r, e, h1, h2⟩ := h
    subst e
    exact ⟨v, r.take n, rfl, h1, Reps.take n h2⟩
theorem Reps.drop : ∀ {ds : List D} {vs : List V} (n : Nat), Reps K Z io ds vs → Reps K Z io (ds.drop n) (vs.drop n)
  | _, _, 0, h => h
  | [], vs, n + 1, h => by have e : vs = [] := h; subst e; exact rfl
  | d :: ds, vs, n + 1, h => by
    obtain ⟨v, r, e, h1, h2⟩ := h
    subst e
    exact Reps.drop n h2
theorem Reps.set : ∀ {ds : List D} {vs : List V} (n : Nat) {d : D} {v : V}, Rep K Z io d v → Reps K Z io ds vs → Reps K Z io (ds.set n d) (vs.set n v)
  | [], vs, n, d, v, _, h => by have e : vs = [] := h; subst e; exact rfl
  | x :: ds, vs, 0, d, v, hr, h => by
    obtain ⟨u, r, e, h1, h2⟩ := h
    subst e
    exact ⟨v, r, rfl, hr, h2⟩
  | x :: ds, vs, n + 1, d, v, hr, h => by
    obtain ⟨u, r, e, h1, h2⟩ := h
    subst e
    exact ⟨u, r.set n v, rfl, h1, Reps.set n hr h2⟩
theorem Reps.ints : ∀ {ns : List Int} {vs : List V}, Reps K Z io (ns.map D.int) vs → vs = ns.map V.int
  | [], vs, h => h
  | n :: ns, vs, h => by
    obtain ⟨v, r, e, h1, h2⟩ := h
    have e1 : v = .int n := h1
    rw [e, e1, Reps.ints h2]; rfl
theorem Reps.ofInts : ∀ (ns : List Int), Reps K Z io (ns.map D.int) (ns.map V.int)
  | [] => rfl
  | n :: ns => ⟨_, _, rfl, rfl, Reps.ofInts ns⟩
end

/-! ### cells -/
inductive P2 {α β γ : Type} (F : α → β → Prop) : List (γ × α) → List (γ × β) → Prop
  | nil : P2 F [] []
  | cons {k a b l₁ l₂} : F a b → P2 F l₁ l₂ → P2 F ((k, a) :: l₁) ((k, b) :: l₂)
theorem P2.mono {α β γ : Type} {F G : α → β → Prop} (h : ∀ a b, F a b → G a b) : ∀ {l₁ : List (γ × α)} {l₂ : List (γ × β)}, P2 F l₁ l₂ → P2 G l₁ l₂
  | _, _, .nil => .nil
  | _, _, .cons x t => .cons (h _ _ x) (P2.mono h t)

def CellAt (K : PySem.W.Frag) (Z : Hp) (io : List Addr) : Option HO → Cell → Prop
  | o, .lst ds => ∃ vs, o = some (.lst vs) ∧ Reps K Z io ds vs
  | o, .dK kvs => ∃ us, o = some (.dK us) ∧ P2 (Rep K Z io) kvs us
  | o, .dT kvs => ∃ us, o = some (.dT us) ∧ P2 (Rep K Z io) kvs us
  | o, .ins C fs => ∃ dx us, o = some (.ins C dx us) ∧ P2 (Rep K Z io) fs us
theorem CellAt.mono {K : PySem.W.Frag} {Z Z' : Hp} {io io' : List Addr} (hz : Same Z Z') (hi : Pre io io') {o : Option HO} : ∀ {c : Cell}, CellAt K Z io o c → CellAt K Z' io' o c
  | .lst _, ⟨vs, e, r⟩ => ⟨vs, e, r.mono hz hi⟩
  | .dK _, ⟨us, e, r⟩ => ⟨us, e, r.mono fun _ _ => Rep.mono hz hi⟩
  | .dT _, ⟨us, e, r⟩ => ⟨us, e, r.mono fun _ _ => Rep.mono hz hi⟩
  | .ins _ _, ⟨dx, us, e, r⟩ => ⟨dx, us, e, r.mono fun _ _ => Rep.mono hz hi⟩
theorem CellAt.some {K : PySem.W.Frag} {Z : Hp} {io : List Addr} {o : Option HO} {c : Cell} (h : CellAt K Z io o c) : o ≠ none := by
  cases c with
  | lst _ => obtain ⟨_, e, _⟩ := h; rw [e]; simp
  | dK _ => obtain ⟨_, e, _⟩ := h; rw [e]; simp
  | dT _ => obtain ⟨_, e, _⟩ := h; rw [e]; simp
  | ins _ _ => obtain ⟨_, _, e, _⟩ := h; rw [e]; simp

/-! ### the ghost -/
structure Gh where
  Z0 : Hp
  i0 : List Addr
  H0 : Hp
  Z : Hp
  io : List Addr
  F : Hp

structure GR (g : Gh) (H : Hp) : Prop where
  z : Same g.Z0 g.Z
  i : ∃ nu, g.io = g.i0 ++ nu ∧ ∀ a ∈ nu, g.H0 a = none
  keep : ∀ b o, g.H0 b = some o → b ∉ g.i0 → H b = some o
  dom : ∀ b, H b = none → g.H0 b = none
  new : ∀ b o, g.Z b = some o → g.Z0 b = some o ∨ g.H0 b = none

structure HR (K : PySem.W.Frag) (Z : Hp) (io : List Addr) (M : List Cell) (H : Hp) : Prop where
  zh : Same Z H
  len : io.length = M.length
  nd : io.Nodup
  zi : ∀ a ∈ io, Z a = none
  cell : ∀ (k : Nat) (c : Cell) (a : Addr), M[k]? = some c → io[k]? = some a → CellAt K Z io (H a) c

def OwnAt (K : PySem.W.Frag) (g : Gh) (H : Hp) (p : Addr) (vs : List V) (xs : List D) : Prop :=
  H p = some (.lst vs) ∧ Reps K g.Z g.io xs vs ∧ g.Z p = none ∧ p ∉ g.io ∧ g.H0 p = none ∧ g.F p = none

def SlOk (K : PySem.W.Frag) (g : Gh) (H : Hp) (o : Option (Option V)) : Sl → Prop
  | .val d => ∃ v, o = some (some v) ∧ Rep K g.Z g.io d v
  | .own xs => ∃ p vs, o = some (some (.ref p)) ∧ OwnAt K g H p vs xs

abbrev Ro := List (Option Sl)
structure SR (K : PySem.W.Frag) (g : Gh) (s : L2.St) (H : Hp) (ro : Ro) (M : List Cell) : Prop where
  gr : GR g H
  hr : HR K g.Z g.io M H
  len : s.length = ro.length
  sl : ∀ (i : Nat) (x : Sl), ro[i]? = some (some x) → SlOk K g H s[i]? x
  dis : ∀ (i j : Nat) (p : Addr) (xs ys : List D), s[i]? = some (some (.ref p)) → s[j]? = some (some (.ref p)) → ro[i]? = some (some (.own xs)) → ro[j]? = some (some (.own ys)) → i = j
  fr : ∀ (b : Addr) (o : HO), g.F b = some o → H b = some o ∧ g.Z b = none ∧ b ∉ g.io

structure Gh.le (g g' : Gh) : Prop where
  z0 : g'.Z0 = g.Z0
  i0 : g'.i0 = g.i0
  h0 : g'.H0 = g.H0
  f : g'.F = g.F
  z : Same g.Z g'.Z
  i : Pre g.io g'.io
theorem Gh.le.refl (g : Gh) : g.le g := ⟨rfl, rfl, rfl, rfl, Same.refl _, Pre.refl _⟩
theorem Gh.le.trans {a b c : Gh} (h1 : a.le b) (h2 : b.le c) : a.le c := ⟨h2.z0.trans h1.z0, h2.i0.trans h1.i0, h2.h0.trans h1.h0, h2.f.trans h1.f, h1.z.trans h2.z, h1.i.trans h2.i⟩
theorem Rep.le {K : PySem.W.Frag} {g g' : Gh} {d : D} {v : V} (h : Rep K g.Z g.io d v) (l : g.le g') : Rep K g'.Z g'.io d v := h.mono l.z l.i
theorem Reps.le {K : PySem.W.Frag} {g g' : Gh} {d : List D} {v : List V} (h : Reps K g.Z g.io d v) (l : g.le g') : Reps K g'.Z g'.io d v := h.mono l.z l.i

section
variable {K : PySem.W.Frag} {g : Gh} {s : L2.St} {H : Hp} {ro : Ro} {M : List Cell}
theorem GR.fresh (r : GR g H) {p : Addr} (h : H p = none) : g.H0 p = none := r.dom p h
theorem HR.io_some (r : HR K g.Z g.io M H) {a : Addr} (h : a ∈ g.io) : H a ≠ none := by
  obtain ⟨k, hk, e⟩ := List.getElem_of_mem h
  have hk' : k < M.length := by rw [← r.len]; exact hk
  exact (r.cell k M[k] a (List.getElem?_eq_getElem hk') (by rw [List.getElem?_eq_getElem hk, e])).some
theorem HR.not_io (r : HR K g.Z g.io M H) {p : Addr} (h : H p = none) : p ∉ g.io := fun m => r.io_some m h
theorem HR.notZ (r : HR K g.Z g.io M H) {p : Addr} (h : H p = none) : g.Z p = none := by
  cases e : g.Z p with
  | none => rfl
  | some o => rw [r.zh _ _ e] at h; cases h

/-- a new frozen object -/
def Gh.frz (g : Gh) (p : Addr) (o : HO) : Gh := { g with Z := upd g.Z p o }
theorem Gh.frz_le (g : Gh) {p : Addr} {o : HO} (h : g.Z p = none) : g.le (g.frz p o) := ⟨rfl, rfl, rfl, rfl, fun b u e => by
  show upd g.Z p o b = some u
  rw [upd_ne (ne_of_none e h)]; exact e, Pre.refl _⟩
theorem SlOk.keep {g' : Gh} {H' : Hp} {o : Option (Option V)} {x : Sl} (h : SlOk K g H o x) (l : g.le g') (hk : ∀ p vs xs, x = .own xs → OwnAt K g H p vs xs → o = some (some (.ref p)) → OwnAt K g' H' p vs xs) : SlOk K g' H' o x := by
  cases x with
  | val d => obtain ⟨v, e, r⟩ := h; exact ⟨v, e, r.le l⟩
  | own xs => obtain ⟨p, vs, e, w⟩ := h; exact ⟨p, vs, e, hk p vs xs rfl w e⟩
theorem SR.newFrz (S : SR K g s H ro M) {p : Addr} (o : HO) (h : H p = none) : SR K (g.frz p o) s (upd H p o) ro M := by
  have hz := S.hr.notZ h
  have l := g.frz_le (o := o) hz
  refine ⟨⟨S.gr.z.trans l.z, S.gr.i, fun b u e n => ?_, fun b e => ?_, fun b u e => ?_⟩, ⟨fun b u e => ?_, S.hr.len, S.hr.nd, fun a m => ?_, fun k c a e1 e2 => ?_⟩, S.len, fun i x e => ?_, S.dis, fun b u e => ?_⟩
  · have := S.gr.keep b u e n
    rw [upd_ne (ne_of_none this h)]; exact this
  · by_cases hb : b = p
    · subst hb; exact S.gr.dom b h
    · rw [upd_ne hb] at e; exact S.gr.dom b e
  · by_cases hb : b = p
    · subst hb; exact .inr (S.gr.dom b h)
    · have e' : g.Z b = some u := by rw [← upd_ne (H := g.Z) (o := o) hb]; exact e
      exact S.gr.new b u e'
  · by_cases hb : b = p
    · subst hb
      have : upd g.Z b o b = some u := e
      rw [upd_same] at this; cases this; exact upd_same
    · have e' : g.Z b = some u := by rw [← upd_ne (H := g.Z) (o := o) hb]; exact e
      rw [upd_ne hb]; exact S.hr.zh b u e'
  · show upd g.Z p o a = none
    rw [upd_ne (fun q => by subst q; exact S.hr.not_io h m)]
    exact S.hr.zi a m
  · have ha : a ≠ p := fun q => by
      subst q
      exact S.hr.not_io h (List.mem_of_getElem? e2)
    rw [upd_ne ha]
    exact (S.hr.cell k c a e1 e2).mono l.z l.i
  · refine (S.sl i x e).keep l fun q vs xs _ w _ => ?_
    have hq : q ≠ p := fun z => by subst z; rw [w.1] at h; cases h
    refine ⟨by rw [upd_ne hq]; exact w.1, w.2.1.le l, ?_, w.2.2.2.1, w.2.2.2.2⟩
    show upd g.Z p o q = none
    rw [upd_ne hq]; exact w.2.2.1
  · obtain ⟨h1, h2, h3⟩ := S.fr b u e
    have hb : b ≠ p := ne_of_none h1 h
    refine ⟨by rw [upd_ne hb]; exact h1, ?_, h3⟩
    show upd g.Z p o b = none
    rw [upd_ne hb]; exact h2
/-- a value laid in a slot -/
theorem SR.setVal (S : SR K g s H ro M) {i : Nat} {d : D} {v : V} (r : Rep K g.Z g.io d v) : SR K g (s.set i (some v)) H (ro.set i (some (.val d))) M := by
  refine ⟨S.gr, S.hr, by rw [List.length_set, List.length_set]; exact S.len, fun j x e => ?_, fun a b p xs ys h1 h2 h3 h4 => ?_, S.fr⟩
  · by_cases hj : i = j
    · subst hj
      have hi : i < ro.length := by
        have := (List.getElem?_eq_some_iff.mp e).1
        rw [List.length_set] at this; exact this
      rw [List.getElem?_set_self hi] at e
      cases e
      exact ⟨v, by rw [List.getElem?_set_self (by rw [S.len]; exact hi)], r⟩
    · rw [List.getElem?_set_ne hj] at e ⊢
      exact S.sl j x e
  · have na : i ≠ a := fun q => by
      subst q
      have hi : i < ro.length := by
        have := (List.getElem?_eq_some_iff.mp h3).1
        rw [List.length_set] at this; exact this
      rw [List.getElem?_set_self hi] at h3; cases h3
    have nb : i ≠ b := fun q => by
      subst q
      have hi : i < ro.length := by
        have := (List.getElem?_eq_some_iff.mp h4).1
        rw [List.length_set] at this; exact this
      rw [List.getElem?_set_self hi] at h4; cases h4
    rw [List.getElem?_set_ne na] at h1 h3
    rw [List.getElem?_set_ne nb] at h2 h4
    exact S.dis a b p xs ys h1 h2 h3 h4
/-- no slot holds the list at p as its own -/
def NoOwn (ro : Ro) (s : L2.St) (p : Addr) : Prop := ∀ (i : Nat) (xs : List D), ro[i]? = some (some (.own xs)) → s[i]? ≠ some (some (.ref p))
/-- a list of one's own laid in a slot -/
theorem SR.setOwn (S : SR K g s H ro M) {i : Nat} {p : Addr} {vs : List V} {xs : List D} (w : OwnAt K g H p vs xs) (n : NoOwn ro s p) : SR K g (s.set i (some (.ref p))) H (ro.set i (some (.own xs))) M := by
  refine ⟨S.gr, S.hr, by rw [List.length_set, List.length_set]; exact S.len, fun j x e => ?_, fun a b q zs ys h1 h2 h3 h4 => ?_, S.fr⟩
  · by_cases hj : i = j
    · subst hj
      have hi : i < ro.length := by
        have := (List.getElem?_eq_some_iff.mp e).1
        rw [List.length_set] at this; exact this
      rw [List.getElem?_set_self hi] at e
      cases e
      exact ⟨p, vs, by rw [List.getElem?_set_self (by rw [S.len]; exact hi)], w⟩
    · rw [List.getElem?_set_ne hj] at e ⊢
      exact S.sl j x e
  · have key : ∀ (c : Nat) (us : List D), (s.set i (some (.ref p)))[c]? = some (some (.ref q)) → (ro.set i (some (.own xs)))[c]? = some (some (.own us)) → (i = c ∧ q = p) ∨ (i ≠ c ∧ s[c]? = some (some (.ref q)) ∧ ro[c]? = some (some (.own us))) := fun c us e1 e2 => by
      by_cases hc : i = c
      · subst hc
        have hi : i < s.length := by
          have := (List.getElem?_eq_some_iff.mp e1).1
          rw [List.length_set] at this; exact this
        rw [List.getElem?_set_self hi] at e1
        cases e1; exact .inl ⟨rfl, rfl⟩
      · rw [List.getElem?_set_ne hc] at e1 e2
        exact .inr ⟨hc, e1, e2⟩
    rcases key a zs h1 h3 with ⟨ea, eq⟩ | ⟨na, a1, a3⟩
    · rcases key b ys h2 h4 with ⟨eb, _⟩ | ⟨nb, b1, b3⟩
      · rw [← ea, ← eb]
      · subst eq; exact absurd b1 (n b ys b3)
    · rcases key b ys h2 h4 with ⟨eb, eq⟩ | ⟨nb, b1, b3⟩
      · subst eq; exact absurd a1 (n a zs a3)
      · exact S.dis a b q zs ys a1 b1 a3 b3
/-- slots forgotten -/
theorem SR.weak {s' : L2.St} {ro' : Ro} (S : SR K g s H ro M) (hl : s'.length = ro'.length) (h : ∀ (i : Nat) (x : Sl), ro'[i]? = some (some x) → ro[i]? = some (some x) ∧ s'[i]? = s[i]?) : SR K g s' H ro' M := by
  refine ⟨S.gr, S.hr, hl, fun i x e => ?_, fun a b p xs ys h1 h2 h3 h4 => ?_, S.fr⟩
  · obtain ⟨e1, e2⟩ := h i x e
    rw [e2]; exact S.sl i x e1
  · obtain ⟨e1, e2⟩ := h a _ h3
    obtain ⟨f1, f2⟩ := h b _ h4
    rw [e2] at h1; rw [f2] at h2
    exact S.dis a b p xs ys h1 h2 e1 f1
/-- a list of one's own is frozen -/
theorem OwnAt.le {g' : Gh} {H' : Hp} {p : Addr} {vs : List V} {xs : List D} (w : OwnAt K g H p vs xs) (l : g.le g') (h1 : H' p = some (.lst vs)) (h2 : g'.Z p = none) (h3 : p ∉ g'.io) : OwnAt K g' H' p vs xs :=
  ⟨h1, w.2.1.le l, h2, h3, by rw [l.h0]; exact w.2.2.2.2.1, by rw [l.f]; exact w.2.2.2.2.2⟩
theorem SR.frzTmp (S : SR K g s H ro M) {p : Addr} {vs : List V} {xs : List D} (w : OwnAt K g H p vs xs) (n : NoOwn ro s p) : SR K (g.frz p (.lst vs)) s H ro M ∧ Rep K (g.frz p (.lst vs)).Z (g.frz p (.lst vs)).io (.lst xs) (.ref p) := by
  have l := g.frz_le (o := .lst vs) w.2.2.1
  refine ⟨⟨⟨S.gr.z.trans l.z, S.gr.i, S.gr.keep, S.gr.dom, fun b u e => ?_⟩, ⟨fun b u e => ?_, S.hr.len, S.hr.nd, fun a m => ?_, fun k c a e1 e2 => (S.hr.cell k c a e1 e2).mono l.z l.i⟩, S.len, fun i x e => ?_, S.dis, fun b u e => ?_⟩, ⟨p, vs, rfl, upd_same, w.2.1.le l⟩⟩
  · by_cases hb : b = p
    · subst hb; exact .inr w.2.2.2.2.1
    · have e' : g.Z b = some u := by rw [← upd_ne (H := g.Z) (o := .lst vs) hb]; exact e
      exact S.gr.new b u e'
  · by_cases hb : b = p
    · subst hb
      have : upd g.Z b (.lst vs) b = some u := e
      rw [upd_same] at this; cases this; exact w.1
    · have e' : g.Z b = some u := by rw [← upd_ne (H := g.Z) (o := .lst vs) hb]; exact e
      exact S.hr.zh b u e'
  · show upd g.Z p (.lst vs) a = none
    rw [upd_ne (fun q => by subst q; exact w.2.2.2.1 m)]
    exact S.hr.zi a m
  · cases x with
    | val d => obtain ⟨v, e1, r⟩ := S.sl i _ e; exact ⟨v, e1, r.le l⟩
    | own ys =>
      obtain ⟨q, us, e1, w'⟩ := S.sl i _ e
      have hq : q ≠ p := fun z => by subst z; exact n i ys e e1
      refine ⟨q, us, e1, w'.le l w'.1 ?_ w'.2.2.2.1⟩
      show upd g.Z p (.lst vs) q = none
      rw [upd_ne hq]; exact w'.2.2.1
  · obtain ⟨h1, h2, h3⟩ := S.fr b u e
    have hb : b ≠ p := ne_of_none e w.2.2.2.2.2
    refine ⟨h1, ?_, h3⟩
    show upd g.Z p (.lst vs) b = none
    rw [upd_ne hb]; exact h2
/-- the list of a slot is frozen -/
theorem SR.frzSlot (S : SR K g s H ro M) {i : Nat} {xs : List D} (e : ro[i]? = some (some (.own xs))) : ∃ g' p, g.le g' ∧ s[i]? = some (some (.ref p)) ∧ Rep K g'.Z g'.io (.lst xs) (.ref p) ∧ SR K g' s H (ro.set i (some (.val (.lst xs)))) M := by
  obtain ⟨p, vs, e1, w⟩ := S.sl i _ e
  have hi : i < ro.length := (List.getElem?_eq_some_iff.mp e).1
  have S' : SR K g s H (ro.set i none) M := S.weak (by rw [List.length_set]; exact S.len) fun j x h => by
    by_cases hj : i = j
    · subst hj; rw [List.getElem?_set_self hi] at h; cases h
    · rw [List.getElem?_set_ne hj] at h; exact ⟨h, rfl⟩
  have n : NoOwn (ro.set i none) s p := fun j ys h h' => by
    by_cases hj : i = j
    · subst hj; rw [List.getElem?_set_self hi] at h; cases h
    · rw [List.getElem?_set_ne hj] at h; exact hj (S.dis i j p xs ys e1 h' e h)
  obtain ⟨S2, r⟩ := S'.frzTmp w n
  refine ⟨_, p, g.frz_le w.2.2.1, e1, r, ?_⟩
  have S3 := S2.setVal (i := i) r
  have hs : s.set i (some (.ref p)) = s := by
    apply List.ext_getElem?
    intro j
    by_cases hj : i = j
    · subst hj; rw [List.getElem?_set_self (by rw [S.len]; exact hi)]; exact e1.symm
    · rw [List.getElem?_set_ne hj]
  rw [hs, List.set_set] at S3
  exact S3
/-- the list of a slot is written -/
theorem SR.wrOwn (S : SR K g s H ro M) {i : Nat} {p : Addr} {xs ys : List D} {us : List V} (e : ro[i]? = some (some (.own xs))) (e1 : s[i]? = some (some (.ref p))) (r : Reps K g.Z g.io ys us) : SR K g s (upd H p (.lst us)) (ro.set i (some (.own ys))) M := by
  obtain ⟨q, vs, e2, w⟩ := S.sl i _ e
  rw [e1] at e2; cases e2
  have hi : i < ro.length := (List.getElem?_eq_some_iff.mp e).1
  refine ⟨⟨S.gr.z, S.gr.i, fun b u h n => ?_, fun b h => ?_, S.gr.new⟩, ⟨fun b u h => ?_, S.hr.len, S.hr.nd, S.hr.zi, fun k c a h1 h2 => ?_⟩, by rw [List.length_set]; exact S.len, fun j x h => ?_, fun a b q zs ws h1 h2 h3 h4 => ?_, fun b u h => ?_⟩
  · rw [upd_ne (ne_of_none h w.2.2.2.2.1)]; exact S.gr.keep b u h n
  · by_cases hb : b = p
    · subst hb; rw [upd_same] at h; cases h
    · rw [upd_ne hb] at h; exact S.gr.dom b h
  · rw [upd_ne (ne_of_none h w.2.2.1)]; exact S.hr.zh b u h
  · rw [upd_ne (fun z => by subst z; exact w.2.2.2.1 (List.mem_of_getElem? h2))]
    exact S.hr.cell k c a h1 h2
  · by_cases hj : i = j
    · subst hj
      rw [List.getElem?_set_self hi] at h; cases h
      exact ⟨p, us, e1, upd_same, r, w.2.2⟩
    · rw [List.getElem?_set_ne hj] at h
      refine (S.sl j x h).keep (Gh.le.refl g) fun q' vs' xs' ex w' e' => ?_
      have hq : q' ≠ p := fun z => by
        subst z; subst ex
        exact hj (S.dis i j q' xs xs' e1 e' e h)
      exact ⟨by rw [upd_ne hq]; exact w'.1, w'.2⟩
  · have key : ∀ (c : Nat) (ts : List D), (ro.set i (some (.own ys)))[c]? = some (some (.own ts)) → ∃ ts', ro[c]? = some (some (.own ts')) := fun c ts h => by
      by_cases hc : i = c
      · subst hc; exact ⟨xs, e⟩
      · rw [List.getElem?_set_ne hc] at h; exact ⟨ts, h⟩
    obtain ⟨z1, k1⟩ := key a zs h3
    obtain ⟨z2, k2⟩ := key b ws h4
    exact S.dis a b q z1 z2 h1 h2 k1 k2
  · obtain ⟨h1, h2, h3⟩ := S.fr b u h
    exact ⟨by rw [upd_ne (ne_of_none h w.2.2.2.2.2)]; exact h1, h2, h3⟩
/-- a new cell -/
theorem SR.newCell (S : SR K g s H ro M) {p : Addr} {o : HO} {c : Cell} (h : H p = none) (hc : CellAt K g.Z g.io (some o) c) : SR K { g with io := g.io ++ [p] } s (upd H p o) ro (M ++ [c]) ∧ g.le { g with io := g.io ++ [p] } := by
  have l : g.le { g with io := g.io ++ [p] } := ⟨rfl, rfl, rfl, rfl, Same.refl _, ⟨[p], rfl⟩⟩
  have hz := S.hr.notZ h
  have hi := S.hr.not_io h
  refine ⟨⟨⟨S.gr.z, ?_, fun b u e n => ?_, fun b e => ?_, S.gr.new⟩, ⟨fun b u e => ?_, by simp [S.hr.len], ?_, fun a m => ?_, fun k x a e1 e2 => ?_⟩, S.len, fun i x e => ?_, S.dis, fun b u e => ?_⟩, l⟩
  · obtain ⟨nu, e, f⟩ := S.gr.i
    refine ⟨nu ++ [p], by rw [← List.append_assoc, ← e], fun a m => ?_⟩
    rcases List.mem_append.mp m with m | m
    · exact f a m
    · rw [List.mem_singleton.mp m]; exact S.gr.dom p h
  · have := S.gr.keep b u e n
    rw [upd_ne (ne_of_none this h)]; exact this
  · by_cases hb : b = p
    · subst hb; exact S.gr.dom b h
    · rw [upd_ne hb] at e; exact S.gr.dom b e
  · rw [upd_ne (ne_of_none e hz)]; exact S.hr.zh b u e
  · rw [List.nodup_append]
    refine ⟨S.hr.nd, by simp, fun a m b m' q => ?_⟩
    rw [List.mem_singleton.mp m'] at q; subst q; exact hi m
  · rcases List.mem_append.mp m with m | m
    · exact S.hr.zi a m
    · rw [List.mem_singleton.mp m]; exact hz
  · by_cases hk : k < M.length
    · rw [List.getElem?_append_left hk] at e1
      have e2' : g.io[k]? = some a := by
        rw [List.getElem?_append_left (by rw [S.hr.len]; exact hk)] at e2; exact e2
      have ha : a ≠ p := fun q => by subst q; exact hi (List.mem_of_getElem? e2')
      rw [upd_ne ha]
      exact (S.hr.cell k x a e1 e2').mono l.z l.i
    · have hl := (List.getElem?_eq_some_iff.mp e1).1
      rw [List.length_append, List.length_singleton] at hl
      have hk' : k = M.length := by omega
      subst hk'
      rw [List.getElem?_append_right (Nat.le_refl _), Nat.sub_self] at e1
      have e2' : (g.io ++ [p])[M.length]? = some a := e2
      rw [← S.hr.len, List.getElem?_append_right (Nat.le_refl _), Nat.sub_self] at e2'
      cases e1; cases e2'
      rw [upd_same]
      exact hc.mono l.z l.i
  · refine (S.sl i x e).keep l fun q vs xs _ w _ => ?_
    have hq : q ≠ p := fun z => by subst z; rw [w.1] at h; cases h
    refine w.le l (by rw [upd_ne hq]; exact w.1) w.2.2.1 fun m => ?_
    rcases List.mem_append.mp m with m | m
    · exact w.2.2.2.1 m
    · exact hq (List.mem_singleton.mp m)
  · obtain ⟨h1, h2, h3⟩ := S.fr b u e
    have hb : b ≠ p := ne_of_none h1 h
    refine ⟨by rw [upd_ne hb]; exact h1, h2, fun m => ?_⟩
    rcases List.mem_append.mp m with m | m
    · exact h3 m
    · exact hb (List.mem_singleton.mp m)
/-- a cell is written -/
theorem SR.wrCell (S : SR K g s H ro M) {k : Nat} {a : Addr} {o : HO} {c : Cell} (ea : g.io[k]? = some a) (hc : CellAt K g.Z g.io (some o) c) : SR K g s (upd H a o) ro (M.set k c) := by
  have ha : a ∈ g.io := List.mem_of_getElem? ea
  have hz := S.hr.zi a ha
  have hH := S.hr.io_some ha
  have hk : k < g.io.length := (List.getElem?_eq_some_iff.mp ea).1
  refine ⟨⟨S.gr.z, S.gr.i, fun b u e n => ?_, fun b e => ?_, S.gr.new⟩, ⟨fun b u e => ?_, by rw [List.length_set]; exact S.hr.len, S.hr.nd, S.hr.zi, fun j x b e1 e2 => ?_⟩, S.len, fun i x e => ?_, S.dis, fun b u e => ?_⟩
  · have hb : b ≠ a := fun q => by
      subst q
      obtain ⟨nu, e', f⟩ := S.gr.i
      rw [e'] at ha
      rcases List.mem_append.mp ha with m | m
      · exact n m
      · rw [f b m] at e; cases e
    rw [upd_ne hb]; exact S.gr.keep b u e n
  · by_cases hb : b = a
    · subst hb; rw [upd_same] at e; cases e
    · rw [upd_ne hb] at e; exact S.gr.dom b e
  · rw [upd_ne (ne_of_none e hz)]; exact S.hr.zh b u e
  · by_cases hj : k = j
    · subst hj
      rw [List.getElem?_set_self (by rw [← S.hr.len]; exact hk)] at e1
      cases e1
      rw [ea] at e2; cases e2
      rw [upd_same]; exact hc
    · rw [List.getElem?_set_ne hj] at e1
      have hb : b ≠ a := fun q => by
        subst q
        obtain ⟨hk1, hk2⟩ := List.getElem?_eq_some_iff.mp ea
        obtain ⟨hj1, hj2⟩ := List.getElem?_eq_some_iff.mp e2
        exact hj ((List.getElem_inj S.hr.nd).mp (hk2.trans hj2.symm))
      rw [upd_ne hb]; exact S.hr.cell j x b e1 e2
  · refine (S.sl i x e).keep (Gh.le.refl g) fun q vs xs _ w _ => ?_
    have hq : q ≠ a := fun z => by subst z; exact w.2.2.2.1 ha
    exact ⟨by rw [upd_ne hq]; exact w.1, w.2⟩
  · obtain ⟨h1, h2, h3⟩ := S.fr b u e
    have hb : b ≠ a := fun q => by subst q; exact h3 ha
    exact ⟨by rw [upd_ne hb]; exact h1, h2, h3⟩
/-- behind a call -/
theorem SR.call (S : SR K g s H ro M) {Z' : Hp} {io' : List Addr} {H' : Hp} {M' : List Cell} {F : Hp} (r : GR ⟨g.Z, g.io, H, Z', io', F⟩ H') (h : HR K Z' io' M' H') : SR K { g with Z := Z', io := io' } s H' ro M' ∧ g.le { g with Z := Z', io := io' } := by
  obtain ⟨nu', e', f'⟩ := r.i
  have e'' : io' = g.io ++ nu' := e'
  have l : g.le { g with Z := Z', io := io' } := ⟨rfl, rfl, rfl, rfl, r.z, ⟨nu', e'⟩⟩
  have zn : ∀ b o, H b = some o → g.Z b = none → Z' b = none := fun b o e1 e2 => by
    cases q : Z' b with
    | none => rfl
    | some u =>
      rcases r.new b u q with w | w
      · have w' : g.Z b = some u := w
        rw [e2] at w'; cases w'
      · have w' : H b = none := w
        rw [e1] at w'; cases w'
  have ni : ∀ b o, H b = some o → b ∉ g.io → b ∉ io' := fun b o e1 e2 m => by
    rw [e''] at m
    rcases List.mem_append.mp m with m | m
    · exact e2 m
    · have := f' b m
      have w : H b = none := this
      rw [e1] at w; cases w
  refine ⟨⟨⟨S.gr.z.trans r.z, ?_, fun b u e n => ?_, fun b e => S.gr.dom b (r.dom b e), fun b u e => ?_⟩, h, S.len, fun i x e => ?_, S.dis, fun b u e => ?_⟩, l⟩
  · obtain ⟨nu, e, f⟩ := S.gr.i
    refine ⟨nu ++ nu', by show io' = _; rw [← List.append_assoc, ← e]; exact e', fun a m => ?_⟩
    rcases List.mem_append.mp m with m | m
    · exact f a m
    · exact S.gr.dom a (f' a m)
  · refine r.keep b u (S.gr.keep b u e n) fun m => ?_
    have m' : b ∈ g.io := m
    obtain ⟨nu, e1, f⟩ := S.gr.i
    rw [e1] at m'
    rcases List.mem_append.mp m' with m | m
    · exact n m
    · rw [f b m] at e; cases e
  · rcases r.new b u e with w | w
    · exact S.gr.new b u w
    · exact .inr (S.gr.dom b w)
  · refine (S.sl i x e).keep l fun q vs xs _ w _ => ?_
    exact w.le l (r.keep q _ w.1 w.2.2.2.1) (zn q _ w.1 w.2.2.1) (ni q _ w.1 w.2.2.2.1)
  · obtain ⟨h1, h2, h3⟩ := S.fr b u e
    exact ⟨r.keep b u h1 h3, zn b u h1 h2, ni b u h1 h3⟩
/-- a list in the making is kept aside -/
def Gh.prot (g : Gh) (p : Addr) (o : HO) : Gh := { g with F := upd g.F p o }
theorem SR.prot (S : SR K g s H ro M) {p : Addr} {vs : List V} {xs : List D} (w : OwnAt K g H p vs xs) (n : NoOwn ro s p) : SR K (g.prot p (.lst vs)) s H ro M := by
  refine ⟨⟨S.gr.z, S.gr.i, S.gr.keep, S.gr.dom, S.gr.new⟩, S.hr, S.len, fun i x e => ?_, S.dis, fun b u e => ?_⟩
  · cases x with
    | val d => exact S.sl i _ e
    | own ys =>
      obtain ⟨q, us, e1, w'⟩ := S.sl i _ e
      have hq : q ≠ p := fun z => by subst z; exact n i ys e e1
      refine ⟨q, us, e1, w'.1, w'.2.1, w'.2.2.1, w'.2.2.2.1, w'.2.2.2.2.1, ?_⟩
      show upd g.F p (.lst vs) q = none
      rw [upd_ne hq]; exact w'.2.2.2.2.2
  · by_cases hb : b = p
    · subst hb
      have : upd g.F b (.lst vs) b = some u := e
      rw [upd_same] at this; cases this
      exact ⟨w.1, w.2.2.1, w.2.2.2.1⟩
    · have e' : g.F b = some u := by rw [← upd_ne (H := g.F) (o := .lst vs) hb]; exact e
      exact S.fr b u e'
theorem SR.unprot {g2 : Gh} {p : Addr} {vs : List V} {xs : List D} (l : (g.prot p (.lst vs)).le g2) (S : SR K g2 s H ro M) (w0 : g.F p = none) (w1 : g.H0 p = none) (r : Reps K g2.Z g2.io xs vs) :
    SR K { g2 with F := g.F } s H ro M ∧ g.le { g2 with F := g.F } ∧ OwnAt K { g2 with F := g.F } H p vs xs ∧ NoOwn ro s p := by
  have hf : g2.F p = some (.lst vs) := by rw [l.f]; exact upd_same
  obtain ⟨h1, h2, h3⟩ := S.fr p _ hf
  have back : ∀ b, g2.F b = none → g.F b = none := fun b e => by
    rw [l.f] at e
    by_cases hb : b = p
    · subst hb; exact w0
    · have : upd g.F p (.lst vs) b = none := e
      rw [upd_ne hb] at this; exact this
  have h0' : g2.H0 = g.H0 := l.h0
  refine ⟨⟨⟨S.gr.z, S.gr.i, S.gr.keep, S.gr.dom, S.gr.new⟩, S.hr, S.len, fun i x e => ?_, S.dis, fun b u e => ?_⟩, ⟨l.z0, l.i0, l.h0, rfl, l.z, l.i⟩, ⟨h1, r, h2, h3, ?_, w0⟩, fun i ys e e1 => ?_⟩
  · cases x with
    | val d => exact S.sl i _ e
    | own ys =>
      obtain ⟨q, us, e1, w'⟩ := S.sl i _ e
      exact ⟨q, us, e1, w'.1, w'.2.1, w'.2.2.1, w'.2.2.2.1, w'.2.2.2.2.1, back q w'.2.2.2.2.2⟩
  · have e' : g.F b = some u := e
    refine S.fr b u ?_
    rw [l.f]
    show upd g.F p (.lst vs) b = some u
    rw [upd_ne (ne_of_none e' w0)]; exact e'
  · show g2.H0 p = none
    rw [h0']; exact w1
  · obtain ⟨q, us, e2, w'⟩ := S.sl i _ e
    rw [e1] at e2; cases e2
    have := w'.2.2.2.2.2
    rw [hf] at this; cases this
end
end Sim
set_option Elab.async false
set_option linter.all false
set_option maxRecDepth 100000
set_option maxHeartbeats 4000000
/-! Expressions: what they come to over data; that the model's run does so. -/
namespace Sim
open PySem L2

abbrev Ms := List Cell
abbrev Fn := List D → Ms → Option (D × Ms)
abbrev Op2 := Ro → Ms → D → D → Option D
abbrev OpL := Ro → Ms → List D → Option D
/-- a method of a built-in's: the receiver, the arguments -/
abbrev OpM := Ro → Ms → D → List D → Option (D × Ro × Ms)

mutual
def D.dec : (a b : D) → Decidable (a = b)
  | .non, .non => .isTrue rfl
  | .non, .bl _ => .isFalse (fun h => by cases h)
  | .non, .int _ => .isFalse (fun h => by cases h)
  | .non, .str _ => .isFalse (fun h => by cases h)
  | .non, .tup _ => .isFalse (fun h => by cases h)
  | .non, .lst _ => .isFalse (fun h => by cases h)
  | .non, .ref _ => .isFalse (fun h => by cases h)
  | .non, .scr _ => .isFalse (fun h => by cases h)
  | .non, .bor _ => .isFalse (fun h => by cases h)
  | .bl _, .non => .isFalse (fun h => by cases h)
  | .bl b, .bl b' => if h : b = b' then .isTrue (by rw [h]) else .isFalse (by intro e; injection e with e; exact h e)
  | .bl _, .int _ => .isFalse (fun h => by cases h)
  | .bl _, .str _ => .isFalse (fun h => by cases h)
  | .bl _, .tup _ => .isFalse (fun h => by cases h)
  | .bl _, .lst _ => .isFalse (fun h => by cases h)
  | .bl _, .ref _ => .isFalse (fun h => by cases h)
  | .bl _, .scr _ => .isFalse (fun h => by cases h)
  | .bl _, .bor _ => .isFalse (fun h => by cases h)
  | .int _, .non => .isFalse (fun h => by cases h)
  | .int _, .bl _ => .isFalse (fun h => by cases h)
  | .int i, .int i' => if h : i = i' then .isTrue (by rw [h]) else .isFalse (by intro e; injection e with e; exact h e)
  | .int _, .str _ => .isFalse (fun h => by cases h)
  | .int _, .tup _ => .isFalse (fun h => by cases h)
  | .int _, .lst _ => .isFalse (fun h => by cases h)
  | .int _, .ref _ => .isFalse (fun h => by cases h)
  | .int _, .scr _ => .isFalse (fun h => by cases h)
  | .int _, .bor _ => .isFalse (fun h => by cases h)
  | .str _, .non => .isFalse (fun h => by cases h)
  | .str _, .bl _ => .isFalse (fun h => by cases h)
  | .str _, .int _ => .isFalse (fun h => by cases h)
  | .str s, .str s' => if h : s = s' then .isTrue (by rw [h]) else .isFalse (by intro e; injection e with e; exact h e)
  | .str _, .tup _ => .isFalse (fun h => by cases h)
  | .str _, .lst _ => .isFalse (fun h => by cases h)
  | .str _, .ref _ => .isFalse (fun h => by cases h)
  | .str _, .scr _ => .isFalse (fun h => by cases h)
  | .str _, .bor _ => .isFalse (fun h => by cases h)
  | .tup _, .non => .isFalse (fun h => by cases h)
  | .tup _, .bl _ => .isFalse (fun h => by cases h)
  | .tup _, .int _ => .isFalse (fun h => by cases h)
  | .tup _, .str _ => .isFalse (fun h => by cases h)
  | .tup l, .tup l' => match Ds.dec l l' with | .isTrue h => .isTrue (by rw [h]) | .isFalse h => .isFalse (by intro e; injection e with e; exact h e)
  | .tup _, .lst _ => .isFalse (fun h => by cases h)
  | .tup _, .ref _ => .isFalse (fun h => by cases h)
  | .tup _, .scr _ => .isFalse (fun h => by cases h)
  | .tup _, .bor _ => .isFalse (fun h => by cases h)
  | .lst _, .non => .isFalse (fun h => by cases h)
  | .lst _, .bl _ => .isFalse (fun h => by cases h)
  | .lst _, .int _ => .isFalse (fun h => by cases h)
  | .lst _, .str _ => .isFalse (fun h => by cases h)
  | .lst _, .tup _ => .isFalse (fun h => by cases h)
  | .lst l, .lst l' => match Ds.dec l l' with | .isTrue h => .isTrue (by rw [h]) | .isFalse h => .isFalse (by intro e; injection e with e; exact h e)
  | .lst _, .ref _ => .isFalse (fun h => by cases h)
  | .lst _, .scr _ => .isFalse (fun h => by cases h)
  | .lst _, .bor _ => .isFalse (fun h => by cases h)
  | .ref _, .non => .isFalse (fun h => by cases h)
  | .ref _, .bl _ => .isFalse (fun h => by cases h)
  | .ref _, .int _ => .isFalse (fun h => by cases h)
  | .ref _, .str _ => .isFalse (fun h => by cases h)
  | .ref _, .tup _ => .isFalse (fun h => by cases h)
  | .ref _, .lst _ => .isFalse (fun h => by cases h)
  | .ref k, .ref k' => if h : k = k' then .isTrue (by rw [h]) else .isFalse (by intro e; injection e with e; exact h e)
  | .ref _, .scr _ => .isFalse (fun h => by cases h)
  | .ref _, .bor _ => .isFalse (fun h => by cases h)
  | .scr _, .non => .isFalse (fun h => by cases h)
  | .scr _, .bl _ => .isFalse (fun h => by cases h)
  | .scr _, .int _ => .isFalse (fun h => by cases h)
  | .scr _, .str _ => .isFalse (fun h => by cases h)
  | .scr _, .tup _ => .isFalse (fun h => by cases h)
  | .scr _, .lst _ => .isFalse (fun h => by cases h)
  | .scr _, .ref _ => .isFalse (fun h => by cases h)
  | .scr n, .scr n' => if h : n = n' then .isTrue (by rw [h]) else .isFalse (by intro e; injection e with e; exact h e)
  | .scr _, .bor _ => .isFalse (fun h => by cases h)
  | .bor _, .non => .isFalse (fun h => by cases h)
  | .bor _, .bl _ => .isFalse (fun h => by cases h)
  | .bor _, .int _ => .isFalse (fun h => by cases h)
  | .bor _, .str _ => .isFalse (fun h => by cases h)
  | .bor _, .tup _ => .isFalse (fun h => by cases h)
  | .bor _, .lst _ => .isFalse (fun h => by cases h)
  | .bor _, .ref _ => .isFalse (fun h => by cases h)
  | .bor _, .scr _ => .isFalse (fun h => by cases h)
  | .bor i, .bor i' => if h : i = i' then .isTrue (by rw [h]) else .isFalse (by intro e; injection e with e; exact h e)
def Ds.dec : (a b : List D) → Decidable (a = b)
  | [], [] => .isTrue rfl
  | [], _ :: _ => .isFalse (fun h => by cases h)
  | _ :: _, [] => .isFalse (fun h => by cases h)
  | x :: xs, y :: ys => match D.dec x y with | .isFalse h => .isFalse (by intro e; injection e with e1 e2; exact h e1) | .isTrue h => match Ds.dec xs ys with | .isTrue h2 => .isTrue (by rw [h, h2]) | .isFalse h2 => .isFalse (by intro e; injection e with e1 e2; exact h2 e2)
end
instance : DecidableEq D := D.dec

inductive T where
  | name (i : Nat) | tup (l : List T)

abbrev Src := Ro → Ms → List D → Option (List D)
inductive E where
  | var (i : Nat) | bor (i : Nat) | c (d : D)
  | bin (f : Op2) (a b : E)
  | chain (f1 f2 : Op2) (a b c : E)
  | bi (f : OpL) (args : List E)
  | bm (ty : Ro → Ms → D → Bool) (f : OpM) (o : E) (args : List E)
  | fld (C : Addr) (o : E) (x : Str) | meth (C : Addr) (m : Str) (f : Fn) (o : E) (args : List E) | make (C : Addr) (f : Fn) (args : List E)
  | and_ (a b : E) | or_ (a b : E) | not_ (a : E) | ifx (t a b : E)
  | tup (args : List E) | lst (args : List E) | cell (a : E)
  | fn (f : Fn) (args : List E)
  | comp (src : Src) (args : List E) (tg : T) (test elt : E) (vs : List Nat)
  | dcomp (src : Src) (args : List E) (tg : T) (test key val : E) (vs : List Nat)
  | comp2 (src : Src) (args : List E) (tg : T) (test : E) (src2 : Src) (args2 : List E) (tg2 : T) (test2 elt : E) (vs vs2 : List Nat)


def lookC : Option Cell → Option (List D)
  | some (.lst xs) => some xs
  | _ => none
/-- the items of a list or a tuple -/
def look (ro : Ro) (M : Ms) : D → Option (List D)
  | .lst xs => some xs
  | .tup xs => some xs
  | .scr ns => some (ns.map D.int)
  | .bor i => match ro[i]? with
    | some (some (.own xs)) => some xs
    | some (some (.val (.lst xs))) => some xs
    | _ => none
  | .ref k => lookC M[k]?
  | _ => none

def isBor : D → Bool
  | .bor _ => true
  | _ => false

mutual
def asgT : T → D → Ro → Option Ro
  | .name i, d, ro => if isBor d then none else some (ro.set i (some (.val d)))
  | .tup l, .tup ds, ro => asgTs l ds ro
  | .tup _, _, _ => none
def asgTs : List T → List D → Ro → Option Ro
  | [], [], ro => some ro
  | t :: ts, d :: ds, ro => (asgT t d ro).bind fun r => asgTs ts ds r
  | _, _, _ => none
end

def wipeR (ro : Ro) : List Nat → Ro
  | [] => ro
  | v :: vs => (wipeR ro vs).set v none

def most : Nat := 100000

mutual
def T.slots : T → List Nat
  | .name i => [i]
  | .tup l => Ts.slots l
def Ts.slots : List T → List Nat
  | [] => []
  | t :: ts => T.slots t ++ Ts.slots ts
end
/-- the block's own names: the target's among them, no operand among them -/
def blkFine (vs : List Nat) (tg : T) (ds : List D) : Bool := (tg.slots.all fun i => vs.contains i) && ds.all fun d => match d with
  | .bor i => !vs.contains i
  | _ => true

abbrev Ev := Ro → Ms → Option (D × Ro × Ms)
/-- the turns of a comprehension: over the items left, the list so far; ok: the source is as it was -/
def compGo (src : Src) (ds all : List D) (tg : T) (test elt : Ev) (vs : List Nat) : List D → List D → Ro → Ms → Option (List D × Ro × Ms)
  | [], acc, ro, M => if src ro M ds = some all then some (acc, ro, M) else none
  | x :: xs, acc, ro, M => if src ro M ds = some all then
      (asgT tg x ro).bind fun r1 => (test r1 M).bind fun t => match t with
        | (.bl true, r2, M2) => (elt r2 M2).bind fun e => if isBor e.1 || decide (most < acc.length) then none else compGo src ds all tg test elt vs xs (acc ++ [e.1]) (wipeR e.2.1 vs) e.2.2
        | (.bl false, r2, M2) => compGo src ds all tg test elt vs xs acc (wipeR r2 vs) M2
        | _ => none
    else none
def compGo2 (src : Src) (ds all : List D) (tg : T) (test : Ev) (args2 : Ro → Ms → Option (List D × Ro × Ms)) (src2 : Src) (tg2 : T) (test2 elt : Ev) (vs vs2 : List Nat) : List D → List D → Ro → Ms → Option (List D × Ro × Ms)
  | [], acc, ro, M => if src ro M ds = some all then some (acc, ro, M) else none
  | x :: xs, acc, ro, M => if src ro M ds = some all then
      (asgT tg x ro).bind fun r1 => (test r1 M).bind fun t => match t with
        | (.bl true, r2, M2) => (args2 r2 M2).bind fun a => (src2 a.2.1 a.2.2 a.1).bind fun items => if blkFine vs2 tg2 a.1 then (compGo src2 a.1 items tg2 test2 elt vs2 items acc (wipeR a.2.1 vs2) a.2.2).bind fun q =>
            compGo2 src ds all tg test args2 src2 tg2 test2 elt vs vs2 xs q.1 (wipeR q.2.1 vs) q.2.2 else none
        | (.bl false, r2, M2) => compGo2 src ds all tg test args2 src2 tg2 test2 elt vs vs2 xs acc (wipeR r2 vs) M2
        | _ => none
    else none

def keyK : D → Option Key
  | .int i => some (.inl i)
  | .str x => some (.inr x)
  | _ => none
section
variable {κ : Type} [DecidableEq κ]
def getD (kvs : List (κ × D)) (k : κ) : Option D := (kvs.find? fun kv => decide (kv.1 = k)).map (·.2)
def setD (kvs : List (κ × D)) (k : κ) (v : D) : List (κ × D) :=
  if (kvs.any fun kv => decide (kv.1 = k)) = true then kvs.map (fun kv => if kv.1 = k then (kv.1, v) else kv) else kvs ++ [(k, v)]
end
/-- the turns of a dict's comprehension -/
def dcGo (src : Src) (ds all : List D) (tg : T) (test key val : Ev) (vs : List Nat) : List D → List (Key × D) → Ro → Ms → Option (List (Key × D) × Ro × Ms)
  | [], acc, ro, M => if src ro M ds = some all then some (acc, ro, M) else none
  | x :: xs, acc, ro, M => if src ro M ds = some all then
      (asgT tg x ro).bind fun r1 => (test r1 M).bind fun t => match t with
        | (.bl true, r2, M2) => (key r2 M2).bind fun y => (val y.2.1 y.2.2).bind fun z => (keyK y.1).bind fun k => if isBor z.1 || decide (most < acc.length) then none else dcGo src ds all tg test key val vs xs (setD acc k z.1) (wipeR z.2.1 vs) z.2.2
        | (.bl false, r2, M2) => dcGo src ds all tg test key val vs xs acc (wipeR r2 vs) M2
        | _ => none
    else none

/-- the attributes of an own instance -/
def insAt (C : Addr) (M : Ms) : D → Option (List (Str × D))
  | .ref k => match M[k]? with
    | some (.ins C' fs) => if C' = C then some fs else none
    | _ => none
  | _ => none

mutual
def evalE : E → Ev
  | .var i, ro, M => match ro[i]? with
    | some (some (.val d)) => some (d, ro, M)
    | some (some (.own xs)) => some (.lst xs, ro.set i (some (.val (.lst xs))), M)
    | _ => none
  | .bor i, ro, M => match ro[i]? with
    | some (some (.val d)) => some (d, ro, M)
    | some (some (.own _)) => some (.bor i, ro, M)
    | _ => none
  | .c d, ro, M => some (d, ro, M)
  | .bin f a b, ro, M => (evalE a ro M).bind fun x => (evalE b x.2.1 x.2.2).bind fun y => (f y.2.1 y.2.2 x.1 y.1).map fun d => (d, y.2.1, y.2.2)
  | .chain f1 f2 a b c, ro, M => (evalE a ro M).bind fun x => (evalE b x.2.1 x.2.2).bind fun y => (f1 y.2.1 y.2.2 x.1 y.1).bind fun k => match k with
    | .bl true => (evalE c y.2.1 y.2.2).bind fun z => (f2 z.2.1 z.2.2 y.1 z.1).map fun d => (d, z.2.1, z.2.2)
    | .bl false => some (.bl false, y.2.1, y.2.2)
    | _ => none
  | .bi f args, ro, M => (evalA args ro M).bind fun x => (f x.2.1 x.2.2 x.1).map fun d => (d, x.2.1, x.2.2)
  | .bm ty f o args, ro, M => (evalE o ro M).bind fun x => if ty x.2.1 x.2.2 x.1 then (evalA args x.2.1 x.2.2).bind fun y => f y.2.1 y.2.2 x.1 y.1 else none
  | .fld C o nm, ro, M => (evalE o ro M).bind fun x => (insAt C x.2.2 x.1).bind fun fs => (fs.lookup nm).map fun d => (d, x.2.1, x.2.2)
  | .meth C m f o args, ro, M => (evalE o ro M).bind fun x => (insAt C x.2.2 x.1).bind fun fs => if (fs.lookup m).isNone then (evalA args x.2.1 x.2.2).bind fun y => if y.1.any isBor then none else (f (x.1 :: y.1) y.2.2).map fun r => (r.1, y.2.1, r.2) else none
  | .make C f args, ro, M => (evalA args ro M).bind fun x => if x.1.any isBor then none else (f (.ref x.2.2.length :: x.1) (x.2.2 ++ [.ins C []])).bind fun r => match r.1 with
    | .non => some (.ref x.2.2.length, x.2.1, r.2)
    | _ => none
  | .and_ a b, ro, M => (evalE a ro M).bind fun x => match x.1 with
    | .bl true => evalE b x.2.1 x.2.2
    | .bl false => some (.bl false, x.2.1, x.2.2)
    | _ => none
  | .or_ a b, ro, M => (evalE a ro M).bind fun x => match x.1 with
    | .bl false => evalE b x.2.1 x.2.2
    | .bl true => some (.bl true, x.2.1, x.2.2)
    | _ => none
  | .not_ a, ro, M => (evalE a ro M).bind fun x => match x.1 with
    | .bl k => some (.bl (!k), x.2.1, x.2.2)
    | _ => none
  | .ifx t a b, ro, M => (evalE t ro M).bind fun x => match x.1 with
    | .bl true => evalE a x.2.1 x.2.2
    | .bl false => evalE b x.2.1 x.2.2
    | _ => none
  | .tup args, ro, M => (evalA args ro M).bind fun x => if x.1.any isBor || decide (most < x.1.length) then none else some (.tup x.1, x.2.1, x.2.2)
  | .lst args, ro, M => (evalA args ro M).bind fun x => if x.1.any isBor || decide (most < x.1.length) then none else some (.lst x.1, x.2.1, x.2.2)
  | .cell a, ro, M => (evalE a ro M).bind fun x => match x.1 with
    | .lst xs => some (.ref x.2.2.length, x.2.1, x.2.2 ++ [.lst xs])
    | _ => none
  | .fn f args, ro, M => (evalA args ro M).bind fun x => if x.1.any isBor then none else (f x.1 x.2.2).map fun r => (r.1, x.2.1, r.2)
  | .comp src args tg test elt vs, ro, M => (evalA args ro M).bind fun x => (src x.2.1 x.2.2 x.1).bind fun all => if blkFine vs tg x.1 then
      (compGo src x.1 all tg (evalE test) (evalE elt) vs all [] (wipeR x.2.1 vs) x.2.2).map fun q => (.lst q.1, q.2.1, q.2.2) else none
  | .dcomp src args tg test key val vs, ro, M => (evalA args ro M).bind fun x => (src x.2.1 x.2.2 x.1).bind fun all => if blkFine vs tg x.1 then
      (dcGo src x.1 all tg (evalE test) (evalE key) (evalE val) vs all [] (wipeR x.2.1 vs) x.2.2).map fun q => (.ref q.2.2.length, q.2.1, q.2.2 ++ [.dK q.1]) else none
  | .comp2 src args tg test src2 args2 tg2 test2 elt vs vs2, ro, M => (evalA args ro M).bind fun x => (src x.2.1 x.2.2 x.1).bind fun all => if blkFine vs tg x.1 && vs2.all (fun i => vs.contains i) then
      (compGo2 src x.1 all tg (evalE test) (evalA args2) src2 tg2 (evalE test2) (evalE elt) vs vs2 all [] (wipeR x.2.1 vs) x.2.2).map fun q => (.lst q.1, q.2.1, q.2.2) else none
def evalA : List E → Ro → Ms → Option (List D × Ro × Ms)
  | [], ro, M => some ([], ro, M)
  | e :: es, ro, M => (evalE e ro M).bind fun x => (evalA es x.2.1 x.2.2).map fun y => (x.1 :: y.1, y.2.1, y.2.2)
end
end Sim
set_option Elab.async false
set_option linter.all false
set_option maxRecDepth 100000
set_option maxHeartbeats 4000000
namespace Sim
open PySem L2

def RepO (K : PySem.W.Frag) (g : Gh) (s : L2.St) : D → V → Prop
  | .bor i, v => s[i]? = some (some v)
  | d, v => Rep K g.Z g.io d v
def RepsO (K : PySem.W.Frag) (g : Gh) (s : L2.St) : List D → List V → Prop
  | [], vs => vs = []
  | d :: ds, vs => ∃ v r, vs = v :: r ∧ RepO K g s d v ∧ RepsO K g s ds r
section
variable {K : PySem.W.Frag} {g g' : Gh} {s : L2.St} {H : Hp} {ro : Ro} {M : Ms}
theorem Rep.o {d : D} {v : V} (h : Rep K g.Z g.io d v) : RepO K g s d v := by
  cases d with
  | bor i => exact h.elim
  | _ => exact h
theorem RepO.r {d : D} {v : V} (h : RepO K g s d v) (n : isBor d = false) : Rep K g.Z g.io d v := by
  cases d with
  | bor i => cases n
  | _ => exact h
theorem RepO.le {d : D} {v : V} (h : RepO K g s d v) (l : g.le g') : RepO K g' s d v := by
  cases d with
  | bor i => exact h
  | non => exact Rep.le (K := K) (d := .non) h l
  | bl b => exact Rep.le (K := K) (d := .bl b) h l
  | int b => exact Rep.le (K := K) (d := .int b) h l
  | str b => exact Rep.le (K := K) (d := .str b) h l
  | tup b => exact Rep.le (K := K) (d := .tup b) h l
  | lst b => exact Rep.le (K := K) (d := .lst b) h l
  | ref b => exact Rep.le (K := K) (d := .ref b) h l
  | scr b => exact Rep.le (K := K) (d := .scr b) h l
theorem RepsO.le : ∀ {ds : List D} {vs : List V}, RepsO K g s ds vs → g.le g' → RepsO K g' s ds vs
  | [], _, h, _ => h
  | _ :: _, _, ⟨v, r, e, h1, h2⟩, l => ⟨v, r, e, h1.le l, RepsO.le h2 l⟩
theorem RepsO.r : ∀ {ds : List D} {vs : List V}, RepsO K g s ds vs → ds.any isBor = false → Reps K g.Z g.io ds vs
  | [], _, h, _ => h
  | d :: ds, _, ⟨v, r, e, h1, h2⟩, n => by
    rw [List.any_cons, Bool.or_eq_false_iff] at n
    exact ⟨v, r, e, h1.r n.1, RepsO.r h2 n.2⟩

theorem SR.len' (S : SR K g s H ro M) : s.length = ro.length := S.len
theorem SR.slVal (S : SR K g s H ro M) {i : Nat} {d : D} (e : ro[i]? = some (some (.val d))) : ∃ v, s[i]? = some (some v) ∧ Rep K g.Z g.io d v := S.sl i _ e
theorem SR.slOwn (S : SR K g s H ro M) {i : Nat} {xs : List D} (e : ro[i]? = some (some (.own xs))) : ∃ p vs, s[i]? = some (some (.ref p)) ∧ OwnAt K g H p vs xs := S.sl i _ e

/-! ### what a reading is, by the data -/
def tOf (K : PySem.W.Frag) (e : E) : TE := fun s H Q => ∃ g ro M d ro' M', SR K g s H ro M ∧ evalE e ro M = some (d, ro', M') ∧
  ∀ g' v H', SR K g' s H' ro' M' → g.le g' → RepO K g' s d v → Q v H'
def tOfT (K : PySem.W.Frag) (e : E) : TT := fun s H Q => ∃ g ro M b ro' M', SR K g s H ro M ∧ evalE e ro M = some (.bl b, ro', M') ∧
  ∀ g' H', SR K g' s H' ro' M' → g.le g' → Q b H'
def tOfA (K : PySem.W.Frag) (es : List E) : TA := fun s H Q => ∃ g ro M ds ro' M', SR K g s H ro M ∧ evalA es ro M = some (ds, ro', M') ∧
  ∀ g' vs H', SR K g' s H' ro' M' → g.le g' → RepsO K g' s ds vs → Q vs H'
/-- a list just made -/
def tOfL (K : PySem.W.Frag) (e : E) : TE := fun s H Q => ∃ g ro M xs ro' M', SR K g s H ro M ∧ evalE e ro M = some (.lst xs, ro', M') ∧
  ∀ g' p vs H', SR K g' s H' ro' M' → g.le g' → OwnAt K g' H' p vs xs → NoOwn ro' s p → Q (.ref p) H'

theorem pe_imp {X : Cx} {e : Expr} {t t' : TE} (h : PE X e t) (w : ∀ s H Q, t' s H Q → t s H Q) : PE X e t' := ⟨fun pins s σ H Q I q => h.run pins s σ H Q I (w _ _ _ q)⟩
theorem pt_imp {X : Cx} {e : Expr} {t t' : TT} (h : PT X e t) (w : ∀ s H Q, t' s H Q → t s H Q) : PT X e t' := ⟨fun pins s σ H Q I q => h.run pins s σ H Q I (w _ _ _ q)⟩
theorem pw_imp {X : Cx} {e : Expr} {t t' : TT} (h : PW X e t) (w : ∀ s H Q, t' s H Q → t s H Q) : PW X e t' := ⟨fun wh pins s σ H Q I q => h.run wh pins s σ H Q I (w _ _ _ q)⟩
theorem pa_imp {X : Cx} {e : List Expr} {t t' : TA} (h : PA X e t) (w : ∀ s H Q, t' s H Q → t s H Q) : PA X e t' := ⟨fun pos pins s σ H Q I q => h.run pos pins s σ H Q I (w _ _ _ q)⟩
theorem ps_imp {X : Cx} {e : Stmt} {t t' : TS} (h : PS X e t) (w : ∀ D s H, t' D s H → t D s H) : PS X e t' := ⟨fun pins s σ H D I q => h.run pins s σ H D I (w _ _ _ q)⟩
theorem pss_imp {X : Cx} {e : List Stmt} {t t' : TS} (h : PSs X e t) (w : ∀ D s H, t' D s H → t D s H) : PSs X e t' := ⟨fun pins s σ H D I q => h.run pins s σ H D I (w _ _ _ q)⟩

theorem bind_some {α β : Type} {x : Option α} {f : α → Option β} {y : β} (h : x.bind f = some y) : ∃ a, x = some a ∧ f a = some y := Option.bind_eq_some_iff.mp h
theorem map_some' {α β : Type} {x : Option α} {f : α → β} {y : β} (h : x.map f = some y) : ∃ a, x = some a ∧ f a = y := Option.map_eq_some_iff.mp h

/-- freezing a fresh list -/
theorem JL.frz {X : Cx} {a : Expr} {e : E} (h : PE X a (tOfL X.K e)) (hl : ∀ ro M r, evalE e ro M = some r → ∃ xs, r.1 = .lst xs) : PE X a (tOf X.K e) := pe_imp h fun s H Q ⟨g, ro, M, d, ro', M', S, ev, k⟩ => by
  obtain ⟨xs, e1⟩ := hl _ _ _ ev
  have e1' : d = .lst xs := e1
  subst e1'
  refine ⟨g, ro, M, xs, ro', M', S, ev, fun g' p vs H' S' l w n => ?_⟩
  obtain ⟨S2, r⟩ := S'.frzTmp w n
  exact k _ _ _ S2 (l.trans (g'.frz_le w.2.2.1)) r.o

/-! ### names, constants -/
theorem je_var {X : Cx} {i : Nat} {a : Expr} (h : PE X a (tVar i)) : PE X a (tOf X.K (.var i)) := pe_imp h fun s H Q ⟨g, ro, M, d, ro', M', S, ev, k⟩ => by
  unfold evalE at ev
  split at ev
  · rename_i d' e
    obtain ⟨v, e1, r⟩ := S.slVal e
    cases ev
    exact ⟨v, e1, k g v H S (Gh.le.refl g) r.o⟩
  · rename_i xs e
    obtain ⟨g', p, l, e1, r, S'⟩ := S.frzSlot e
    cases ev
    exact ⟨_, e1, k g' _ H S' l r.o⟩
  · cases ev
theorem je_bor {X : Cx} {i : Nat} {a : Expr} (h : PE X a (tVar i)) : PE X a (tOf X.K (.bor i)) := pe_imp h fun s H Q ⟨g, ro, M, d, ro', M', S, ev, k⟩ => by
  unfold evalE at ev
  split at ev
  · rename_i d' e
    obtain ⟨v, e1, r⟩ := S.slVal e
    cases ev
    exact ⟨v, e1, k g v H S (Gh.le.refl g) r.o⟩
  · rename_i xs e
    obtain ⟨p, vs, e1, w⟩ := S.slOwn e
    cases ev
    exact ⟨_, e1, k g _ H S (Gh.le.refl g) e1⟩
  · cases ev
theorem je_c {X : Cx} {a : Expr} {v : V} {d : D} (h : PE X a (tC v)) (r : ∀ Z io, Rep X.K Z io d v) : PE X a (tOf X.K (.c d)) := pe_imp h fun s H Q ⟨g, ro, M, d', ro', M', S, ev, k⟩ => by
  unfold evalE at ev; cases ev
  exact k g v H S (Gh.le.refl g) (r _ _).o
theorem je_int {X : Cx} {a : Expr} {i : Int} (h : PE X a (tC (.int i))) : PE X a (tOf X.K (.c (.int i))) := je_c h fun _ _ => rfl
theorem je_str {X : Cx} {a : Expr} {i : Str} (h : PE X a (tC (.str i))) : PE X a (tOf X.K (.c (.str i))) := je_c h fun _ _ => rfl
theorem je_bl {X : Cx} {a : Expr} {i : Bool} (h : PE X a (tC (.bl i))) : PE X a (tOf X.K (.c (.bl i))) := je_c h fun _ _ => rfl
theorem je_non {X : Cx} {a : Expr} (h : PE X a (tC .non)) : PE X a (tOf X.K (.c .non)) := je_c h fun _ _ => rfl

/-! ### arguments -/
theorem ja_nil {X : Cx} : PA X [] (tOfA X.K []) := pa_imp pa_nil fun s H Q ⟨g, ro, M, d', ro', M', S, ev, k⟩ => by
  unfold evalA at ev; cases ev
  exact k g [] H S (Gh.le.refl g) rfl
theorem ja_cons {X : Cx} {a : Expr} {as : List Expr} {e : E} {es : List E} (ha : PE X a (tOf X.K e)) (hr : PA X as (tOfA X.K es)) (hs : starEach (a :: as) X.env = (false, eval a X.env) :: starEach as X.env := by rfl) : PA X (a :: as) (tOfA X.K (e :: es)) :=
  pa_imp (pa_cons ha hr hs) fun s H Q ⟨g, ro, M, d', ro', M', S, ev, k⟩ => by
    unfold evalA at ev
    obtain ⟨x, e1, ev⟩ := bind_some ev
    obtain ⟨y, e2, ev⟩ := map_some' ev
    cases ev
    exact ⟨g, ro, M, _, _, _, S, e1, fun g1 v H1 S1 l1 r1 => ⟨g1, _, _, _, _, _, S1, e2, fun g2 vs H2 S2 l2 r2 => k g2 (v :: vs) H2 S2 (l1.trans l2) ⟨v, vs, rfl, r1.le l2, r2⟩⟩⟩

/-! ### operators on two values -/
/-- an operation on data is what the rule's is -/
def BinOk (K : PySem.W.Frag) (f : Op2) (r : R2) : Prop := ∀ (g : Gh) (s : L2.St) (H : Hp) (ro : Ro) (M : Ms) (d1 d2 d : D) (v1 v2 : V) (Q : VK), SR K g s H ro M → RepO K g s d1 v1 → RepO K g s d2 v2 → f ro M d1 d2 = some d →
  (∀ g' v H', SR K g' s H' ro M → g.le g' → RepO K g' s d v → Q v H') → r v1 v2 H Q
def BinOkL (K : PySem.W.Frag) (f : Op2) (r : R2) : Prop := ∀ (g : Gh) (s : L2.St) (H : Hp) (ro : Ro) (M : Ms) (d1 d2 : D) (xs : List D) (v1 v2 : V) (Q : VK), SR K g s H ro M → RepO K g s d1 v1 → RepO K g s d2 v2 → f ro M d1 d2 = some (.lst xs) →
  (∀ g' p vs H', SR K g' s H' ro M → g.le g' → OwnAt K g' H' p vs xs → NoOwn ro s p → Q (.ref p) H') → r v1 v2 H Q
theorem tOp_of {r : R2} {f : Op2} (ok : BinOk K f r) {a b : E} {Q : VK} (h : tOf K (.bin f a b) s H Q) : tOp r (tOf K a) (tOf K b) s H Q := by
  obtain ⟨g, ro, M, d', ro', M', S, ev, k⟩ := h
  unfold evalE at ev
  obtain ⟨x, e1, ev⟩ := bind_some ev
  obtain ⟨y, e2, ev⟩ := bind_some ev
  obtain ⟨d, e3, ev⟩ := map_some' ev
  cases ev
  exact ⟨g, ro, M, _, _, _, S, e1, fun g1 v H1 S1 l1 r1 => ⟨g1, _, _, _, _, _, S1, e2, fun g2 u H2 S2 l2 r2 => ok g2 s H2 _ _ _ _ _ v u Q S2 (r1.le l2) r2 e3 fun g3 w H3 S3 l3 r3 => k g3 w H3 S3 ((l1.trans l2).trans l3) r3⟩⟩
theorem tOpL_of {r : R2} {f : Op2} (ok : BinOkL K f r) {a b : E} {Q : VK} (h : tOfL K (.bin f a b) s H Q) : tOp r (tOf K a) (tOf K b) s H Q := by
  obtain ⟨g, ro, M, d', ro', M', S, ev, k⟩ := h
  unfold evalE at ev
  obtain ⟨x, e1, ev⟩ := bind_some ev
  obtain ⟨y, e2, ev⟩ := bind_some ev
  obtain ⟨d, e3, ev⟩ := map_some' ev
  cases ev
  exact ⟨g, ro, M, _, _, _, S, e1, fun g1 v H1 S1 l1 r1 => ⟨g1, _, _, _, _, _, S1, e2, fun g2 u H2 S2 l2 r2 => ok g2 s H2 _ _ _ _ _ v u Q S2 (r1.le l2) r2 e3 fun g3 w vs H3 S3 l3 r3 n3 => k g3 w vs H3 S3 ((l1.trans l2).trans l3) r3 n3⟩⟩
theorem je_op {X : Cx} {op : Operator} {r : R2} {f : Op2} {a b : Expr} {ea eb : E} {pos : Pos} (ho : OpR X (binaryOp op) r) (ok : BinOk X.K f r) (ha : PE X a (tOf X.K ea)) (hb : PE X b (tOf X.K eb)) : PE X (.BinOp a op b pos) (tOf X.K (.bin f ea eb)) :=
  pe_imp (pe_op ho ha hb) fun _ _ _ h => tOp_of ok h
theorem jl_op {X : Cx} {op : Operator} {r : R2} {f : Op2} {a b : Expr} {ea eb : E} {pos : Pos} (ho : OpR X (binaryOp op) r) (ok : BinOkL X.K f r) (ha : PE X a (tOf X.K ea)) (hb : PE X b (tOf X.K eb)) : PE X (.BinOp a op b pos) (tOfL X.K (.bin f ea eb)) :=
  pe_imp (pe_op ho ha hb) fun _ _ _ h => tOpL_of ok h
theorem je_cmp {X : Cx} {op : CmpOp} {r : R2} {f : Op2} {a b : Expr} {ea eb : E} {pos : Pos} (ho : OpR X (compareOp op) r) (ok : BinOk X.K f r) (ha : PE X a (tOf X.K ea)) (hb : PE X b (tOf X.K eb)) (hm : behindInMarks op b = false) : PE X (.Compare a [op] [b] pos) (tOf X.K (.bin f ea eb)) :=
  pe_imp (pe_cmpR ho ha hb hm) fun _ _ _ h => tOp_of ok h
theorem je_ix {X : Cx} {r : R2} {f : Op2} {a b : Expr} {ea eb : E} {pos : Pos} (hr : IxR X r) (ok : BinOk X.K f r) (ha : PE X a (tOf X.K ea)) (hb : PE X b (tOf X.K eb)) (hs : PlainIx b) : PE X (.Subscript a b pos) (tOf X.K (.bin f ea eb)) :=
  pe_imp (pe_ix hr ha hb hs) fun _ _ _ h => tOp_of ok h
/-- a value of two ways as a test -/
theorem tB_of {e : E} {Q : Bool → Hp → Prop} (h : tOfT K e s H Q) : tB (tOf K e) s H Q := by
  obtain ⟨g, ro, M, b, ro', M', S, ev, k⟩ := h
  exact ⟨g, ro, M, _, _, _, S, ev, fun g' v H' S' l r => ⟨b, r, k g' H' S' l⟩⟩
theorem jt_val {X : Cx} {a : Expr} {e : E} (h : PE X a (tOf X.K e)) (he : ∀ whole, isTrue a X.env whole = (do let v ← whole; standAt a.pos; holding [v] (truthy v)) := by intro _; rfl) : PT X a (tOfT X.K e) := pt_imp (pt_val h he) fun _ _ _ h => tB_of h
theorem tTest_of {r : R2} {f : Op2} (ok : BinOk K f r) {a b : E} {Q : Bool → Hp → Prop} (h : tOfT K (.bin f a b) s H Q) : tTest (tOp r (tOf K a) (tOf K b)) s H Q := by
  obtain ⟨g, ro, M, b', ro', M', S, ev, k⟩ := h
  exact tOp_of ok ⟨g, ro, M, _, _, _, S, ev, fun g' v H' S' l r => ⟨b', r, k g' H' S' l⟩⟩
theorem jt_cmp {X : Cx} {op : CmpOp} {r : R2} {f : Op2} {a b : Expr} {ea eb : E} {pos : Pos} (ho : OpR X (compareOp op) r) (ok : BinOk X.K f r) (ha : PE X a (tOf X.K ea)) (hb : PE X b (tOf X.K eb)) (hm : behindInMarks op b = false) : PT X (.Compare a [op] [b] pos) (tOfT X.K (.bin f ea eb)) :=
  pt_imp (pt_cmpR ho ha hb hm) fun _ _ _ h => tTest_of ok h
theorem tChain_of {r r' : R2} {f f' : Op2} (ok : BinOk K f r) (ok' : BinOk K f' r') {a b c : E} {Q : VK} (h : tOf K (.chain f f' a b c) s H Q) : tChain r r' (tOf K a) (tOf K b) (tOf K c) s H Q := by
  obtain ⟨g, ro, M, d', ro', M', S, ev, k⟩ := h
  unfold evalE at ev
  obtain ⟨x, e1, ev⟩ := bind_some ev
  obtain ⟨y, e2, ev⟩ := bind_some ev
  obtain ⟨z, e3, ev⟩ := bind_some ev
  refine ⟨g, ro, M, _, _, _, S, e1, fun g1 v H1 S1 l1 r1 => ⟨g1, _, _, _, _, _, S1, e2, fun g2 u H2 S2 l2 r2 => ok g2 s H2 _ _ _ _ _ v u _ S2 (r1.le l2) r2 e3 fun g3 w H3 S3 l3 r3 => ?_⟩⟩
  split at ev
  · obtain ⟨q, e4, ev⟩ := bind_some ev
    obtain ⟨d, e5, ev⟩ := map_some' ev
    cases ev
    refine ⟨true, r3, ?_⟩
    rw [if_pos rfl]
    exact ⟨g3, _, _, _, _, _, S3, e4, fun g4 w H4 S4 l4 r4 => ok' g4 s H4 _ _ _ _ _ u w Q S4 ((r2.le l3).le l4) r4 e5 fun g5 w H5 S5 l5 r5 => k g5 w H5 S5 ((((l1.trans l2).trans l3).trans l4).trans l5) r5⟩
  · cases ev
    refine ⟨false, r3, ?_⟩
    rw [if_neg Bool.false_ne_true]
    exact k g3 _ H3 S3 ((l1.trans l2).trans l3) rfl
  · cases ev
theorem je_chain {X : Cx} {op op' : CmpOp} {r r' : R2} {f f' : Op2} {a b c : Expr} {ea eb ec : E} {pos : Pos} (ho : OpR X (compareOp op) r) (ho' : OpR X (compareOp op') r') (ok : BinOk X.K f r) (ok' : BinOk X.K f' r') (ha : PE X a (tOf X.K ea)) (hb : PE X b (tOf X.K eb)) (hc : PE X c (tOf X.K ec))
    (hm : lastMarks [op, op'] [b, c] = false := by rfl) : PE X (.Compare a [op, op'] [b, c] pos) (tOf X.K (.chain f f' ea eb ec)) :=
  pe_imp (pe_chain ho ho' ha hb hc hm) fun _ _ _ h => tChain_of ok ok' h
end
end Sim
set_option Elab.async false
set_option linter.all false
set_option maxRecDepth 100000
set_option maxHeartbeats 4000000
namespace Sim
open PySem L2
section
variable {K : PySem.W.Frag} {g g' : Gh} {s : L2.St} {H : Hp} {ro : Ro} {M : Ms} {X : Cx}

/-! ### and, or, not, if-else -/
theorem je_one {a : Expr} {op : BoolOp} {e : E} {pos : Pos} (h : PE X a (tOf X.K e)) : PE X (.BoolOp op [a] pos) (tOf X.K e) := pe_one h
theorem je_and {a b : Expr} {rest : List Expr} {ea eb : E} {pos : Pos} (ha : PE X a (tOf X.K ea)) (hb : PE X (.BoolOp .And (b :: rest) pos) (tOf X.K eb)) : PE X (.BoolOp .And (a :: b :: rest) pos) (tOf X.K (.and_ ea eb)) :=
  pe_imp (pe_and ha hb) fun s H Q ⟨g, ro, M, d', ro', M', S, ev, k⟩ => by
    unfold evalE at ev
    obtain ⟨x, e1, ev⟩ := bind_some ev
    refine ⟨g, ro, M, _, _, _, S, e1, fun g1 v H1 S1 l1 r1 => ?_⟩
    split at ev
    · rename_i e0; rw [e0] at r1
      refine ⟨true, r1, ?_⟩
      refine iteT ?_
      exact ⟨g1, _, _, _, _, _, S1, ev, fun g2 w H2 S2 l2 r2 => k g2 w H2 S2 (l1.trans l2) r2⟩
    · rename_i e0; rw [e0] at r1
      cases ev
      refine ⟨false, r1, ?_⟩
      refine iteF ?_
      exact k g1 _ H1 S1 l1 rfl
    · cases ev
theorem je_or {a b : Expr} {rest : List Expr} {ea eb : E} {pos : Pos} (ha : PE X a (tOf X.K ea)) (hb : PE X (.BoolOp .Or (b :: rest) pos) (tOf X.K eb)) : PE X (.BoolOp .Or (a :: b :: rest) pos) (tOf X.K (.or_ ea eb)) :=
  pe_imp (pe_or ha hb) fun s H Q ⟨g, ro, M, d', ro', M', S, ev, k⟩ => by
    unfold evalE at ev
    obtain ⟨x, e1, ev⟩ := bind_some ev
    refine ⟨g, ro, M, _, _, _, S, e1, fun g1 v H1 S1 l1 r1 => ?_⟩
    split at ev
    · rename_i e0; rw [e0] at r1
      refine ⟨false, r1, ?_⟩
      refine iteF ?_
      exact ⟨g1, _, _, _, _, _, S1, ev, fun g2 w H2 S2 l2 r2 => k g2 w H2 S2 (l1.trans l2) r2⟩
    · rename_i e0; rw [e0] at r1
      cases ev
      refine ⟨true, r1, ?_⟩
      refine iteT ?_
      exact k g1 _ H1 S1 l1 rfl
    · cases ev
theorem je_not {a : Expr} {ea : E} {pos : Pos} (ha : PE X a (tOf X.K ea)) : PE X (.UnaryOp .Not a pos) (tOf X.K (.not_ ea)) :=
  pe_imp (pe_not ha) fun s H Q ⟨g, ro, M, d', ro', M', S, ev, k⟩ => by
    unfold evalE at ev
    obtain ⟨x, e1, ev⟩ := bind_some ev
    refine ⟨g, ro, M, _, _, _, S, e1, fun g1 v H1 S1 l1 r1 => ?_⟩
    split at ev
    · rename_i c e0; rw [e0] at r1
      cases ev
      exact ⟨c, r1, k g1 _ H1 S1 l1 rfl⟩
    · cases ev
theorem jw_and1 {a : Expr} {e : E} {pos : Pos} (h : PT X a (tOfT X.K e)) : PW X (.BoolOp .And [a] pos) (tOfT X.K e) := pw_and1 h
theorem jw_or1 {a : Expr} {e : E} {pos : Pos} (h : PT X a (tOfT X.K e)) : PW X (.BoolOp .Or [a] pos) (tOfT X.K e) := pw_or1 h
theorem jw_and {a b : Expr} {rest : List Expr} {ea eb : E} {pos : Pos} (ha : PT X a (tOfT X.K ea)) (hb : PW X (.BoolOp .And (b :: rest) pos) (tOfT X.K eb)) : PW X (.BoolOp .And (a :: b :: rest) pos) (tOfT X.K (.and_ ea eb)) :=
  pw_imp (pw_and ha hb) fun s H Q ⟨g, ro, M, d', ro', M', S, ev, k⟩ => by
    unfold evalE at ev
    obtain ⟨x, e1, ev⟩ := bind_some ev
    obtain ⟨xd, xr, xm⟩ := x
    split at ev
    · rename_i e0; have e0' : xd = .bl true := e0; subst e0'
      refine ⟨g, ro, M, _, _, _, S, e1, fun g1 H1 S1 l1 => ?_⟩
      refine iteT ?_
      exact ⟨g1, _, _, _, _, _, S1, ev, fun g2 H2 S2 l2 => k g2 H2 S2 (l1.trans l2)⟩
    · rename_i e0; have e0' : xd = .bl false := e0; subst e0'
      cases ev
      refine ⟨g, ro, M, _, _, _, S, e1, fun g1 H1 S1 l1 => ?_⟩
      refine iteF ?_
      exact k g1 H1 S1 l1
    · cases ev
theorem jw_or {a b : Expr} {rest : List Expr} {ea eb : E} {pos : Pos} (ha : PT X a (tOfT X.K ea)) (hb : PW X (.BoolOp .Or (b :: rest) pos) (tOfT X.K eb)) : PW X (.BoolOp .Or (a :: b :: rest) pos) (tOfT X.K (.or_ ea eb)) :=
  pw_imp (pw_or ha hb) fun s H Q ⟨g, ro, M, d', ro', M', S, ev, k⟩ => by
    unfold evalE at ev
    obtain ⟨x, e1, ev⟩ := bind_some ev
    obtain ⟨xd, xr, xm⟩ := x
    split at ev
    · rename_i e0; have e0' : xd = .bl false := e0; subst e0'
      refine ⟨g, ro, M, _, _, _, S, e1, fun g1 H1 S1 l1 => ?_⟩
      refine iteF ?_
      exact ⟨g1, _, _, _, _, _, S1, ev, fun g2 H2 S2 l2 => k g2 H2 S2 (l1.trans l2)⟩
    · rename_i e0; have e0' : xd = .bl true := e0; subst e0'
      cases ev
      refine ⟨g, ro, M, _, _, _, S, e1, fun g1 H1 S1 l1 => ?_⟩
      refine iteT ?_
      exact k g1 H1 S1 l1
    · cases ev
theorem jt_not {a : Expr} {ea : E} {pos : Pos} (ha : PT X a (tOfT X.K ea)) : PT X (.UnaryOp .Not a pos) (tOfT X.K (.not_ ea)) :=
  pt_imp (pt_not ha) fun s H Q ⟨g, ro, M, d', ro', M', S, ev, k⟩ => by
    unfold evalE at ev
    obtain ⟨x, e1, ev⟩ := bind_some ev
    obtain ⟨xd, xr, xm⟩ := x
    split at ev
    · rename_i c e0; have e0' : xd = .bl c := e0; subst e0'
      cases ev
      exact ⟨g, ro, M, _, _, _, S, e1, fun g1 H1 S1 l1 => k g1 H1 S1 l1⟩
    · cases ev
theorem je_ifx {c a b : Expr} {ec ea eb : E} {pos : Pos} (hc : PT X c (tOfT X.K ec)) (ha : PE X a (tOf X.K ea)) (hb : PE X b (tOf X.K eb)) : PE X (.IfExp c a b pos) (tOf X.K (.ifx ec ea eb)) :=
  pe_imp (pe_ifExp hc ha hb) fun s H Q ⟨g, ro, M, d', ro', M', S, ev, k⟩ => by
    unfold evalE at ev
    obtain ⟨x, e1, ev⟩ := bind_some ev
    obtain ⟨xd, xr, xm⟩ := x
    split at ev
    · rename_i e0; have e0' : xd = .bl true := e0; subst e0'
      refine ⟨g, ro, M, _, _, _, S, e1, fun g1 H1 S1 l1 => ?_⟩
      refine iteT ?_
      exact ⟨g1, _, _, _, _, _, S1, ev, fun g2 v H2 S2 l2 r2 => k g2 v H2 S2 (l1.trans l2) r2⟩
    · rename_i e0; have e0' : xd = .bl false := e0; subst e0'
      refine ⟨g, ro, M, _, _, _, S, e1, fun g1 H1 S1 l1 => ?_⟩
      refine iteF ?_
      exact ⟨g1, _, _, _, _, _, S1, ev, fun g2 v H2 S2 l2 r2 => k g2 v H2 S2 (l1.trans l2) r2⟩
    · cases ev
theorem jt_chain {op op' : CmpOp} {r r' : R2} {f f' : Op2} {a b c : Expr} {ea eb ec : E} {pos : Pos} (ho : OpR X (compareOp op) r) (ho' : OpR X (compareOp op') r') (ok : BinOk X.K f r) (ok' : BinOk X.K f' r') (ha : PE X a (tOf X.K ea)) (hb : PE X b (tOf X.K eb)) (hc : PE X c (tOf X.K ec))
    (hm : lastMarks [op, op'] [b, c] = false := by rfl) : PT X (.Compare a [op, op'] [b, c] pos) (tOfT X.K (.chain f f' ea eb ec)) :=
  pt_imp (pt_chain ho ho' ha hb hc hm) fun s H Q ⟨g, ro, M, b', ro', M', S, ev, k⟩ => tChain_of ok ok' ⟨g, ro, M, _, _, _, S, ev, fun g' v H' S' l r => ⟨b', r, k g' H' S' l⟩⟩

/-! ### tuples, lists -/
theorem most_line {n : Nat} (h : decide (most < n) = false) : n ≤ sizeLine := by
  have := of_decide_eq_false h
  exact Nat.le_trans (Nat.le_of_not_lt this) (by decide)
theorem je_tup {es : List Expr} {as : List E} {x1 : Nat} {pos : Pos} (h : PA X es (tOfA X.K as)) : PE X (.Tuple es x1 pos) (tOf X.K (.tup as)) :=
  pe_imp (pe_tup h) fun s H Q ⟨g, ro, M, d', ro', M', S, ev, k⟩ => by
    unfold evalE at ev
    obtain ⟨x, e1, ev⟩ := bind_some ev
    split at ev
    · cases ev
    · rename_i hn
      rw [Bool.not_eq_true, Bool.or_eq_false_iff] at hn
      cases ev
      refine ⟨g, ro, M, _, _, _, S, e1, fun g1 vs H1 S1 l1 r1 => ?_⟩
      have r := r1.r hn.1
      refine ⟨by rw [r.length]; exact most_line hn.2, fun p hp => ?_⟩
      have S2 := S1.newFrz (.tup vs) hp
      have l2 := g1.frz_le (o := .tup vs) (S1.hr.notZ hp)
      exact k _ _ _ S2 (l1.trans l2) (show Rep X.K (g1.frz p (.tup vs)).Z (g1.frz p (.tup vs)).io (.tup x.1) (.ref p) from ⟨p, vs, rfl, upd_same, r.le l2⟩)
theorem SR.fresh_own (S : SR K g s H ro M) {p : Addr} {vs : List V} {xs : List D} (h : H p = none) (r : Reps K g.Z g.io xs vs) : SR K g s (upd H p (.lst vs)) ro M ∧ OwnAt K g (upd H p (.lst vs)) p vs xs ∧ NoOwn ro s p := by
  have nf : g.F p = none := by
    cases e : g.F p with
    | none => rfl
    | some o => rw [(S.fr p o e).1] at h; cases h
  refine ⟨⟨⟨S.gr.z, S.gr.i, fun b u e n => ?_, fun b e => ?_, S.gr.new⟩, ⟨fun b u e => ?_, S.hr.len, S.hr.nd, S.hr.zi, fun k c a e1 e2 => ?_⟩, S.len, fun i x e => ?_, S.dis, fun b u e => ?_⟩, ⟨upd_same, r, S.hr.notZ h, S.hr.not_io h, S.gr.dom p h, nf⟩, fun i ys e e1 => ?_⟩
  · have := S.gr.keep b u e n
    rw [upd_ne (ne_of_none this h)]; exact this
  · by_cases hb : b = p
    · subst hb; exact S.gr.dom b h
    · rw [upd_ne hb] at e; exact S.gr.dom b e
  · have := S.hr.zh b u e
    rw [upd_ne (ne_of_none this h)]; exact this
  · have ha : a ≠ p := fun q => by subst q; exact S.hr.not_io h (List.mem_of_getElem? e2)
    rw [upd_ne ha]; exact S.hr.cell k c a e1 e2
  · refine (S.sl i x e).keep (Gh.le.refl g) fun q vs xs _ w _ => ?_
    have hq : q ≠ p := fun z => by subst z; rw [w.1] at h; cases h
    exact ⟨by rw [upd_ne hq]; exact w.1, w.2⟩
  · obtain ⟨h1, h2, h3⟩ := S.fr b u e
    exact ⟨by rw [upd_ne (ne_of_none h1 h)]; exact h1, h2, h3⟩
  · obtain ⟨q, us, e2, w⟩ := S.slOwn e
    rw [e1] at e2; cases e2
    rw [w.1] at h; cases h
theorem jl_lst {es : List Expr} {as : List E} {pos : Pos} (h : PA X es (tOfA X.K as)) : PE X (.List es pos) (tOfL X.K (.lst as)) :=
  pe_imp (pe_lst h) fun s H Q ⟨g, ro, M, d', ro', M', S, ev, k⟩ => by
    unfold evalE at ev
    obtain ⟨x, e1, ev⟩ := bind_some ev
    split at ev
    · cases ev
    · rename_i hn
      rw [Bool.not_eq_true, Bool.or_eq_false_iff] at hn
      cases ev
      refine ⟨g, ro, M, _, _, _, S, e1, fun g1 vs H1 S1 l1 r1 => ?_⟩
      have r := r1.r hn.1
      refine ⟨by rw [r.length]; exact most_line hn.2, fun p hp => ?_⟩
      obtain ⟨S2, w, n⟩ := S1.fresh_own hp r
      exact k g1 p vs _ S2 l1 w n
theorem lst_isL {as : List E} : ∀ ro M r, evalE (.lst as) ro M = some r → ∃ xs, r.1 = .lst xs := fun ro M r ev => by
  unfold evalE at ev
  obtain ⟨x, e1, ev⟩ := bind_some ev
  split at ev
  · cases ev
  · cases ev; exact ⟨_, rfl⟩
theorem je_lst {es : List Expr} {as : List E} {pos : Pos} (h : PA X es (tOfA X.K as)) : PE X (.List es pos) (tOf X.K (.lst as)) := JL.frz (jl_lst h) lst_isL
/-- a fresh list as a cell -/
theorem SR.cellTmp (S : SR K g s H ro M) {p : Addr} {vs : List V} {xs : List D} (w : OwnAt K g H p vs xs) (n : NoOwn ro s p) : SR K { g with io := g.io ++ [p] } s H ro (M ++ [.lst xs]) ∧ g.le { g with io := g.io ++ [p] } := by
  have l : g.le { g with io := g.io ++ [p] } := ⟨rfl, rfl, rfl, rfl, Same.refl _, ⟨[p], rfl⟩⟩
  have hi := w.2.2.2.1
  refine ⟨⟨⟨S.gr.z, ?_, S.gr.keep, S.gr.dom, S.gr.new⟩, ⟨S.hr.zh, by simp [S.hr.len], ?_, fun a m => ?_, fun k x a e1 e2 => ?_⟩, S.len, fun i x e => ?_, S.dis, fun b u e => ?_⟩, l⟩
  · obtain ⟨nu, e, f⟩ := S.gr.i
    refine ⟨nu ++ [p], by rw [← List.append_assoc, ← e], fun a m => ?_⟩
    rcases List.mem_append.mp m with m | m
    · exact f a m
    · rw [List.mem_singleton.mp m]; exact w.2.2.2.2.1
  · rw [List.nodup_append]
    refine ⟨S.hr.nd, by simp, fun a m b m' q => ?_⟩
    rw [List.mem_singleton.mp m'] at q; subst q; exact hi m
  · rcases List.mem_append.mp m with m | m
    · exact S.hr.zi a m
    · rw [List.mem_singleton.mp m]; exact w.2.2.1
  · by_cases hk : k < M.length
    · rw [List.getElem?_append_left hk] at e1
      have e2' : g.io[k]? = some a := by
        rw [List.getElem?_append_left (by rw [S.hr.len]; exact hk)] at e2; exact e2
      exact (S.hr.cell k x a e1 e2').mono l.z l.i
    · have hl := (List.getElem?_eq_some_iff.mp e1).1
      rw [List.length_append, List.length_singleton] at hl
      have hk' : k = M.length := by omega
      subst hk'
      rw [List.getElem?_append_right (Nat.le_refl _), Nat.sub_self] at e1
      have e2' : (g.io ++ [p])[M.length]? = some a := e2
      rw [← S.hr.len, List.getElem?_append_right (Nat.le_refl _), Nat.sub_self] at e2'
      cases e1; cases e2'
      exact ⟨vs, w.1, w.2.1.le l⟩
  · cases x with
    | val d => obtain ⟨v, e1, r⟩ := S.sl i _ e; exact ⟨v, e1, r.le l⟩
    | own ys =>
      obtain ⟨q, us, e1, w'⟩ := S.sl i _ e
      have hq : q ≠ p := fun z => by subst z; exact n i ys e e1
      refine ⟨q, us, e1, w'.le l w'.1 w'.2.2.1 fun m => ?_⟩
      rcases List.mem_append.mp m with m | m
      · exact w'.2.2.2.1 m
      · exact hq (List.mem_singleton.mp m)
  · obtain ⟨h1, h2, h3⟩ := S.fr b u e
    have hb : b ≠ p := ne_of_none e w.2.2.2.2.2
    refine ⟨h1, h2, fun m => ?_⟩
    rcases List.mem_append.mp m with m | m
    · exact h3 m
    · exact hb (List.mem_singleton.mp m)
theorem je_cell {a : Expr} {e : E} (h : PE X a (tOfL X.K e)) : PE X a (tOf X.K (.cell e)) := pe_imp h fun s H Q ⟨g, ro, M, d', ro', M', S, ev, k⟩ => by
  unfold evalE at ev
  obtain ⟨x, e1, ev⟩ := bind_some ev
  obtain ⟨xd, xr, xm⟩ := x
  split at ev
  · rename_i xs e0
    have e0' : xd = .lst xs := e0
    subst e0'
    cases ev
    refine ⟨g, ro, M, xs, _, _, S, e1, fun g1 p vs H1 S1 l1 w n => ?_⟩
    obtain ⟨S2, l2⟩ := S1.cellTmp w n
    refine k _ _ _ S2 (l1.trans l2) (show Rep X.K g1.Z (g1.io ++ [p]) (.ref xm.length) (.ref p) from ⟨p, rfl, ?_⟩)
    rw [← S1.hr.len, List.getElem?_append_right (Nat.le_refl _), Nat.sub_self]; rfl
  · cases ev

/-! ### built-ins by values -/
def BiOk (K : PySem.W.Frag) (f : OpL) (r : List V → Hp → VK → Prop) : Prop := ∀ (g : Gh) (s : L2.St) (H : Hp) (ro : Ro) (M : Ms) (ds : List D) (d : D) (vs : List V) (Q : VK), SR K g s H ro M → RepsO K g s ds vs → f ro M ds = some d →
  (∀ g' v H', SR K g' s H' ro M → g.le g' → RepO K g' s d v → Q v H') → r vs H Q
def BiOkL (K : PySem.W.Frag) (f : OpL) (r : List V → Hp → VK → Prop) : Prop := ∀ (g : Gh) (s : L2.St) (H : Hp) (ro : Ro) (M : Ms) (ds : List D) (xs : List D) (vs : List V) (Q : VK), SR K g s H ro M → RepsO K g s ds vs → f ro M ds = some (.lst xs) →
  (∀ g' p us H', SR K g' s H' ro M → g.le g' → OwnAt K g' H' p us xs → NoOwn ro s p → Q (.ref p) H') → r vs H Q
theorem tCB_of {r : List V → Hp → VK → Prop} {f : OpL} (ok : BiOk K f r) {as : List E} {Q : VK} (h : tOf K (.bi f as) s H Q) : tCB r (tOfA K as) s H Q := by
  obtain ⟨g, ro, M, d', ro', M', S, ev, k⟩ := h
  unfold evalE at ev
  obtain ⟨x, e1, ev⟩ := bind_some ev
  obtain ⟨d, e3, ev⟩ := map_some' ev
  cases ev
  exact ⟨g, ro, M, _, _, _, S, e1, fun g1 vs H1 S1 l1 r1 => ok g1 s H1 _ _ _ _ vs Q S1 r1 e3 fun g3 w H3 S3 l3 r3 => k g3 w H3 S3 (l1.trans l3) r3⟩
theorem tCBL_of {r : List V → Hp → VK → Prop} {f : OpL} (ok : BiOkL K f r) {as : List E} {Q : VK} (h : tOfL K (.bi f as) s H Q) : tCB r (tOfA K as) s H Q := by
  obtain ⟨g, ro, M, d', ro', M', S, ev, k⟩ := h
  unfold evalE at ev
  obtain ⟨x, e1, ev⟩ := bind_some ev
  obtain ⟨d, e3, ev⟩ := map_some' ev
  cases ev
  exact ⟨g, ro, M, _, _, _, S, e1, fun g1 vs H1 S1 l1 r1 => ok g1 s H1 _ _ _ _ vs Q S1 r1 e3 fun g3 w us H3 S3 l3 r3 n3 => k g3 w us H3 S3 (l1.trans l3) r3 n3⟩

/-! ### a def's promise by a function on data -/
def spM (K : PySem.W.Frag) (n : Nat) (f : Fn) : Sp := fun vs H Q _ => ∃ Z io M ds d M', HR K Z io M H ∧ Reps K Z io ds vs ∧ ds.length = n ∧ f ds M = some (d, M') ∧
  ∀ Z' io' v H', GR ⟨Z, io, H, Z', io', fun _ => none⟩ H' → HR K Z' io' M' H' → Rep K Z' io' d v → Q v H'
theorem spM_len {n : Nat} {f : Fn} {vs : List V} {Q : VK} {E : XK} (h : spM K n f vs H Q E) : vs.length = n := by
  obtain ⟨Z, io, M, ds, d, M', _, r, e, _⟩ := h
  rw [r.length, e]
theorem spM_of {n : Nat} {f : Fn} (S : SR K g s H ro M) {ds : List D} {vs : List V} {d : D} {M' : Ms} {Q : VK} {E : XK} (r : Reps K g.Z g.io ds vs) (en : ds.length = n) (e : f ds M = some (d, M'))
    (k : ∀ g' v H', SR K g' s H' ro M' → g.le g' → Rep K g'.Z g'.io d v → Q v H') : spM K n f vs H Q E :=
  ⟨g.Z, g.io, M, ds, d, M', S.hr, r, en, e, fun Z' io' v H' gr hr rd => by
    obtain ⟨S', l⟩ := S.call gr hr
    exact k _ v H' S' l rd⟩
theorem tCall_of {n : Nat} {f : Fn} {EX : XK} {as : List E} (en : as.length = n) {Q : VK} (h : tOf K (.fn f as) s H Q) : tCall (spM K n f) [] EX (tOfA K as) s H Q := by
  obtain ⟨g, ro, M, d', ro', M', S, ev, k⟩ := h
  unfold evalE at ev
  obtain ⟨x, e1, ev⟩ := bind_some ev
  split at ev
  · cases ev
  · rename_i hn
    obtain ⟨r, e2, ev⟩ := map_some' ev
    cases ev
    refine ⟨g, ro, M, _, _, _, S, e1, fun g1 vs H1 S1 l1 r1 => ?_⟩
    have rr := r1.r (Bool.not_eq_true _ ▸ hn)
    show spM K n f (vs ++ []) H1 Q EX
    rw [List.append_nil]
    have hl : ∀ (es : List Sim.E) ro M ds ro' M', evalA es ro M = some (ds, ro', M') → ds.length = es.length := by
      intro es
      induction es with
      | nil => intro ro M ds ro' M' h; unfold evalA at h; cases h; rfl
      | cons e es ih =>
        intro ro M ds ro' M' h
        unfold evalA at h
        obtain ⟨y, _, h⟩ := bind_some h
        obtain ⟨z, h2, h⟩ := map_some' h
        cases h
        rw [List.length_cons, List.length_cons, ih _ _ _ _ _ h2]
    exact spM_of S1 rr ((hl _ _ _ _ _ _ e1).trans en) e2 fun g2 v H2 S2 l2 r2 => k g2 v H2 S2 (l1.trans l2) r2.o
end
end Sim
set_option Elab.async false
set_option linter.all false
set_option maxRecDepth 100000
set_option maxHeartbeats 4000000
namespace Sim
open PySem L2
section
variable {K : PySem.W.Frag} {g g' : Gh} {s : L2.St} {H : Hp} {ro : Ro} {M : Ms} {X : Cx}

theorem Rep.noBor {Z : Hp} {io : List Addr} {d : D} {v : V} (h : Rep K Z io d v) : isBor d = false := by
  cases d with
  | bor i => exact h.elim
  | _ => rfl

/-! ### targets -/
def gOf (K : PySem.W.Frag) (t : T) : TG := fun v s H Q => ∃ g ro M d ro', SR K g s H ro M ∧ Rep K g.Z g.io d v ∧ asgT t d ro = some ro' ∧
  ∀ s', SR K g s' H ro' M → s'.length = s.length → (∀ i, i ∉ t.slots → s'[i]? = s[i]?) → Q s' H
def gOfs (K : PySem.W.Frag) (ts : List T) : TGs := fun vs s H Q => ∃ g ro M ds ro', SR K g s H ro M ∧ Reps K g.Z g.io ds vs ∧ asgTs ts ds ro = some ro' ∧
  ∀ s', SR K g s' H ro' M → s'.length = s.length → (∀ i, i ∉ Ts.slots ts → s'[i]? = s[i]?) → Q s' H
theorem pg_imp {e : Expr} {t t' : TG} (h : PG X e t) (w : ∀ v s H Q, t' v s H Q → t v s H Q) : PG X e t' := ⟨fun pins s σ H v u Q I r q => h.run pins s σ H v u Q I r (w _ _ _ _ q)⟩
theorem pgs_imp {e : List Expr} {t t' : TGs} (h : PGs X e t) (w : ∀ v s H Q, t' v s H Q → t v s H Q) : PGs X e t' := ⟨fun pins s σ H v u Q I r q => h.run pins s σ H v u Q I r (w _ _ _ _ q)⟩
theorem jg_name {e : Expr} {i : Nat} (h : PG X e (gName i)) : PG X e (gOf X.K (.name i)) := pg_imp h fun v s H Q ⟨g, ro, M, d, ro', S, r, e, k⟩ => by
  unfold asgT at e
  rw [r.noBor] at e
  cases e
  refine k _ (S.setVal r) (by rw [List.length_set]) fun j hj => ?_
  rw [List.getElem?_set_ne]
  intro q; subst q; exact hj (by show i ∈ [i]; simp)
theorem jgs_nil : PGs X [] (gOfs X.K []) := pgs_imp pgs_nil fun v s H Q ⟨g, ro, M, d, ro', S, r, e, k⟩ => by
  cases d with
  | nil =>
    unfold asgTs at e; cases e
    exact ⟨r, k s S rfl fun _ _ => rfl⟩
  | cons _ _ => unfold asgTs at e; cases e
theorem jgs_cons {e : Expr} {es : List Expr} {t : T} {ts : List T} (h1 : PG X e (gOf X.K t)) (h2 : PGs X es (gOfs X.K ts))
    (hs : (assignEach (e :: es) X.env).map (·.2) = assign e X.env :: (assignEach es X.env).map (·.2) := by rfl) : PGs X (e :: es) (gOfs X.K (t :: ts)) :=
  pgs_imp (pgs_cons h1 h2 hs) fun v s H Q ⟨g, ro, M, d, ro', S, r, e, k⟩ => by
    cases d with
    | nil => unfold asgTs at e; cases e
    | cons d ds =>
      unfold asgTs at e
      obtain ⟨r1, e1, e⟩ := bind_some e
      obtain ⟨u, us, ev, ru, rus⟩ := r
      refine ⟨u, us, ev, g, ro, M, d, r1, S, ru, e1, fun s1 S1 l1 f1 => ⟨g, r1, M, ds, ro', S1, rus, e, fun s2 S2 l2 f2 => k s2 S2 (l2.trans l1) fun i hi => ?_⟩⟩
      have hi' : i ∉ t.slots ++ Ts.slots ts := hi
      rw [List.mem_append] at hi'
      exact (f2 i fun q => hi' (.inr q)).trans (f1 i fun q => hi' (.inl q))
theorem asgTs_len : ∀ {ts : List T} {ds : List D} {ro ro' : Ro}, asgTs ts ds ro = some ro' → ds.length = ts.length
  | [], [], _, _, _ => rfl
  | [], _ :: _, _, _, h => by unfold asgTs at h; cases h
  | _ :: _, [], _, _, h => by unfold asgTs at h; cases h
  | t :: ts, d :: ds, ro, ro', h => by
    unfold asgTs at h
    obtain ⟨r1, _, h⟩ := bind_some h
    rw [List.length_cons, List.length_cons, asgTs_len h]
theorem jg_tup {es : List Expr} {k : Nat} {ts : List T} {pos : Pos} (hc : X.calm = true) (h : PGs X es (gOfs X.K ts))
    (hn : (assignEach es X.env).length = ts.length := by rfl) (hst : (assignEach es X.env).findIdx? (·.1) = none := by rfl) : PG X (.Tuple es k pos) (gOf X.K (.tup ts)) :=
  pg_imp (pg_tup hc h hn hst) fun v s H Q ⟨g, ro, M, d, ro', S, r, e, k⟩ => by
    cases d with
    | tup ds =>
      obtain ⟨a, vs, ev, t, rs⟩ := r
      unfold asgT at e
      exact ⟨a, vs, ev, SqT.of (S.hr.zh _ _ t), by rw [rs.length, asgTs_len e], g, ro, M, ds, ro', S, rs, e, fun s' S' l f => k s' S' l f⟩
    | _ => unfold asgT at e; cases e

/-! ### what is walked -/
def JOk (K : PySem.W.Frag) (src : Src) (ds : List D) (us : List V) (all : List D) (J : It) : Prop := ∀ (g : Gh) (s : L2.St) (H : Hp) (ro : Ro) (M : Ms), SR K g s H ro M → RepsO K g s ds us → src ro M ds = some all → ∀ i : Nat,
  (∀ x, all[i]? = some x → J.go i H ∧ ∀ v H', J.yld i H v H' → ∃ g', SR K g' s H' ro M ∧ g.le g' ∧ Rep K g'.Z g'.io x v) ∧ (all.length ≤ i → J.stop i H)
def tOfI (K : PySem.W.Frag) (src : Src) (as : List E) : TI := fun s H R => ∃ g ro M ds ro' M' all, SR K g s H ro M ∧ evalA as ro M = some (ds, ro', M') ∧ src ro' M' ds = some all ∧
  ∀ g' us H' J, SR K g' s H' ro' M' → g.le g' → RepsO K g' s ds us → JOk K src ds us all J → R J H'
theorem pi_imp {tg e : Expr} {t t' : TI} (h : PI X tg e t) (w : ∀ s H R, t' s H R → t s H R) : PI X tg e t' := ⟨fun pins s σ H R I q => h.run pins s σ H R I (w _ _ _ q)⟩

/-! ### comprehensions -/
theorem wipeR_length (ro : Ro) : ∀ vs : List Nat, (wipeR ro vs).length = ro.length
  | [] => rfl
  | v :: vs => by unfold wipeR; rw [List.length_set, wipeR_length ro vs]
theorem wipeR_some {ro : Ro} {i : Nat} {x : Sl} : ∀ {vs : List Nat}, (wipeR ro vs)[i]? = some (some x) → ro[i]? = some (some x) ∧ i ∉ vs
  | [], h => ⟨h, by simp⟩
  | v :: vs, h => by
    unfold wipeR at h
    by_cases hi : v = i
    · subst hi
      by_cases hv : v < (wipeR ro vs).length
      · rw [List.getElem?_set_self hv] at h; cases h
      · rw [List.getElem?_eq_none (by simpa using hv)] at h; cases h
    · rw [List.getElem?_set_ne hi] at h
      obtain ⟨h1, h2⟩ := wipeR_some h
      exact ⟨h1, by simp [h2, Ne.symm hi]⟩
theorem wipe_ext {s s' : L2.St} {vs : List Nat} (hl : s'.length = s.length) (h : ∀ i, i ∉ vs → s'[i]? = s[i]?) : wipe s' vs = wipe s vs := by
  apply List.ext_getElem?
  intro i
  by_cases hi : i ∈ vs
  · have key : ∀ (u : L2.St), i < u.length → (wipe u vs)[i]? = some none := by
      intro u hu
      have hlt : i < (wipe u vs).length := by rw [wipe_length]; exact hu
      cases e : (wipe u vs)[i] with
      | none => rw [List.getElem?_eq_getElem hlt, e]
      | some x =>
        have := wipe_some (σ := u) (i := i) (x := x) (vs := vs) (by rw [List.getElem?_eq_getElem hlt, e])
        exact absurd hi this.2
    by_cases hlt : i < s.length
    · rw [key s hlt, key s' (by omega)]
    · rw [List.getElem?_eq_none (by rw [wipe_length]; omega), List.getElem?_eq_none (by rw [wipe_length]; omega)]
  · rw [wipe_out hi, wipe_out hi, h i hi]
theorem SR.wipe (S : SR K g s H ro M) (vs : List Nat) : SR K g (wipe s vs) H (wipeR ro vs) M := S.weak (by rw [wipe_length, wipeR_length]; exact S.len) fun i x e => by
  obtain ⟨h1, h2⟩ := wipeR_some e
  exact ⟨h1, wipe_out h2⟩
theorem bors_wipe {vs : List Nat} : ∀ {ds : List D} {us : List V}, (ds.all fun d => match d with | .bor i => !vs.contains i | _ => true) = true → RepsO K g s ds us → RepsO K g (wipe s vs) ds us
  | [], _, _, h => h
  | d :: ds, _, hb, ⟨v, r, e, h1, h2⟩ => by
    rw [List.all_cons, Bool.and_eq_true] at hb
    refine ⟨v, r, e, ?_, bors_wipe hb.2 h2⟩
    cases d with
    | bor i =>
      have hi : i ∉ vs := by simpa using hb.1
      show (L2.wipe s vs)[i]? = _
      rw [wipe_out hi]; exact h1
    | _ => exact h1
/-- a fresh list is written -/
theorem SR.wrTmp (S : SR K g s H ro M) {p : Addr} {vs us : List V} {xs ys : List D} (w : OwnAt K g H p vs xs) (n : NoOwn ro s p) (r : Reps K g.Z g.io ys us) : SR K g s (upd H p (.lst us)) ro M ∧ OwnAt K g (upd H p (.lst us)) p us ys := by
  refine ⟨⟨⟨S.gr.z, S.gr.i, fun b u h m => ?_, fun b h => ?_, S.gr.new⟩, ⟨fun b u h => ?_, S.hr.len, S.hr.nd, S.hr.zi, fun k c a h1 h2 => ?_⟩, S.len, fun j x h => ?_, S.dis, fun b u h => ?_⟩, ⟨upd_same, r, w.2.2⟩⟩
  · rw [upd_ne (ne_of_none h w.2.2.2.2.1)]; exact S.gr.keep b u h m
  · by_cases hb : b = p
    · subst hb; rw [upd_same] at h; cases h
    · rw [upd_ne hb] at h; exact S.gr.dom b h
  · rw [upd_ne (ne_of_none h w.2.2.1)]; exact S.hr.zh b u h
  · rw [upd_ne (fun z => by subst z; exact w.2.2.2.1 (List.mem_of_getElem? h2))]
    exact S.hr.cell k c a h1 h2
  · refine (S.sl j x h).keep (Gh.le.refl g) fun q' vs' xs' ex w' e' => ?_
    have hq : q' ≠ p := fun z => by
      subst z; subst ex
      exact n j xs' h e'
    exact ⟨by rw [upd_ne hq]; exact w'.1, w'.2⟩
  · obtain ⟨h1, h2, h3⟩ := S.fr b u h
    exact ⟨by rw [upd_ne (ne_of_none h w.2.2.2.2.2)]; exact h1, h2, h3⟩
theorem RepsO.prot {p : Addr} {o : HO} : ∀ {ds : List D} {us : List V}, RepsO K g s ds us → RepsO K (g.prot p o) s ds us
  | [], _, h => h
  | d :: ds, _, ⟨v, r, e, h1, h2⟩ => ⟨v, r, e, by cases d <;> exact h1, RepsO.prot h2⟩
/-- the state in a comprehension: at a turn's start -/
structure CW (K : PySem.W.Frag) (vs : List Nat) (g0 : Gh) (s : L2.St) (ds : List D) (us : List V) (Dl : Addr) (g : Gh) (H : Hp) (ro : Ro) (M : Ms) (acc : List D) (va : List V) : Prop where
  sr : SR K g s H ro M
  le : g0.le g
  us : RepsO K g s ds us
  own : OwnAt K g H Dl va acc
  no : NoOwn ro s Dl
  wp : ∀ (i : Nat) (x : Sl), ro[i]? = some (some x) → i ∉ vs
/-- a turn's end: an item laid to the list in the making, or none -/
theorem CW.next {g0 g g2 : Gh} {sw s2 : L2.St} {ds acc : List D} {us va : List V} {Dl : Addr} {H2 : Hp} {ro2 : Ro} {M2 : Ms} {vs : List Nat} (c : CW K vs g0 sw ds us Dl g H ro M acc va) (l : (g.prot Dl (.lst va)).le g2) (S : SR K g2 s2 H2 ro2 M2) (hs : wipe s2 vs = sw) :
    ∃ g3, CW K vs g0 sw ds us Dl g3 H2 (wipeR ro2 vs) M2 acc va ∧ g3.Z = g2.Z ∧ g3.io = g2.io := by
  have lr : Reps K g2.Z g2.io acc va := c.own.2.1.mono l.z l.i
  obtain ⟨S3, l3, w3, n3⟩ := S.unprot l c.own.2.2.2.2.2 c.own.2.2.2.2.1 lr
  have S4 := S3.wipe vs
  rw [hs] at S4
  exact ⟨_, ⟨S4, c.le.trans l3, c.us.le l3, w3, fun i ys e e1 => by
    obtain ⟨h1, h2⟩ := wipeR_some e
    refine n3 i ys h1 ?_
    rw [← hs, wipe_out h2] at e1; exact e1, fun i x e => (wipeR_some e).2⟩, rfl, rfl⟩
theorem CW.push {g0 g : Gh} {sw : L2.St} {ds acc : List D} {us va : List V} {Dl : Addr} {d : D} {y : V} {vs : List Nat} (c : CW K vs g0 sw ds us Dl g H ro M acc va) (r : Rep K g.Z g.io d y) : CW K vs g0 sw ds us Dl g (upd H Dl (.lst (va ++ [y]))) ro M (acc ++ [d]) (va ++ [y]) := by
  obtain ⟨S2, w2⟩ := c.sr.wrTmp (ys := acc ++ [d]) (us := va ++ [y]) c.own c.no (c.own.2.1.append ⟨y, [], rfl, r, rfl⟩)
  exact ⟨S2, c.le, c.us, w2, c.no, c.wp⟩
theorem compGo_run {src : Src} {all : List D} {tg : T} {test elt : E} {vs : List Nat} {g0 : Gh} {ds : List D} {us : List V} {Dl : Addr} {J : It} {fin : List D × Ro × Ms} {sw : L2.St} (hw : ∀ s', s'.length = sw.length → (∀ i, i ∉ tg.slots → s'[i]? = sw[i]?) → wipe s' vs = sw)
    (hj : JOk K src ds us all J) (Fin : Hp → Prop) {H1 : Hp} {ro1 : Ro} {M1 : Ms} {acc1 : List D} {va1 : List V} {g1 : Gh}
    (hfin : ∀ g H va, CW K vs g0 sw ds us Dl g H fin.2.1 fin.2.2 fin.1 va → Fin H) (c1 : CW K vs g0 sw ds us Dl g1 H1 ro1 M1 acc1 va1) (e1 : compGo src ds all tg (evalE test) (evalE elt) vs all acc1 ro1 M1 = some fin) :
    ∃ W : Nat → Nat → Hp → Prop, (∃ m, W 0 m H1) ∧ ∀ i m H, W i m H → (J.stop i H ∧ Fin H) ∨ (J.go i H ∧ ∃ Nx : Hp → Prop, (∀ H', Nx H' → ∃ m', m' < m ∧ W (i + 1) m' H') ∧ ∀ x H', J.yld i H x H' → gOf K tg x sw H' fun s2 H2 => wipe s2 vs = sw ∧ tOfT K test s2 H2 fun b H3 =>
      if b = true then tOf K elt s2 H3 fun y H4 => ∃ acc, H4 Dl = some (.lst acc) ∧ acc.length < sizeLine ∧ Nx (upd H4 Dl (.lst (acc ++ [y]))) else Nx H3) := by
  refine ⟨fun i m H => i ≤ all.length ∧ m = all.length - i ∧ ∃ g ro M acc va, CW K vs g0 sw ds us Dl g H ro M acc va ∧ compGo src ds all tg (evalE test) (evalE elt) vs (all.drop i) acc ro M = some fin, ⟨all.length, Nat.zero_le _, rfl, g1, ro1, M1, acc1, va1, c1, e1⟩, ?_⟩
  rintro i m H ⟨hi, rfl, g, ro, M, acc, va, c, ev⟩
  by_cases hlt : i < all.length
  · rw [List.drop_eq_getElem_cons hlt] at ev
    unfold compGo at ev
    split at ev
    · rename_i hok
      obtain ⟨r1, ea, ev⟩ := bind_some ev
      obtain ⟨t, et, ev⟩ := bind_some ev
      have P := c.sr.prot c.own c.no
      have up : RepsO K (g.prot Dl (.lst va)) sw ds us := c.us.prot
      obtain ⟨hgo, hy⟩ := (hj _ sw H ro M P up hok i).1 _ (List.getElem?_eq_getElem hlt)
      refine .inr ⟨hgo, fun H' => i + 1 ≤ all.length ∧ ∃ g ro M acc va, CW K vs g0 sw ds us Dl g H' ro M acc va ∧ compGo src ds all tg (evalE test) (evalE elt) vs (all.drop (i + 1)) acc ro M = some fin, fun H' w => ⟨_, by omega, w.1, rfl, w.2⟩, fun x H' y => ?_⟩
      obtain ⟨g2, S2, l2, rx⟩ := hy x H' y
      refine ⟨g2, ro, M, _, r1, S2, rx, ea, fun s2 S3 hl hs => ⟨hw s2 hl hs, ?_⟩⟩
      obtain ⟨td, tr, tm⟩ := t
      split at ev
      · rename_i r2 M2 e0
        cases e0
        obtain ⟨q, eq, ev⟩ := bind_some ev
        refine ⟨g2, r1, M, true, _, _, S3, et, fun g3 H3 S4 l3 => iteT ?_⟩
        split at ev
        · cases ev
        · rename_i hn
          rw [Bool.not_eq_true, Bool.or_eq_false_iff] at hn
          refine ⟨g3, _, _, q.1, _, _, S4, eq, fun g4 y H4 S5 l4 ry => ?_⟩
          obtain ⟨g5, c5, z5, i5⟩ := c.next ((l2.trans l3).trans l4) S5 (hw s2 hl hs)
          refine ⟨va, c5.own.1, ?_, by omega, g5, _, _, _, _, c5.push (by rw [z5, i5]; exact ry.r hn.1), ev⟩
          rw [c5.own.2.1.length]
          exact Nat.lt_of_le_of_lt (Nat.le_of_not_lt (of_decide_eq_false hn.2)) (by decide)
      · rename_i r2 M2 e0
        cases e0
        refine ⟨g2, r1, M, false, _, _, S3, et, fun g3 H3 S4 l3 => iteF ?_⟩
        obtain ⟨g5, c5, z5, i5⟩ := c.next (l2.trans l3) S4 (hw s2 hl hs)
        exact ⟨by omega, g5, _, _, _, _, c5, ev⟩
      · cases ev
    · cases ev
  · have hie : i = all.length := by omega
    subst hie
    rw [List.drop_length] at ev
    unfold compGo at ev
    split at ev
    · rename_i hok
      cases ev
      exact .inl ⟨(hj g sw H ro M c.sr c.us hok _).2 (Nat.le_refl _), hfin g H va c⟩
    · cases ev
theorem tLc_of {src : Src} {as : List E} {tg : T} {test elt : E} {vs : List Nat} {Q : VK} (h : tOfL K (.comp src as tg test elt vs) s H Q) : tLc (tOfI K src as) (gOf K tg) (tOfT K test) (tOf K elt) vs s H Q := by
  obtain ⟨g, ro, M, xs, ro', M', S, ev, k⟩ := h
  unfold evalE at ev
  obtain ⟨x, e1, ev⟩ := bind_some ev
  obtain ⟨all, e2, ev⟩ := bind_some ev
  split at ev
  · rename_i hb
    have hb' := Bool.and_eq_true_iff.mp hb
    obtain ⟨q, e3, ev⟩ := map_some' ev
    cases ev
    refine ⟨g, ro, M, _, _, _, all, S, e1, e2, fun g1 us H1 J S1 l1 r1 hj Dl hD => ?_⟩
    obtain ⟨S2, w2, n2⟩ := S1.fresh_own (xs := []) hD (vs := []) rfl
    have hw : ∀ s', s'.length = (wipe s vs).length → (∀ i, i ∉ tg.slots → s'[i]? = (wipe s vs)[i]?) → wipe s' vs = wipe s vs := fun s' hl hs => by
      refine wipe_ext (by rw [hl, wipe_length]) fun i hi => ?_
      rw [hs i fun m => hi (by have := List.all_eq_true.mp hb'.1 i m; simpa using this), wipe_out hi]
    exact compGo_run (g0 := g1) hw hj (fun H => Q (.ref Dl) H) (fun g2 H2 va c => k g2 Dl va H2 (c.sr.weak (by rw [← c.sr.len, wipe_length]) fun i y e => ⟨e, (wipe_out (c.wp i y e)).symm⟩) (l1.trans c.le) c.own fun i ys e e' => c.no i ys e (by rw [wipe_out (c.wp i _ e)]; exact e'))
      ⟨S2.wipe vs, Gh.le.refl g1, bors_wipe hb'.2 r1, w2, fun i ys e e' => by
        obtain ⟨h1, h2⟩ := wipeR_some e
        rw [wipe_out h2] at e'
        exact n2 i ys h1 e', fun i y e => (wipeR_some e).2⟩ e3
  · cases ev
theorem comp_isL {src : Src} {as : List E} {tg : T} {test elt : E} {vs : List Nat} : ∀ ro M r, evalE (.comp src as tg test elt vs) ro M = some r → ∃ xs, r.1 = .lst xs := fun ro M r ev => by
  unfold evalE at ev
  obtain ⟨x, e1, ev⟩ := bind_some ev
  obtain ⟨all, e2, ev⟩ := bind_some ev
  split at ev
  · obtain ⟨q, e3, ev⟩ := map_some' ev
    cases ev
    exact ⟨_, rfl⟩
  · cases ev
theorem jts_nil : PTs X [] (tOfT X.K (.c (.bl true))) := ⟨fun pins s σ H Q I ⟨g, ro, M, b, ro', M', S, ev, k⟩ => by
  unfold evalE at ev
  cases ev
  exact pts_nil.run pins s σ H Q I (k g H S (Gh.le.refl g))⟩
theorem jts_one {c : Expr} {e : E} (h : PT X c (tOfT X.K e)) : PTs X [c] (tOfT X.K e) := pts_one h
theorem jl_comp {elt tg iter : Expr} {ifs : List Expr} {scope : Scope} {own : List (Str × Nat)} {pos : Pos} {src : Src} {as : List E} {t : T} {test e : E} (hc : X.calm = true) (hN : X.N.Nodup) (hi : PI X tg iter (tOfI X.K src as)) (ok : BlkOk X.N X.env.scope scope own)
    (hg : ∀ (s : Shared) (H : Hp) (C : Addr) (cl : List (Str × Addr)) (fp : List Addr), PG (X.blk s H scope (compEnvC scope cl C X.env) fp) tg (gOf X.K t)) (ht : ∀ (s : Shared) (H : Hp) (C : Addr) (cl : List (Str × Addr)) (fp : List Addr), PTs (X.blk s H scope (compEnvC scope cl C X.env) fp) ifs (tOfT X.K test))
    (he : ∀ (s : Shared) (H : Hp) (C : Addr) (cl : List (Str × Addr)) (fp : List Addr), PE (X.blk s H scope (compEnvC scope cl C X.env) fp) elt (tOf X.K e)) (hs : ∀ x, foldedSetIterable iter X.env x = pure x := by intro _; rfl) : PE X (.ListComp elt [⟨tg, iter, ifs, 0⟩] scope pos) (tOfL X.K (.comp src as t test e (own.map (·.2)))) :=
  pe_imp (pe_lc hc hN hi ok hg ht he hs) fun _ _ _ h => tLc_of h
end
end Sim
set_option Elab.async false
set_option linter.all false
set_option maxRecDepth 100000
set_option maxHeartbeats 4000000
/-! Objects, methods; statements; defs. -/
namespace Sim
open PySem L2

section
variable {K : PySem.W.Frag} {g g' : Gh} {s : L2.St} {H : Hp} {ro : Ro} {M : Ms} {X : Cx}
theorem evalA_len : ∀ (es : List E) {ro : Ro} {M : Ms} {ds : List D} {ro' : Ro} {M' : Ms}, evalA es ro M = some (ds, ro', M') → ds.length = es.length
  | [], _, _, _, _, _, h => by unfold evalA at h; cases h; rfl
  | e :: es, ro, M, ds, ro', M', h => by
    unfold evalA at h
    obtain ⟨y, _, h⟩ := bind_some h
    obtain ⟨z, h2, h⟩ := map_some' h
    cases h
    rw [List.length_cons, List.length_cons, evalA_len es h2]
theorem P2.look : ∀ {fs : List (Str × D)} {us : List (Str × V)} {R : D → V → Prop} {x : Str}, P2 R fs us → (∀ d, fs.lookup x = some d → ∃ v, us.lookup x = some v ∧ R d v) ∧ (fs.lookup x = none → us.lookup x = none)
  | _, _, R, x, .nil => ⟨fun d h => by simp at h, fun _ => rfl⟩
  | _, _, R, x, @P2.cons _ _ _ _ k a b l1 l2 h t => by
    obtain ⟨i1, i2⟩ := P2.look (x := x) t
    by_cases e : (x == k) = true
    · rw [List.lookup_cons, List.lookup_cons, e]
      exact ⟨fun d h' => by cases h'; exact ⟨b, rfl, h⟩, fun h' => by cases h'⟩
    · have e' : (x == k) = false := by simpa using e
      rw [List.lookup_cons, List.lookup_cons, e']
      exact ⟨i1, i2⟩
theorem insAt_ok {C : Addr} (S : SR K g s H ro M) {d : D} {v : V} {fs : List (Str × D)} (r : RepO K g s d v) (e : insAt C M d = some fs) : ∃ k a dx us, d = .ref k ∧ v = .ref a ∧ M[k]? = some (.ins C fs) ∧ g.io[k]? = some a ∧ H a = some (.ins C dx us) ∧ P2 (Rep K g.Z g.io) fs us := by
  unfold insAt at e
  split at e
  · rename_i k
    split at e
    · rename_i C' fs' ek
      split at e
      · rename_i eC
        subst eC
        cases e
        obtain ⟨a, ev, ea⟩ := r
        obtain ⟨dx, us, h1, h2⟩ := S.hr.cell k _ a ek ea
        exact ⟨k, a, dx, us, rfl, ev, ek, ea, h1, h2⟩
      · cases e
    · cases e
  · cases e
/-! ### methods of built-ins -/
structure BmOk (K : PySem.W.Frag) (T : String) (ty : Ro → Ms → D → Bool) (f : OpM) (r : V → List V → Hp → VK → Prop) : Prop where
  ty : ∀ (g : Gh) (s : L2.St) (H : Hp) (ro : Ro) (M : Ms) (d : D) (v : V), SR K g s H ro M → RepO K g s d v → ty ro M d = true → tyV K T v H
  run : ∀ (g : Gh) (s : L2.St) (H : Hp) (ro : Ro) (M : Ms) (d : D) (v : V) (ds : List D) (vs : List V) (z : D) (ro' : Ro) (M' : Ms) (Q : VK), SR K g s H ro M → RepO K g s d v → RepsO K g s ds vs → f ro M d ds = some (z, ro', M') →
    (∀ g' w H', SR K g' s H' ro' M' → g.le g' → RepO K g' s z w → Q w H') → r v vs H Q
theorem je_bm {a : Expr} {T : String} {r : V → List V → Hp → VK → Prop} {ty : Ro → Ms → D → Bool} {f : OpM} {o : E} {es : List E} (ok : BmOk X.K T ty f r) (h : PE X a (tBM X.K T r (tOf X.K o) (tOfA X.K es))) : PE X a (tOf X.K (.bm ty f o es)) :=
  pe_imp h fun s H Q ⟨g, ro, M, d', ro', M', S, ev, k⟩ => by
    unfold evalE at ev
    obtain ⟨x, e1, ev⟩ := bind_some ev
    split at ev
    · rename_i ht
      obtain ⟨y, e2, ev⟩ := bind_some ev
      exact ⟨g, ro, M, _, _, _, S, e1, fun g1 v H1 S1 l1 r1 => ⟨ok.ty g1 s H1 _ _ _ v S1 r1 ht, g1, _, _, _, _, _, S1, e2, fun g2 vs H2 S2 l2 r2 => ok.run g2 s H2 _ _ _ v _ vs _ _ _ Q S2 (r1.le l2) r2 ev fun g3 w H3 S3 l3 r3 => k g3 w H3 S3 ((l1.trans l2).trans l3) r3⟩⟩
    · cases ev
theorem je_bm0 {a : Expr} {T : String} {r : V → List V → Hp → VK → Prop} {ty : Ro → Ms → D → Bool} {f : OpM} {o : E} (ok : BmOk X.K T ty f r) (h : PE X a (tBM0 X.K T r (tOf X.K o))) : PE X a (tOf X.K (.bm ty f o [])) :=
  pe_imp h fun s H Q ⟨g, ro, M, d', ro', M', S, ev, k⟩ => by
    unfold evalE at ev
    obtain ⟨x, e1, ev⟩ := bind_some ev
    split at ev
    · rename_i ht
      obtain ⟨y, e2, ev⟩ := bind_some ev
      unfold evalA at e2
      cases e2
      exact ⟨g, ro, M, _, _, _, S, e1, fun g1 v H1 S1 l1 r1 => ⟨ok.ty g1 s H1 _ _ _ v S1 r1 ht, ok.run g1 s H1 _ _ _ v [] [] _ _ _ Q S1 r1 rfl ev fun g3 w H3 S3 l3 r3 => k g3 w H3 S3 (l1.trans l3) r3⟩⟩
    · cases ev
theorem je_bi {a : Expr} {r : List V → Hp → VK → Prop} {f : OpL} {es : List E} (ok : BiOk X.K f r) (h : PE X a (tCB r (tOfA X.K es))) : PE X a (tOf X.K (.bi f es)) := pe_imp h fun _ _ _ h => tCB_of ok h
theorem jl_bi {a : Expr} {r : List V → Hp → VK → Prop} {f : OpL} {es : List E} (ok : BiOkL X.K f r) (h : PE X a (tCB r (tOfA X.K es))) : PE X a (tOfL X.K (.bi f es)) := pe_imp h fun _ _ _ h => tCBL_of ok h
theorem je_fn {a : Expr} {n : Nat} {f : Fn} {E' : XK} {es : List E} (en : es.length = n) (h : PE X a (tCall (spM X.K n f) [] E' (tOfA X.K es))) : PE X a (tOf X.K (.fn f es)) := pe_imp h fun _ _ _ h => tCall_of en h

/-! ### own instances -/
theorem je_fld {a : Expr} {C : Addr} {x : Str} {eo : E} (c : Cls X.K C) (n : NoAttr X.K C x) (h : PE X a (tFld X.K (tOf X.K eo) x)) : PE X a (tOf X.K (.fld C eo x)) :=
  pe_imp h fun s H Q ⟨g, ro, M, d', ro', M', S, ev, k⟩ => by
    unfold evalE at ev
    obtain ⟨y, e1, ev⟩ := bind_some ev
    obtain ⟨fs, e2, ev⟩ := bind_some ev
    obtain ⟨d, e3, ev⟩ := map_some' ev
    cases ev
    refine ⟨g, ro, M, _, _, _, S, e1, fun g1 v H1 S1 l1 r1 => ?_⟩
    obtain ⟨k', a', dx, us, _, ev, _, _, hH, p⟩ := insAt_ok S1 r1 e2
    obtain ⟨u, e4, ru⟩ := p.look.1 _ e3
    exact ⟨a', C, dx, us, u, ev, hH, c, n, e4, k g1 u H1 S1 l1 ru.o⟩
theorem je_meth {a : Expr} {C : Addr} {m : Str} {n : Nat} {f : Fn} {E' : XK} {eo : E} {es : List E} (en : es.length + 1 = n) (h : PE X a (tMeth C m (spM X.K n f) [] E' (tOf X.K eo) (tOfA X.K es))) : PE X a (tOf X.K (.meth C m f eo es)) :=
  pe_imp h fun s H Q ⟨g, ro, M, d', ro', M', S, ev, k⟩ => by
    unfold evalE at ev
    obtain ⟨y, e1, ev⟩ := bind_some ev
    obtain ⟨fs, e2, ev⟩ := bind_some ev
    split at ev
    · rename_i hm
      obtain ⟨x, e3, ev⟩ := bind_some ev
      split at ev
      · cases ev
      · rename_i hn
        obtain ⟨r, e4, ev⟩ := map_some' ev
        cases ev
        refine ⟨g, ro, M, _, _, _, S, e1, fun g1 v H1 S1 l1 r1 => ?_⟩
        obtain ⟨k', a', dx, us, ed, ev, ek, ea, hH, p⟩ := insAt_ok S1 r1 e2
        refine ⟨a', dx, us, ev, hH, p.look.2 (by simpa using hm), g1, _, _, _, _, _, S1, e3, fun g2 vs H2 S2 l2 r2 => ?_⟩
        have rr := r2.r (Bool.not_eq_true _ ▸ hn)
        show spM X.K n f (v :: (vs ++ [])) H2 Q E'
        rw [List.append_nil]
        have rv : Rep X.K g1.Z g1.io y.1 v := r1.r (by rw [ed]; rfl)
        exact spM_of S2 (Reps.cons (rv.le l2) rr) (by rw [List.length_cons, evalA_len es e3]; exact en) e4 fun g3 w H3 S3 l3 r3 => k g3 w H3 S3 ((l1.trans l2).trans l3) r3.o
    · cases ev
theorem nilA {R : List V → Hp → Prop} (q : tOfA K [] s H R) : tNil s H R := by
  obtain ⟨g, ro, M, ds, ro', M', S, ev, k⟩ := q
  unfold evalA at ev
  cases ev
  exact k g [] _ S (Gh.le.refl g) rfl
theorem je_meth0 {a : Expr} {C : Addr} {m : Str} {n : Nat} {f : Fn} {E' : XK} {eo : E} (en : 1 = n) (h : PE X a (tMeth C m (spM X.K n f) [] E' (tOf X.K eo) tNil)) : PE X a (tOf X.K (.meth C m f eo [])) :=
  je_meth (es := []) (by simpa using en) (pe_imp h fun s H Q q => by
    obtain ⟨g, ro, M, d', ro', M', S, ev, k⟩ := q
    refine ⟨g, ro, M, d', ro', M', S, ev, fun g' v H' S' l r => ?_⟩
    obtain ⟨b, dx, fs, e1, e2, e3, q⟩ := k g' v H' S' l r
    exact ⟨b, dx, fs, e1, e2, e3, nilA q⟩)
theorem je_make {a : Expr} {C : Addr} {n : Nat} {f : Fn} {E' : XK} {es : List E} (en : es.length + 1 = n) (h : PE X a (tMake C (spM X.K n f) [] E' (tOfA X.K es))) : PE X a (tOf X.K (.make C f es)) :=
  pe_imp h fun s H Q ⟨g, ro, M, d', ro', M', S, ev, k⟩ => by
    unfold evalE at ev
    obtain ⟨y, e1, ev⟩ := bind_some ev
    split at ev
    · cases ev
    · rename_i hn
      obtain ⟨r, e2, ev⟩ := bind_some ev
      split at ev
      · rename_i e0
        cases ev
        refine ⟨g, ro, M, _, _, _, S, e1, fun g1 vs H1 S1 l1 r1 x dx hx hdx hne => ?_⟩
        have rr := r1.r (Bool.not_eq_true _ ▸ hn)
        show spM X.K n f (.ref x :: (vs ++ [])) _ _ E'
        rw [List.append_nil]
        have S2 := S1.newFrz (.own x) hdx
        have l2 := g1.frz_le (o := .own x) (S1.hr.notZ hdx)
        obtain ⟨S3, l3⟩ := S2.newCell (p := x) (o := .ins C dx []) (c := .ins C []) (by rw [upd_ne (Ne.symm hne)]; exact hx) ⟨dx, [], rfl, .nil⟩
        have rx : Rep X.K (g1.frz dx (.own x)).Z (g1.io ++ [x]) (.ref y.2.2.length) (.ref x) := ⟨x, rfl, by rw [← S1.hr.len, List.getElem?_append_right (Nat.le_refl _), Nat.sub_self]; rfl⟩
        refine spM_of S3 (Reps.cons rx ((rr.le l2).le l3)) (by rw [List.length_cons, evalA_len es e1]; exact en) (show f _ _ = some (r.1, r.2) from e2) fun g4 w H4 S4 l4 r4 => ?_
        have r4' : Rep X.K g4.Z g4.io r.1 w := r4
        rw [e0] at r4'
        exact ⟨r4', k g4 _ H4 S4 (((l1.trans l2).trans l3).trans l4) (show Rep X.K g4.Z g4.io (.ref y.2.2.length) (.ref x) from rx.mono l4.z l4.i)⟩
      · cases ev
end
end Sim
set_option Elab.async false
set_option linter.all false
set_option maxRecDepth 100000
set_option maxHeartbeats 4000000
/-! Statements; defs. -/
namespace Sim
open PySem L2

inductive Fl where
  | nx | bk | ct | ret (d : D)
/-- a store by values: o[i] = v -/
abbrev Op3 := Ro → Ms → D → D → D → Option (Ro × Ms)

inductive S where
  | expr (e : E) | asg (t : T) (e : E) | own (i : Nat) (e : E)
  | if_ (t : E) (a b : List S) | for_ (src : Src) (args : List E) (tg : T) (body : List S) | while_ (n : Nat) (t : E) (body : List S)
  | ret (e : E) | retN | brk | cont | pass
  | setF (C : Addr) (o : E) (x : Str) (e : E)
  | upd (f : Op3) (o i v : E)
  | aug (i : Nat) (f : Op2) (e : E)
  | ownN (ix : List Nat) (bes : List (Bool × E))
  | augF (C : Addr) (o : E) (x : Str) (f : Op2) (e : E)

abbrev Ex := Ro → Ms → Option (Fl × Ro × Ms)
def forGo (src : Src) (ds all : List D) (tg : T) (body : Ex) : List D → Ex
  | [], ro, M => if src ro M ds = some all then some (.nx, ro, M) else none
  | x :: xs, ro, M => if src ro M ds = some all then
      (asgT tg x ro).bind fun r1 => (body r1 M).bind fun r => match r with
        | (.nx, r2, M2) => forGo src ds all tg body xs r2 M2
        | (.ct, r2, M2) => forGo src ds all tg body xs r2 M2
        | (.bk, r2, M2) => some (.nx, r2, M2)
        | (.ret d, r2, M2) => some (.ret d, r2, M2)
    else none
def whGo (t : Ev) (body : Ex) : Nat → Ex
  | 0, ro, M => (t ro M).bind fun x => match x with
    | (.bl false, r1, M1) => some (.nx, r1, M1)
    | _ => none
  | n + 1, ro, M => (t ro M).bind fun x => match x with
    | (.bl false, r1, M1) => some (.nx, r1, M1)
    | (.bl true, r1, M1) => (body r1 M1).bind fun r => match r with
        | (.nx, r2, M2) => whGo t body n r2 M2
        | (.ct, r2, M2) => whGo t body n r2 M2
        | (.bk, r2, M2) => some (.nx, r2, M2)
        | (.ret d, r2, M2) => some (.ret d, r2, M2)
    | _ => none
def putD (f : Str) (v : D) : List (Str × D) → List (Str × D)
  | [] => [(f, v)]
  | (g, x) :: r => if g = f then (g, v) :: r else (g, x) :: putD f v r
/-- several values at once, some of them lists of one's own -/
def slOf (b : Bool) (d : D) : Option Sl := match b, d with
  | true, .lst xs => some (.own xs)
  | true, _ => none
  | false, d => if isBor d then none else some (.val d)
def evM : List (Bool × E) → Ro → Ms → Option (List Sl × Ro × Ms)
  | [], ro, M => some ([], ro, M)
  | (b, e) :: r, ro, M => (evalE e ro M).bind fun x => (slOf b x.1).bind fun y => (evM r x.2.1 x.2.2).map fun z => (y :: z.1, z.2.1, z.2.2)
def setN : List Nat → List Sl → Ro → Option Ro
  | [], [], ro => some ro
  | i :: is, x :: xs, ro => setN is xs (ro.set i (some x))
  | _, _, _ => none
mutual
def execS : S → Ex
  | .expr e, ro, M => (evalE e ro M).map fun x => (.nx, x.2.1, x.2.2)
  | .asg t e, ro, M => (evalE e ro M).bind fun x => (asgT t x.1 x.2.1).map fun r => (.nx, r, x.2.2)
  | .own i e, ro, M => (evalE e ro M).bind fun x => match x.1 with
    | .lst xs => some (.nx, x.2.1.set i (some (.own xs)), x.2.2)
    | _ => none
  | .if_ t a b, ro, M => (evalE t ro M).bind fun x => match x.1 with
    | .bl true => execB a x.2.1 x.2.2
    | .bl false => execB b x.2.1 x.2.2
    | _ => none
  | .for_ src args tg body, ro, M => (evalA args ro M).bind fun x => if x.1.any isBor then none else (src x.2.1 x.2.2 x.1).bind fun all => forGo src x.1 all tg (execB body) all x.2.1 x.2.2
  | .while_ n t body, ro, M => whGo (evalE t) (execB body) n ro M
  | .ret e, ro, M => (evalE e ro M).bind fun x => if isBor x.1 then none else some (.ret x.1, x.2.1, x.2.2)
  | .retN, ro, M => some (.ret .non, ro, M)
  | .brk, ro, M => some (.bk, ro, M)
  | .cont, ro, M => some (.ct, ro, M)
  | .pass, ro, M => some (.nx, ro, M)
  | .setF C o f e, ro, M => (evalE e ro M).bind fun y => if isBor y.1 then none else (evalE o y.2.1 y.2.2).bind fun x => match x.1 with
    | .ref k => (insAt C x.2.2 (.ref k)).bind fun fs => if fs.length < 999 then some (.nx, x.2.1, x.2.2.set k (.ins C (putD f y.1 fs))) else none
    | _ => none
  | .upd f o i v, ro, M => (evalE v ro M).bind fun z => if isBor z.1 then none else (evalE o z.2.1 z.2.2).bind fun x => (evalE i x.2.1 x.2.2).bind fun y => (f y.2.1 y.2.2 x.1 y.1 z.1).map fun r => (.nx, r.1, r.2)
  | .aug i f e, ro, M => match ro[i]? with
    | some (some (.val d)) => (evalE e ro M).bind fun y => (f y.2.1 y.2.2 d y.1).bind fun z => if isBor z then none else some (.nx, y.2.1.set i (some (.val z)), y.2.2)
    | _ => none
  | .ownN ix bes, ro, M => (evM bes ro M).bind fun x => (setN ix x.1 x.2.1).map fun r => (.nx, r, x.2.2)
  | .augF C o nm f e, ro, M => (evalE o ro M).bind fun x => match x.1 with
    | .ref k => (insAt C x.2.2 (.ref k)).bind fun fs => (fs.lookup nm).bind fun d => (evalE e x.2.1 x.2.2).bind fun y => (f y.2.1 y.2.2 d y.1).bind fun z => if isBor z then none else
        (insAt C y.2.2 (.ref k)).bind fun fs' => if fs'.length < 999 then some (.nx, y.2.1, y.2.2.set k (.ins C (putD nm z fs'))) else none
    | _ => none
def execB : List S → Ex
  | [], ro, M => some (.nx, ro, M)
  | s :: r, ro, M => (execS s ro M).bind fun x => match x with
    | (.nx, r1, M1) => execB r r1 M1
    | q => some q
end

section
variable {K : PySem.W.Frag} {g g' : Gh} {s : L2.St} {H : Hp} {ro : Ro} {M : Ms} {X : Cx}
def FinOk (K : PySem.W.Frag) (D : Ends) (g0 : Gh) (r : Fl × Ro × Ms) : Prop := ∀ g' s' H', SR K g' s' H' r.2.1 r.2.2 → g0.le g' → match r.1 with
  | .nx => D.nx s' H'
  | .bk => D.bk s' H'
  | .ct => D.ct s' H'
  | .ret d => ∀ v, Rep K g'.Z g'.io d v → D.rt v H'
def tOfS (K : PySem.W.Frag) (b : S) : TS := fun D s H => ∃ g ro M r, SR K g s H ro M ∧ execS b ro M = some r ∧ FinOk K D g r
def tOfB (K : PySem.W.Frag) (b : List S) : TS := fun D s H => ∃ g ro M r, SR K g s H ro M ∧ execB b ro M = some r ∧ FinOk K D g r
theorem FinOk.mono {D : Ends} {g0 g1 : Gh} {r : Fl × Ro × Ms} (h : FinOk K D g0 r) (l : g0.le g1) : FinOk K D g1 r := fun g' s' H' S l' => h g' s' H' S (l.trans l')

theorem jss_nil : PSs X [] (tOfB X.K []) := pss_imp pss_nil fun D s H ⟨g, ro, M, r, S, ev, k⟩ => by
  unfold execB at ev; cases ev
  exact k g s H S (Gh.le.refl g)
theorem jss_cons {st : Stmt} {rest : List Stmt} {b : S} {bs : List S} (h1 : PS X st (tOfS X.K b)) (h2 : PSs X rest (tOfB X.K bs)) : PSs X (st :: rest) (tOfB X.K (b :: bs)) :=
  pss_imp (pss_cons h1 h2) fun D s H ⟨g, ro, M, r, S, ev, k⟩ => by
    unfold execB at ev
    obtain ⟨x, e1, ev⟩ := bind_some ev
    obtain ⟨fl, r1, M1⟩ := x
    refine ⟨g, ro, M, _, S, e1, fun g1 s1 H1 S1 l1 => ?_⟩
    cases fl with
    | nx => exact ⟨g1, r1, M1, r, S1, ev, k.mono l1⟩
    | bk => cases ev; exact k g1 s1 H1 S1 l1
    | ct => cases ev; exact k g1 s1 H1 S1 l1
    | ret d => cases ev; exact k g1 s1 H1 S1 l1
theorem js_pass {st : Stmt} (h : PS X st tNext) : PS X st (tOfS X.K .pass) := ps_imp h fun D s H ⟨g, ro, M, r, S, ev, k⟩ => by
  unfold execS at ev; cases ev
  exact k g s H S (Gh.le.refl g)
theorem js_brk {st : Stmt} (h : PS X st tBreak) : PS X st (tOfS X.K .brk) := ps_imp h fun D s H ⟨g, ro, M, r, S, ev, k⟩ => by
  unfold execS at ev; cases ev
  exact k g s H S (Gh.le.refl g)
theorem js_cont {st : Stmt} (h : PS X st tCont) : PS X st (tOfS X.K .cont) := ps_imp h fun D s H ⟨g, ro, M, r, S, ev, k⟩ => by
  unfold execS at ev; cases ev
  exact k g s H S (Gh.le.refl g)
theorem js_retN {st : Stmt} (h : PS X st tRetN) : PS X st (tOfS X.K .retN) := ps_imp h fun D s H ⟨g, ro, M, r, S, ev, k⟩ => by
  unfold execS at ev; cases ev
  exact k g s H S (Gh.le.refl g) .non rfl
theorem js_ret {a : Expr} {e : E} {pos : Pos} (h : PE X a (tOf X.K e)) : PS X (.Return (some a) pos) (tOfS X.K (.ret e)) := ps_imp (ps_ret h) fun D s H ⟨g, ro, M, r, S, ev, k⟩ => by
  unfold execS at ev
  obtain ⟨x, e1, ev⟩ := bind_some ev
  split at ev
  · cases ev
  · rename_i hn
    cases ev
    exact ⟨g, ro, M, _, _, _, S, e1, fun g1 v H1 S1 l1 r1 => k g1 s H1 S1 l1 v (r1.r (Bool.not_eq_true _ ▸ hn))⟩
theorem js_expr {st : Stmt} {e : E} (h : PS X st (tDrop (tOf X.K e))) : PS X st (tOfS X.K (.expr e)) := ps_imp h fun D s H ⟨g, ro, M, r, S, ev, k⟩ => by
  unfold execS at ev
  obtain ⟨x, e1, ev⟩ := map_some' ev
  cases ev
  exact ⟨g, ro, M, _, _, _, S, e1, fun g1 v H1 S1 l1 r1 => k g1 s H1 S1 l1⟩
theorem asgT_noBor {t : T} {d : D} {ro ro' : Ro} (h : asgT t d ro = some ro') : isBor d = false := by
  cases t with
  | name i =>
    unfold asgT at h
    split at h
    · cases h
    · rename_i hn; exact Bool.not_eq_true _ ▸ hn
  | tup l => cases d <;> first | rfl | (unfold asgT at h; cases h)
theorem js_asg {st : Stmt} {t : T} {e : E} (h : PS X st (tAsg (tOf X.K e) (gOf X.K t))) : PS X st (tOfS X.K (.asg t e)) := ps_imp h fun D s H ⟨g, ro, M, r, S, ev, k⟩ => by
  unfold execS at ev
  obtain ⟨x, e1, ev⟩ := bind_some ev
  obtain ⟨q, e2, ev⟩ := map_some' ev
  cases ev
  exact ⟨g, ro, M, _, _, _, S, e1, fun g1 v H1 S1 l1 r1 => ⟨g1, _, _, _, q, S1, r1.r (asgT_noBor e2), e2, fun s' S' _ _ => k g1 s' H1 S' l1⟩⟩
theorem js_own {st : Stmt} {i : Nat} {e : E} {te : TE} (h : PS X st (tAsg te (gName i))) (w : ∀ s H Q, tOfL X.K e s H Q → te s H Q) : PS X st (tOfS X.K (.own i e)) := ps_imp h fun D s H ⟨g, ro, M, r, S, ev, k⟩ => by
  unfold execS at ev
  obtain ⟨x, e1, ev⟩ := bind_some ev
  obtain ⟨xd, xr, xm⟩ := x
  split at ev
  · rename_i xs e0
    have e0' : xd = .lst xs := e0
    subst e0'
    cases ev
    exact w s H _ ⟨g, ro, M, _, _, _, S, e1, fun g1 p vs H1 S1 l1 w1 n1 => k g1 _ H1 (S1.setOwn w1 n1) l1⟩
  · cases ev
theorem js_if {c : Expr} {a b : List Stmt} {ec : E} {ba bb : List S} {pos : Pos} (hc : PT X c (tOfT X.K ec)) (ha : PSs X a (tOfB X.K ba)) (hb : PSs X b (tOfB X.K bb)) : PS X (.If c a b pos) (tOfS X.K (.if_ ec ba bb)) :=
  ps_imp (ps_if hc ha hb) fun D s H ⟨g, ro, M, r, S, ev, k⟩ => by
    unfold execS at ev
    obtain ⟨x, e1, ev⟩ := bind_some ev
    obtain ⟨xd, xr, xm⟩ := x
    split at ev
    · rename_i e0; have e0' : xd = .bl true := e0; subst e0'
      exact ⟨g, ro, M, _, _, _, S, e1, fun g1 H1 S1 l1 => iteT ⟨g1, _, _, r, S1, ev, k.mono l1⟩⟩
    · rename_i e0; have e0' : xd = .bl false := e0; subst e0'
      exact ⟨g, ro, M, _, _, _, S, e1, fun g1 H1 S1 l1 => iteF ⟨g1, _, _, r, S1, ev, k.mono l1⟩⟩
    · cases ev
theorem reps_o {g : Gh} {s s' : L2.St} : ∀ {ds : List D} {us : List V}, RepsO K g s ds us → ds.any isBor = false → RepsO K g s' ds us
  | [], _, h, _ => h
  | d :: ds, _, ⟨v, r, e, h1, h2⟩, n => by
    rw [List.any_cons, Bool.or_eq_false_iff] at n
    exact ⟨v, r, e, (h1.r n.1).o, reps_o h2 n.2⟩
theorem js_for {st : Stmt} {src : Src} {as : List E} {t : T} {body : List S} (h : PS X st (tFor (tOfI X.K src as) (gOf X.K t) (tOfB X.K body))) : PS X st (tOfS X.K (.for_ src as t body)) := ps_imp h fun D s H ⟨g, ro, M, r, S, ev, k⟩ => by
  unfold execS at ev
  obtain ⟨x, e1, ev⟩ := bind_some ev
  split at ev
  · cases ev
  · rename_i hn
    have hn' : x.1.any isBor = false := Bool.not_eq_true _ ▸ hn
    obtain ⟨all, e2, ev⟩ := bind_some ev
    refine ⟨g, ro, M, _, _, _, all, S, e1, e2, fun g1 us H1 J S1 l1 r1 hj => ?_⟩
    refine ⟨fun i m s' H' => i ≤ all.length ∧ m = all.length - i ∧ ∃ g' ro' M', SR X.K g' s' H' ro' M' ∧ g1.le g' ∧ forGo src x.1 all t (execB body) (all.drop i) ro' M' = some r, ⟨all.length, Nat.zero_le _, rfl, g1, _, _, S1, Gh.le.refl g1, ev⟩, ?_⟩
    rintro i m s' H' ⟨hi, rfl, g2, ro2, M2, S2, l2, ev⟩
    have r2 : RepsO X.K g2 s' x.1 us := reps_o (r1.le l2) hn'
    by_cases hlt : i < all.length
    · rw [List.drop_eq_getElem_cons hlt] at ev
      unfold forGo at ev
      split at ev
      · rename_i hok
        obtain ⟨q, ea, ev⟩ := bind_some ev
        obtain ⟨z, eb, ev⟩ := bind_some ev
        obtain ⟨hgo, hy⟩ := (hj g2 s' H' ro2 M2 S2 r2 hok i).1 _ (List.getElem?_eq_getElem hlt)
        refine .inr ⟨hgo, fun s'' H'' => i + 1 ≤ all.length ∧ ∃ g' ro' M', SR X.K g' s'' H'' ro' M' ∧ g1.le g' ∧ forGo src x.1 all t (execB body) (all.drop (i + 1)) ro' M' = some r, fun s'' H'' w => ⟨_, by omega, w.1, rfl, w.2⟩, fun v H'' y => ?_⟩
        obtain ⟨g3, S3, l3, rx⟩ := hy v H'' y
        refine ⟨g3, ro2, M2, _, q, S3, rx, ea, fun s3 S4 _ _ => ⟨g3, q, M2, z, S4, eb, fun g4 s4 H4 S5 l4 => ?_⟩⟩
        obtain ⟨fl, r3, M3⟩ := z
        cases fl with
        | nx => exact ⟨by omega, g4, r3, M3, S5, (l2.trans l3).trans l4, ev⟩
        | ct => exact ⟨by omega, g4, r3, M3, S5, (l2.trans l3).trans l4, ev⟩
        | bk => cases ev; exact k g4 s4 H4 S5 (((l1.trans l2).trans l3).trans l4)
        | ret d => cases ev; exact k g4 s4 H4 S5 (((l1.trans l2).trans l3).trans l4)
      · cases ev
    · have hie : i = all.length := by omega
      subst hie
      rw [List.drop_length] at ev
      unfold forGo at ev
      split at ev
      · rename_i hok
        cases ev
        exact .inl ⟨(hj g2 s' H' ro2 M2 S2 r2 hok _).2 (Nat.le_refl _), k g2 s' H' S2 (l1.trans l2)⟩
      · cases ev
end
end Sim
set_option Elab.async false
set_option linter.all false
set_option maxRecDepth 100000
set_option maxHeartbeats 4000000
/-! More statements; defs; what is walked. -/
namespace Sim
open PySem PySem.Spec PyProof.Rows L2
section
variable {K : PySem.W.Frag} {g g' : Gh} {s : L2.St} {H : Hp} {ro : Ro} {M : Ms} {X : Cx}
theorem js_while {st : Stmt} {n : Nat} {t : E} {body : List S} (h : PS X st (tWhile (tOfT X.K t) (tOfB X.K body))) : PS X st (tOfS X.K (.while_ n t body)) := ps_imp h fun D s H ⟨g, ro, M, r, S, ev, k⟩ => by
  unfold execS at ev
  refine ⟨fun m s' H' => ∃ g' ro' M', SR X.K g' s' H' ro' M' ∧ g.le g' ∧ whGo (evalE t) (execB body) m ro' M' = some r, ⟨n, g, ro, M, S, Gh.le.refl g, ev⟩, ?_⟩
  rintro m s' H' ⟨g2, ro2, M2, S2, l2, ev⟩
  cases m with
  | zero =>
    unfold whGo at ev
    obtain ⟨x, e1, ev⟩ := bind_some ev
    split at ev
    · cases ev
      exact ⟨g2, ro2, M2, _, _, _, S2, e1, fun g3 H3 S3 l3 => iteF (k g3 s' H3 S3 (l2.trans l3))⟩
    · cases ev
  | succ m =>
    unfold whGo at ev
    obtain ⟨x, e1, ev⟩ := bind_some ev
    split at ev
    · cases ev
      exact ⟨g2, ro2, M2, _, _, _, S2, e1, fun g3 H3 S3 l3 => iteF (k g3 s' H3 S3 (l2.trans l3))⟩
    · obtain ⟨z, eb, ev⟩ := bind_some ev
      refine ⟨g2, ro2, M2, _, _, _, S2, e1, fun g3 H3 S3 l3 => iteT ⟨fun s'' H'' => ∃ g' ro' M', SR X.K g' s'' H'' ro' M' ∧ g.le g' ∧ whGo (evalE t) (execB body) m ro' M' = some r, fun s'' H'' w => ⟨m, Nat.lt_succ_self m, w⟩, g3, _, _, z, S3, eb, fun g4 s4 H4 S4 l4 => ?_⟩⟩
      obtain ⟨fl, r3, M3⟩ := z
      cases fl with
      | nx => exact ⟨g4, r3, M3, S4, (l2.trans l3).trans l4, ev⟩
      | ct => exact ⟨g4, r3, M3, S4, (l2.trans l3).trans l4, ev⟩
      | bk => cases ev; exact k g4 s4 H4 S4 ((l2.trans l3).trans l4)
      | ret d => cases ev; exact k g4 s4 H4 S4 ((l2.trans l3).trans l4)
    · cases ev
theorem P2.put {R : D → V → Prop} {x : Str} {d : D} {v : V} (h : R d v) : ∀ {fs : List (Str × D)} {us : List (Str × V)}, P2 R fs us → P2 R (putD x d fs) (putF x v us)
  | _, _, .nil => .cons h .nil
  | _, _, @P2.cons _ _ _ _ k a b l1 l2 hh t => by
    unfold putD putF
    by_cases e : k = x
    · rw [if_pos e, if_pos e]; exact .cons h t
    · rw [if_neg e, if_neg e]; exact .cons hh (P2.put h t)
theorem P2.length {α β γ : Type} {R : α → β → Prop} : ∀ {l₁ : List (γ × α)} {l₂ : List (γ × β)}, P2 R l₁ l₂ → l₂.length = l₁.length
  | _, _, .nil => rfl
  | _, _, .cons _ t => by rw [List.length_cons, List.length_cons, P2.length t]
theorem js_setF {st : Stmt} {C : Addr} {o e : E} {x : Str} (c : Cls X.K C) (n : NoAttr X.K C x) (h : PS X st (sFld X.K (tOf X.K o) (tOf X.K e) x)) : PS X st (tOfS X.K (.setF C o x e)) := ps_imp h fun D s H ⟨g, ro, M, r, S, ev, k⟩ => by
  unfold execS at ev
  obtain ⟨y, e1, ev⟩ := bind_some ev
  split at ev
  · cases ev
  · rename_i hn
    obtain ⟨z, e2, ev⟩ := bind_some ev
    obtain ⟨zd, zr, zm⟩ := z
    split at ev
    · rename_i kk e0
      have e0' : zd = .ref kk := e0
      subst e0'
      obtain ⟨fs, e3, ev⟩ := bind_some ev
      split at ev
      · rename_i hl
        cases ev
        refine ⟨g, ro, M, _, _, _, S, e1, fun g1 v H1 S1 l1 r1 => ⟨g1, _, _, _, _, _, S1, e2, fun g2 w H2 S2 l2 r2 => ?_⟩⟩
        obtain ⟨k', a', dx, us, ed, ew, ek, ea, hH, p⟩ := insAt_ok S2 r2 e3
        cases ed
        have ry : Rep X.K g2.Z g2.io y.1 v := (r1.r (Bool.not_eq_true _ ▸ hn)).le l2
        refine ⟨a', C, dx, us, ew, hH, c, n, by rw [p.length]; omega, ?_⟩
        exact k g2 s _ (S2.wrCell ea ⟨dx, _, rfl, p.put ry⟩) (l1.trans l2)
      · cases ev
    · cases ev
/-- o[i] = v -/
def UpdOk (K : PySem.W.Frag) (f : Op3) (r : V → V → V → Hp → (Hp → Prop) → Prop) : Prop := ∀ (g : Gh) (s : L2.St) (H : Hp) (ro : Ro) (M : Ms) (o i z : D) (vo vi vz : V) (ro' : Ro) (M' : Ms) (Q : Hp → Prop), SR K g s H ro M → RepO K g s o vo → RepO K g s i vi → Rep K g.Z g.io z vz → f ro M o i z = some (ro', M') →
  (∀ g' H', SR K g' s H' ro' M' → g.le g' → Q H') → r vo vi vz H Q
theorem js_upd {st : Stmt} {f : Op3} {o i v : E} {r : V → V → V → Hp → (Hp → Prop) → Prop} (ok : UpdOk X.K f r) (h : PS X st (fun D σ H => tOf X.K v σ H fun z H1 => tOf X.K o σ H1 fun x H2 => tOf X.K i σ H2 fun y H3 => r x y z H3 fun H4 => D.nx σ H4)) : PS X st (tOfS X.K (.upd f o i v)) := ps_imp h fun D s H ⟨g, ro, M, q, S, ev, k⟩ => by
  unfold execS at ev
  obtain ⟨z, e1, ev⟩ := bind_some ev
  split at ev
  · cases ev
  · rename_i hn
    obtain ⟨x, e2, ev⟩ := bind_some ev
    obtain ⟨y, e3, ev⟩ := bind_some ev
    obtain ⟨w, e4, ev⟩ := map_some' ev
    cases ev
    exact ⟨g, ro, M, _, _, _, S, e1, fun g1 v1 H1 S1 l1 r1 => ⟨g1, _, _, _, _, _, S1, e2, fun g2 v2 H2 S2 l2 r2 => ⟨g2, _, _, _, _, _, S2, e3, fun g3 v3 H3 S3 l3 r3 => ok g3 s H3 _ _ _ _ _ v2 v3 v1 _ _ _ S3 (r2.le l3) r3 (((r1.r (Bool.not_eq_true _ ▸ hn)).le l2).le l3) e4 fun g4 H4 S4 l4 => k g4 s H4 S4 (((l1.trans l2).trans l3).trans l4)⟩⟩⟩
/-- name op= e -/
theorem js_aug {st : Stmt} {i : Nat} {f : Op2} {e : E} {r : R2} (ok : BinOk X.K f r) (h : PS X st (tAug i (tOf X.K e) r)) : PS X st (tOfS X.K (.aug i f e)) := ps_imp h fun D s H ⟨g, ro, M, q, S, ev, k⟩ => by
  unfold execS at ev
  split at ev
  · rename_i d e0
    obtain ⟨y, e1, ev⟩ := bind_some ev
    obtain ⟨z, e2, ev⟩ := bind_some ev
    split at ev
    · cases ev
    · rename_i hn
      cases ev
      obtain ⟨v, ev, rv⟩ := S.slVal e0
      exact ⟨v, ev, g, ro, M, _, _, _, S, e1, fun g1 u H1 S1 l1 r1 => ok g1 s H1 _ _ _ _ _ v u _ S1 (rv.le l1).o r1 e2 fun g2 w H2 S2 l2 r2 => k g2 _ H2 (S2.setVal (r2.r (Bool.not_eq_true _ ▸ hn))) (l1.trans l2)⟩
  · cases ev
theorem js_augF {st : Stmt} {C : Addr} {o e : E} {x : Str} {f : Op2} {r : R2} (c : Cls X.K C) (n : NoAttr X.K C x) (ok : BinOk X.K f r) (h : PS X st (sFldAug X.K (tOf X.K o) (tOf X.K e) r x)) : PS X st (tOfS X.K (.augF C o x f e)) := ps_imp h fun D s H ⟨g, ro, M, q, S, ev, k⟩ => by
  unfold execS at ev
  obtain ⟨y, e1, ev⟩ := bind_some ev
  obtain ⟨yd, yr, ym⟩ := y
  split at ev
  · rename_i kk e0
    have e0' : yd = .ref kk := e0
    subst e0'
    obtain ⟨fs, e2, ev⟩ := bind_some ev
    obtain ⟨d, e3, ev⟩ := bind_some ev
    obtain ⟨z, e4, ev⟩ := bind_some ev
    obtain ⟨w, e5, ev⟩ := bind_some ev
    split at ev
    · cases ev
    · rename_i hn
      obtain ⟨fs', e6, ev⟩ := bind_some ev
      split at ev
      · rename_i hl
        cases ev
        refine ⟨g, ro, M, _, _, _, S, e1, fun g1 v H1 S1 l1 r1 => ?_⟩
        obtain ⟨k', a', dx, us, ed, ew, ek, ea, hH, p⟩ := insAt_ok S1 r1 e2
        cases ed
        obtain ⟨u, eu, ru⟩ := p.look.1 _ e3
        refine ⟨a', C, dx, us, u, ew, hH, c, n, eu, g1, _, _, _, _, _, S1, e4, fun g2 v2 H2 S2 l2 r2 => ok g2 s H2 _ _ _ _ _ u v2 _ S2 (ru.le l2).o r2 e5 fun g3 v3 H3 S3 l3 r3 => ?_⟩
        have r1' : RepO X.K g3 s (.ref kk) v := (r1.le l2).le l3
        obtain ⟨k2, a2, dx2, us2, ed2, ew2, ek2, ea2, hH2, p2⟩ := insAt_ok S3 r1' e6
        cases ed2
        have : a' = a2 := by rw [ew] at ew2; cases ew2; rfl
        subst this
        refine ⟨dx2, us2, hH2, by rw [p2.length]; omega, ?_⟩
        exact k g3 s _ (S3.wrCell ea2 ⟨dx2, _, rfl, p2.put (r3.r (Bool.not_eq_true _ ▸ hn))⟩) ((l1.trans l2).trans l3)
      · cases ev
  · cases ev

/-! ### a def -/
def startR (N : Nat) (ds : List D) : Ro := ds.map (fun d => some (.val d)) ++ List.replicate (N - ds.length) none
def runF (N : Nat) (b : List S) : Fn := fun ds M => match execB b (startR N ds) M with
  | some (.ret d, _, M') => some (d, M')
  | some (.nx, _, M') => some (.non, M')
  | _ => none
theorem SR.start {N : List Str} {Z : Hp} {io : List Addr} {ds : List D} {vs : List V} (h : HR K Z io M H) (r : Reps K Z io ds vs) : SR K ⟨Z, io, H, Z, io, fun _ => none⟩ (L2.start N vs) H (startR N.length ds) M := by
  have hl := r.length
  refine ⟨⟨Same.refl _, ⟨[], by simp, by simp⟩, fun b o e _ => e, fun b e => e, fun b o e => .inl e⟩, h, ?_, fun i x e => ?_, fun i j p xs ys h1 h2 h3 h4 => ?_, fun b o e => by cases e⟩
  · unfold L2.start startR
    rw [List.length_append, List.length_append, List.length_map, List.length_map, List.length_replicate, List.length_replicate, hl]
  · unfold startR at e
    by_cases hi : i < ds.length
    · rw [List.getElem?_append_left (by rw [List.length_map]; exact hi), List.getElem?_map] at e
      rw [List.getElem?_eq_getElem hi] at e
      cases e
      obtain ⟨v, ev, rv⟩ := r.get (List.getElem?_eq_getElem hi)
      refine ⟨v, ?_, rv⟩
      unfold L2.start
      rw [List.getElem?_append_left (by rw [List.length_map, hl]; exact hi), List.getElem?_map, ev]; rfl
    · rw [List.getElem?_append_right (by rw [List.length_map]; omega)] at e
      have := List.mem_of_getElem? e
      rw [List.mem_replicate] at this
      cases this.2
  · exfalso
    unfold startR at h3
    by_cases hi : i < ds.length
    · rw [List.getElem?_append_left (by rw [List.length_map]; exact hi), List.getElem?_map, List.getElem?_eq_getElem hi] at h3
      cases h3
    · rw [List.getElem?_append_right (by rw [List.length_map]; omega)] at h3
      have := List.mem_of_getElem? h3
      rw [List.mem_replicate] at this
      cases this.2
theorem GR.to {Z : Hp} {io : List Addr} {H H' : Hp} {g' : Gh} (l : (Gh.mk Z io H Z io fun _ => none).le g') (G : GR g' H') : GR ⟨Z, io, H, g'.Z, g'.io, fun _ => none⟩ H' := by
  obtain ⟨Z0, i0, H0, Z', io', F'⟩ := g'
  obtain ⟨e1, e2, e3, _, _, _⟩ := l
  have e1' : Z0 = Z := e1
  have e2' : i0 = io := e2
  have e3' : H0 = H := e3
  subst e1' e2' e3'
  exact ⟨G.z, G.i, G.keep, G.dom, G.new⟩
theorem fn_ok {P : Program} {w : World} {mg : Str → Option Value} {base : Heap} {x qual : Str} {st : Stmt} {f : Addr} {fd : FuncData} {N ps : List Str} {k : Nat} (b : List S) (F : Fun K x qual st f fd) (S : FnScope N ps (defScope st))
    (hb : ∀ (cdv : Value) (A : Around) (outer : List Env) (s : Shared) (H : Hp) (E : XK), Room k (A.deeper (envOfC qual (defScope st) s.heap.objs.size f cdv)) → PSs (cxOf CX0 P w K mg base N qual (defScope st) f cdv A outer s H E).nox (defBody st) (tOfB K b)) :
    FnOk P w K mg base CX0 (k + 1) f fd ps (spM K ps.length (runF N.length b)) :=
  F.ok S (fun vs H Q E h => spM_len h) fun cdv A outer s H vs Q E hr h => by
    obtain ⟨Z, io, M, ds, d, M', h1, r, en, ev, kk⟩ := h
    refine ⟨_, hb cdv A outer s H E hr, ⟨Z, io, H, Z, io, fun _ => none⟩, startR N.length ds, M, ?_⟩
    unfold runF at ev
    split at ev
    · rename_i d' ro' M'' e
      cases ev
      exact ⟨_, SR.start h1 r, e, fun g' s' H' S' l v rv => kk g'.Z g'.io v H' (GR.to l S'.gr) S'.hr rv⟩
    · rename_i ro' M'' e
      cases ev
      exact ⟨_, SR.start h1 r, e, fun g' s' H' S' l => kk g'.Z g'.io .non H' (GR.to l S'.gr) S'.hr rfl⟩
    · cases ev
/-- another function on data that is met where this one answers -/
theorem FnOk.data {P : Program} {w : World} {mg : Str → Option Value} {base : Heap} {CX : CXT} {k n : Nat} {f : Addr} {fd : FuncData} {ps : List Str} {a b : Fn} (F : FnOk P w K mg base CX k f fd ps (spM K n a)) (h : ∀ ds M r, ds.length = n → b ds M = some r → a ds M = some r) : FnOk P w K mg base CX k f fd ps (spM K n b) :=
  F.imp fun vs H Q E ⟨Z, io, M, ds, d, M', h1, r, en, ev, kk⟩ => ⟨Z, io, M, ds, d, M', h1, r, en, h _ _ _ en ev, kk⟩
end
end Sim
set_option Elab.async false
set_option linter.all false
set_option maxRecDepth 100000
set_option maxHeartbeats 4000000
/-! enumerate(t), t a tuple, as a rule of the hand layer. -/
namespace Sim
open PySem PySem.Spec PyProof.Rows L2
theorem meets_enum1 {v : Value} {o : Obj} {H : Heap → Prop} (B : Begins v o H) :
    Meets (Builtin.«enumerate.__new__» ⟨[.type "enumerate", v], []⟩) (fun _ R s => H s.heap ∧
      R (.ok (.ret (.ref (s.heap.push o).objs.size))) { s with heap := (s.heap.push o).push { cls := .type "enumerate", data := .fields #[.none, .bool false, .ref s.heap.objs.size, rawInt 0, .none, .none] } }) :=
  .of_wp fun prog w A R s h => by
    obtain ⟨hp, g, d, tk, os⟩ := s; obtain ⟨h1, h⟩ := h
    have hsub := sub_enumerate
    have q1 : ∀ {A' : Around} {E : Value → Shared → Prop} {Q : Value → Shared → Prop}, Q (.ref hp.objs.size) ⟨hp.push o, g, d, tk, os⟩ → wpAny (model prog w) A' (pyIter v) Q E ⟨hp, g, d, tk, os⟩ :=
      fun q => B.iter prog w _ _ ⟨hp, g, d, tk, os⟩ _ h1 q
    wp_walk using q1
    refine wpAny_stack_any fun st => wpAny_pure ?_
    split
    · rename_i c _ _ _ _ _
      cases (c == Value.type "enumerate")
      · wp_walk using q1
        exact ⟨_, rfl, h⟩
      · wp_walk using q1
        exact ⟨_, rfl, h⟩
    · wp_walk using q1
      exact ⟨_, rfl, h⟩
theorem enum_tuple {prog : Program} {w : World} {A : Around} {E : Value → Shared → Prop} {s : Shared} {l : Addr} {items : Array Value} {Q : Value → Shared → Prop} (hL : s.heap.IsTuple l items)
    (h : ∀ h', IsEnum h' (s.heap.objs.size + 1) s.heap.objs.size 0 .none → h'.IsTupleIter s.heap.objs.size l 0 → (∀ b o, s.heap.get? b = some o → h'.get? b = some o) → Q (.ref (s.heap.objs.size + 1)) { s with heap := h' }) :
    wpAny (model prog w) A (call (.type "enumerate") [.ref l]) Q E s := by
  refine callType_new F.called_enumerate (by decide) (F.typeCall_enumerate_1 _) (F.newCall_enumerate_1 _) (fun obj => F.args_object_init_2 obj _) F.entry_enumerate_new
    (meets_enum1 (begins_tuple l items)) ⟨hL, ?_⟩
  have hz : (s.heap.push { cls := .type "tuple_iterator", data := .fields #[.ref l, .int 0 0] }).objs.size = s.heap.objs.size + 1 := Heap.size_push ..
  show _ ∧ _
  rw [hz]
  have he : IsEnum ((s.heap.push { cls := .type "tuple_iterator", data := .fields #[.ref l, .int 0 0] }).push
      { cls := .type "enumerate", data := .fields #[.none, .bool false, .ref s.heap.objs.size, rawInt 0, .none, .none] }) (s.heap.objs.size + 1) s.heap.objs.size 0 .none := by
    have := Heap.get?_push_size (s.heap.push { cls := .type "tuple_iterator", data := .fields #[.ref l, .int 0 0] })
      (o := { cls := .type "enumerate", data := .fields #[.none, .bool false, .ref s.heap.objs.size, rawInt 0, .none, .none] }) rfl
    rw [hz] at this; exact this
  exact ⟨⟨_, he, rfl⟩, h _ he ⟨_, Heap.get?_push_of_some _ (Heap.get?_push_size _ rfl), rfl, rfl⟩ fun b o x => Heap.get?_push_of_some _ (Heap.get?_push_of_some _ x)⟩
def IteT (K : PySem.W.Frag) (a : Addr) : It :=
  ⟨fun i H => ∃ (xs : List V) (x : V), SqT K H a xs ∧ xs[i]? = some x, fun i H v H' => ∃ T x, v = .ref T ∧ H T = none ∧ H' = upd H T (.tup [.int (i : Nat), x]) ∧ ∀ xs, SqT K H a xs → xs[i]? = some x, fun i H => ∃ xs : List V, SqT K H a xs ∧ xs.length ≤ i⟩
theorem apart {h : Heap} (it e a : Addr) {i : Nat} {k : Int} {old : Value} {xs : Array Value} (hit : h.IsTupleIter it a i) (he : IsEnum h e it k old) (hp : h.IsTuple a xs) : a ≠ it ∧ a ≠ e := by
  obtain ⟨o', e2, c2, _⟩ := hp
  refine ⟨fun z => ?_, fun z => ?_⟩
  · subst z
    obtain ⟨o, e1, c1, d1⟩ := hit
    rw [e1] at e2; cases e2
    rw [c1] at c2
    exact absurd c2 (by decide)
  · subst z
    have he' := he
    unfold IsEnum at he'
    rw [he'] at e2; cases e2
    have c3 : Value.type "enumerate" = Value.type "tuple" := c2
    injection c3 with h3
    exact absurd h3 (by decide)
/-- next of an enumerate whose tuple is used up -/
theorem enumT_end {prog : Program} {w : World} {A : Around} {E : Value → Shared → Prop} {s : Shared} {e it l : Addr} {i : Nat} {items : Array Value} {k : Int} {old : Value} {Q : Option Value → Shared → Prop} (hh : A.handled = none) (hne : l ≠ it) (he : IsEnum s.heap e it k old) (hit : s.heap.IsTupleIter it l i) (hp : s.heap.IsTuple l items) (hi : items.size ≤ i)
    (hQ : ∀ h', Heap.ExtBut it s.heap h' → Q none { s with heap := h' }) : wpAny (model prog w) A (pyNext (.ref e)) Q E s := by
  have D : Draws prog w A.in1 it [it, l] i (fun _ _ => False) (fun j h => j = i ∧ h.IsTupleIter it l i ∧ h.IsTuple l items) := {
    live := fun _ _ st => let ⟨o, ho, _⟩ := st.2.1; ⟨o, ho⟩
    frame := fun _ _ _ st hk => ⟨st.1, st.2.1.at fun o e => hk it (by simp) o e, st.2.2.at fun o e => hk l (by simp) o e⟩
    item := fun j s Q E hj st hQ => absurd st.1 (Nat.ne_of_lt hj)
    done := fun s Q E st hE => wpAny_nextOf_tuple_end hh st.2.1 st.2.2 (Array.getElem?_eq_none hi) hE }
  exact wpAny_pyNext_enum_endD D he ⟨rfl, hit, hp⟩ hQ
theorem turn_enumT {P : Program} {w : World} {K : PySem.W.Frag} {elts : List Expr} {kk : Nat} {tpos : Pos} (a e it : Addr) :
    Turn P w K (.Tuple elts kk tpos) (IteT K a) [e, it] e (fun i h => (∃ old, IsEnum h e it ((i : Nat) : Int) old) ∧ h.IsTupleIter it a i ∧ e ≠ it) where
  mem := by simp
  obj := fun i h st b hb => by
    obtain ⟨⟨old, he⟩, ⟨o, ho, hc, hd⟩, _⟩ := st
    have e' : b = e ∨ b = it := by simpa using hb
    rcases e' with z | z
    · rw [z]; exact ⟨_, he, fun v q => nomatch q⟩
    · rw [z]; exact ⟨o, ho, fun v q => by rw [hd] at q; cases q⟩
  keep := fun i h h' st k => let ⟨⟨old, he⟩, hi, hne⟩ := st; ⟨⟨old, k e (by simp) _ he⟩, hi.at fun o q => k it (by simp) o q, hne⟩
  item := by
    intro X hP hw hK hc i pins s σ H E I hf st hg
    subst hP hw hK
    obtain ⟨⟨old, he⟩, hit, hne⟩ := st
    obtain ⟨xs, x, hq, hx⟩ := hg
    obtain ⟨its, rv, p, hz⟩ := I.tuple hq
    obtain ⟨u, hu, ru⟩ := rv.get hx
    have hel : e < s.heap.objs.size := Heap.lt_size he
    have hil : it < s.heap.objs.size := by obtain ⟨_, q, _⟩ := hit; exact Heap.lt_size q
    have hp : s.heap.IsTuple a its.toArray := p
    obtain ⟨hai, hae⟩ := apart it e a hit he hp
    have hil' : i < its.toArray.size := by simpa using (List.getElem?_eq_some_iff.mp hu).1
    have D := Draws.tuple (prog := X.prog) (w := X.w) (A := X.A.in1) (I.ok.hd hc) it a hai its.toArray
    refine wpAny_pyNext_enum_itemD D he ⟨hit, hp⟩ hil' hne (by simp [hne, Ne.symm hae]) fun y h' tk hy ho hit' hT hsz hk => ?_
    have ey : y = u := by
      have : its.toArray[i]? = some u := by simpa using hu
      rw [this] at hy; cases hy; rfl
    subst ey
    refine ⟨_, rfl, wpAny_letOwnedTupleGo_enum (s := { s with heap := h', toks := tk + 1 }) ho fun h'' he' sb => ?_⟩
    have hT2 : h''.get? s.heap.objs.size = some { cls := .type "tuple", data := .seq #[.int i tk, y] } := (sb.2 _ (Nat.ne_of_gt hel)).trans hT
    have new : ObjOk X.prog X.w (upd H s.heap.objs.size (.tup [.int (i : Nat), x])) h'' s.heap.objs.size (.tup [.int (i : Nat), x]) :=
      ⟨by show 2 ≤ sizeLine; decide, [.int i tk, y], .cons ⟨_, rfl⟩ (.cons ru .nil), ⟨_, hT2, rfl, _, rfl⟩⟩
    have I1 : Inv X pins σ (upd H s.heap.objs.size (.tup [.int (i : Nat), x])) { s with heap := h'', toks := tk + 1 } :=
      I.turnedNew (ch := [e, it]) (fun b ob hb q => (sb.2 b (fun z => hb (by simp [z]))).trans (hk b ob (fun z => hb (by simp [z])) (fun z => hb (by simp [z])) q)) hf (Nat.le_refl _) new
    refine ⟨.ref s.heap.objs.size, _, I1, rfl, ⟨_, x, rfl, I.hok.fresh (Nat.le_refl _), rfl, fun ys hy => by rw [I.tuple_inj hy hq]; exact hx⟩, ⟨⟨y, ?_⟩, hit'.1.at fun o q => (sb.2 it (Ne.symm hne)).trans q, hne⟩, fun b hb => ?_⟩
    · have e1 : ((i + 1 : Nat) : Int) = (i : Int) + 1 := by omega
      rw [e1]; exact he'
    · have hb' : b < s.heap.objs.size := by
        have e' : b = e ∨ b = it := by simpa using hb
        rcases e' with z | z
        · rw [z]; exact hel
        · rw [z]; exact hil
      rw [upd_ne (Nat.ne_of_lt hb')]
      exact (hf b hb).1
  done := by
    intro X hP hw hK hc i pins s σ H E I hf st hg
    subst hP hw hK
    obtain ⟨⟨old, he⟩, hit, hne⟩ := st
    obtain ⟨xs, hq, hx⟩ := hg
    obtain ⟨its, rv, p, hz⟩ := I.tuple hq
    obtain ⟨f0, f1, f2, f3, f4, f5⟩ := hf it (by simp)
    have hl := rv.length
    have hp : s.heap.IsTuple a its.toArray := p
    obtain ⟨hai, hae⟩ := apart it e a hit he hp
    exact enumT_end (I.ok.hd hc) hai he hit hp (by simp; omega) fun h' eb => ⟨rfl, I.turned (t' := s.toks) (fun b o hb q => eb b o hb q) f0 f1 f3 f4 f5⟩
  self := fun A i s Q E st h => let ⟨⟨_, he⟩, _⟩ := st; wpAny_pyIter_enum he h
def iEnumT (K : PySem.W.Frag) (ta : TA) : TI := fun σ H R => ta σ H fun vs H1 => ∃ a xs, vs = [.ref a] ∧ SqT K H1 a xs ∧ R (IteT K a) H1
theorem pi_enumT {X : Cx} {e : Expr} {ta : TA} {p pos tpos : Pos} {elts : List Expr} {kk : Nat} (hg : Gl X "enumerate") (hm : X.mg "enumerate" = none) (ha : PA X [e] ta) (hs : starEach [e] X.env = [(false, eval e X.env)] := by rfl) :
    PI X (.Tuple elts kk tpos) (.Call (.Name "enumerate" p) [e] [] pos) (iEnumT X.K ta) := by
  refine ⟨fun pins s σ H R I h => ?_⟩
  refine Call_ (ld_blt I hg hm boot_enumerate (PyProof.Rows.callWith_type1 (thn (ha.run pos pins s σ H _ I h) fun us s1 ⟨vs, H1, I1, r1, q1⟩ => ?_) hs rfl))
  obtain ⟨a, xs, ex, hq, q⟩ := q1
  subst ex
  cases r1 with
  | cons r rr =>
    cases rr
    cases r
    obtain ⟨its, rv, p', hz⟩ := I1.tuple hq
    refine enum_tuple p' fun h' he hit hk => wpAny_pyIter_enum he ?_
    have I2 : Inv X pins σ H1 { s1 with heap := h' } := I1.kept (t' := s1.toks) hk
    refine ⟨s1.heap.objs.size + 1, [s1.heap.objs.size + 1, s1.heap.objs.size], _, _, H1, rfl, I2, turn_enumT a (s1.heap.objs.size + 1) s1.heap.objs.size, ⟨⟨.none, he⟩, hit, Nat.succ_ne_self _⟩, fun b hb => ?_, q⟩
    have e' : b = s1.heap.objs.size + 1 ∨ b = s1.heap.objs.size := by simpa using hb
    have hle : s1.heap.objs.size ≤ b := by
      rcases e' with z | z
      · rw [z]; exact Nat.le_add_right _ _
      · rw [z]; exact Nat.le_refl _
    exact I1.fpOk hle (I1.hok.fresh hle)
end Sim
set_option Elab.async false
set_option linter.all false
set_option maxRecDepth 100000
set_option maxHeartbeats 4000000
/-! What is walked; operators. -/
namespace Sim
open PySem PySem.Spec PyProof.Rows L2
section
variable {K : PySem.W.Frag} {g g' : Gh} {s : L2.St} {H : Hp} {ro : Ro} {M : Ms} {X : Cx}
/-- a list or a tuple, read -/
theorem look_ok (S : SR K g s H ro M) {d : D} {v : V} {xs : List D} (r : RepO K g s d v) (e : look ro M d = some xs) : ∃ a vs, v = .ref a ∧ Reps K g.Z g.io xs vs ∧ ((∃ ds, d = .tup ds) ∧ SqT K H a vs ∨ (¬ ∃ ds, d = .tup ds) ∧ SqL K H a vs) := by
  cases d with
  | non => cases e
  | bl _ => cases e
  | int _ => cases e
  | str _ => cases e
  | tup ds =>
    cases e
    obtain ⟨a, vs, e1, t, rs⟩ := r
    exact ⟨a, vs, e1, rs, .inl ⟨⟨_, rfl⟩, SqT.of (S.hr.zh _ _ t)⟩⟩
  | lst ds =>
    cases e
    obtain ⟨a, vs, e1, t, rs⟩ := r
    exact ⟨a, vs, e1, rs, .inr ⟨fun ⟨_, h⟩ => (by cases h), SqL.of (S.hr.zh _ _ t)⟩⟩
  | scr ns =>
    cases e
    obtain ⟨a, e1, t⟩ := r
    exact ⟨a, _, e1, Reps.ofInts ns, .inr ⟨fun ⟨_, h⟩ => (by cases h), same_l S.hr.zh t⟩⟩
  | ref k =>
    obtain ⟨a, e1, ea⟩ := r
    simp only [look, lookC] at e
    split at e
    · rename_i xs' ek
      cases e
      obtain ⟨vs, h1, h2⟩ := S.hr.cell k _ a ek ea
      exact ⟨a, vs, e1, h2, .inr ⟨fun ⟨_, h⟩ => (by cases h), SqL.of h1⟩⟩
    · cases e
  | bor i =>
    simp only [look] at e
    have r' : s[i]? = some (some v) := r
    split at e
    · rename_i xs' ei
      cases e
      obtain ⟨p, vs, e1, w⟩ := S.slOwn ei
      rw [r'] at e1; cases e1
      exact ⟨p, vs, rfl, w.2.1, .inr ⟨fun ⟨_, h⟩ => (by cases h), SqL.of w.1⟩⟩
    · rename_i xs' ei
      cases e
      obtain ⟨u, e1, a, vs, e2, t, rs⟩ := S.slVal ei
      rw [r'] at e1; cases e1
      exact ⟨a, vs, e2, rs, .inr ⟨fun ⟨_, h⟩ => (by cases h), SqL.of (S.hr.zh _ _ t)⟩⟩
    · cases e
theorem one_of {ds : List D} {us : List V} {d : D} (r : RepsO K g s ds us) (e : ds = [d]) : ∃ v, us = [v] ∧ RepO K g s d v := by
  subst e
  obtain ⟨v, r', e1, h, h2⟩ := r
  have : r' = [] := h2
  subst this
  exact ⟨v, e1, h⟩

/-! ### sources -/
def srcSeq : Src := fun ro M ds => match ds with
  | [d] => look ro M d
  | _ => none
theorem pi_or {tg e : Expr} {a b : TI} (h1 : PI X tg e a) (h2 : PI X tg e b) : PI X tg e (fun s H R => a s H R ∨ b s H R) := ⟨fun pins s σ H R I q => q.elim (h1.run pins s σ H R I) (h2.run pins s σ H R I)⟩
theorem ji_seq {tg a : Expr} {e : E} (h : PE X a (tOf X.K e)) : PI X tg a (tOfI X.K srcSeq [e]) := pi_imp (pi_or (pi_list h) (pi_tup h)) fun s H R ⟨g, ro, M, ds, ro', M', all, S, ev, es, k⟩ => by
  unfold evalA at ev
  obtain ⟨x, e1, ev⟩ := bind_some ev
  obtain ⟨y, e2, ev⟩ := map_some' ev
  unfold evalA at e2
  cases e2
  cases ev
  have es' : look x.2.1 x.2.2 x.1 = some all := es
  by_cases ht : ∃ ds, x.1 = .tup ds
  · refine .inr ⟨g, ro, M, _, _, _, S, e1, fun g1 v H1 S1 l1 r1 => ?_⟩
    obtain ⟨a, vs, ev, rs, q⟩ := look_ok S1 r1 es'
    rcases q with ⟨_, q⟩ | ⟨n, _⟩
    · refine ⟨a, ev, ⟨vs, q⟩, k g1 [v] H1 _ S1 l1 ⟨v, [], rfl, r1, rfl⟩ fun g2 s2 H2 ro2 M2 S2 r2 e2 i => ?_⟩
      obtain ⟨u, eu, ru⟩ := one_of r2 rfl
      cases eu
      obtain ⟨a2, us, ea, rs2, q2⟩ := look_ok S2 ru e2
      rw [ev] at ea; cases ea
      rcases q2 with ⟨_, q2⟩ | ⟨n, _⟩
      · refine ⟨fun z hz => ?_, fun hi => ⟨us, q2, by rw [rs2.length]; exact hi⟩⟩
        obtain ⟨w, hw, rw'⟩ := rs2.get hz
        exact ⟨⟨us, w, q2, hw⟩, fun v' H' ⟨e3, h3⟩ => by
          subst e3
          have := h3 us q2
          rw [hw] at this; cases this
          exact ⟨g2, S2, Gh.le.refl g2, rw'⟩⟩
      · exact absurd ht n
    · exact absurd ht n
  · refine .inl ⟨g, ro, M, _, _, _, S, e1, fun g1 v H1 S1 l1 r1 => ?_⟩
    obtain ⟨a, vs, ev, rs, q⟩ := look_ok S1 r1 es'
    rcases q with ⟨n, _⟩ | ⟨_, q⟩
    · exact absurd n ht
    · refine ⟨a, ev, ⟨vs, q⟩, k g1 [v] H1 _ S1 l1 ⟨v, [], rfl, r1, rfl⟩ fun g2 s2 H2 ro2 M2 S2 r2 e2 i => ?_⟩
      obtain ⟨u, eu, ru⟩ := one_of r2 rfl
      cases eu
      obtain ⟨a2, us, ea, rs2, q2⟩ := look_ok S2 ru e2
      rw [ev] at ea; cases ea
      rcases q2 with ⟨n, _⟩ | ⟨_, q2⟩
      · exact absurd n ht
      · refine ⟨fun z hz => ?_, fun hi => ⟨us, q2, by rw [rs2.length]; exact hi⟩⟩
        obtain ⟨w, hw, rw'⟩ := rs2.get hz
        exact ⟨⟨us, w, q2, hw⟩, fun v' H' ⟨e3, h3⟩ => by
          subst e3
          have := h3 us q2
          rw [hw] at this; cases this
          exact ⟨g2, S2, Gh.le.refl g2, rw'⟩⟩
def enumFrom : Nat → List D → List D
  | _, [] => []
  | n, x :: xs => .tup [.int n, x] :: enumFrom (n + 1) xs
theorem enumFrom_get : ∀ (xs : List D) (n i : Nat), (enumFrom n xs)[i]? = xs[i]?.map fun x => .tup [.int ((n + i : Nat) : Int), x]
  | [], n, i => by simp [enumFrom]
  | x :: xs, n, 0 => by simp [enumFrom]
  | x :: xs, n, i + 1 => by
    have e : n + 1 + i = n + (i + 1) := by omega
    simp [enumFrom, enumFrom_get xs (n + 1) i, e]
theorem enumFrom_length : ∀ (xs : List D) (n : Nat), (enumFrom n xs).length = xs.length
  | [], _ => rfl
  | x :: xs, n => by simp [enumFrom, enumFrom_length xs]
def srcEnum : Src := fun ro M ds => match ds with
  | [d] => (look ro M d).map (enumFrom 0)
  | _ => none
theorem newTup (S : SR K g s H ro M) {ds : List D} {vs : List V} {T : Addr} (hT : H T = none) (r : Reps K g.Z g.io ds vs) : ∃ g', SR K g' s (upd H T (.tup vs)) ro M ∧ g.le g' ∧ Rep K g'.Z g'.io (.tup ds) (.ref T) := by
  have l := g.frz_le (o := .tup vs) (S.hr.notZ hT)
  exact ⟨_, S.newFrz (.tup vs) hT, l, T, vs, rfl, upd_same, r.le l⟩
theorem ji_enum {e : Expr} {ea : E} {p pos tpos : Pos} {elts : List Expr} {kk : Nat} (hg : Gl X "enumerate") (hm : X.mg "enumerate" = none) (ha : PE X e (tOf X.K ea)) (hs : starEach [e] X.env = [(false, eval e X.env)] := by rfl) :
    PI X (.Tuple elts kk tpos) (.Call (.Name "enumerate" p) [e] [] pos) (tOfI X.K srcEnum [ea]) := pi_imp (pi_or (pi_enum hg hm (ja_cons ha ja_nil hs) hs) (pi_enumT hg hm (ja_cons ha ja_nil hs) hs)) fun s H R ⟨g, ro, M, ds, ro', M', all, S, ev, es, k⟩ => by
  have hds := evalA_len _ ev
  match ds, hds with
  | [d], _ =>
    obtain ⟨xs, es', eall⟩ := map_some' es
    subst eall
    by_cases ht : ∃ ds, d = .tup ds
    · refine .inr ⟨g, ro, M, _, _, _, S, ev, fun g1 us H1 S1 l1 r1 => ?_⟩
      obtain ⟨v, eu, r1'⟩ := one_of r1 rfl
      subst eu
      obtain ⟨a, vs, ev, rs, q⟩ := look_ok S1 r1' es'
      rcases q with ⟨_, q⟩ | ⟨n, _⟩
      · subst ev
        refine ⟨a, vs, rfl, q, k g1 [.ref a] H1 _ S1 l1 r1 fun g2 s2 H2 ro2 M2 S2 r2 e2 i => ?_⟩
        obtain ⟨ys, e2, e3⟩ := map_some' e2
        obtain ⟨u, eu, ru⟩ := one_of r2 rfl
        cases eu
        obtain ⟨a2, us, ea, rs2, q2⟩ := look_ok S2 ru e2
        cases ea
        rcases q2 with ⟨_, q2⟩ | ⟨n, _⟩
        · rw [← e3]
          refine ⟨fun z hz => ?_, fun hi => ⟨us, q2, by rw [rs2.length]; rw [enumFrom_length] at hi; exact hi⟩⟩
          rw [enumFrom_get] at hz
          obtain ⟨y, hy, ez⟩ := map_some' hz
          obtain ⟨w, hw, rw'⟩ := rs2.get hy
          refine ⟨⟨us, w, q2, hw⟩, fun v' H' ⟨T, x, ev', hT, eH, hx⟩ => ?_⟩
          subst ev'; subst eH; subst ez
          have := hx us q2
          rw [hw] at this; cases this
          obtain ⟨g3, S3, l3, r3⟩ := newTup S2 hT (Reps.cons (d := .int ((0 + i : Nat) : Int)) (v := .int (i : Nat)) (by show V.int _ = V.int _; simp) (Reps.cons rw' Reps.nil))
          exact ⟨g3, S3, l3, r3⟩
        · exact absurd ht n
      · exact absurd ht n
    · refine .inl ⟨g, ro, M, _, _, _, S, ev, fun g1 us H1 S1 l1 r1 => ?_⟩
      obtain ⟨v, eu, r1'⟩ := one_of r1 rfl
      subst eu
      obtain ⟨a, vs, ev, rs, q⟩ := look_ok S1 r1' es'
      rcases q with ⟨n, _⟩ | ⟨_, q⟩
      · exact absurd n ht
      · subst ev
        refine ⟨a, vs, rfl, q, k g1 [.ref a] H1 _ S1 l1 r1 fun g2 s2 H2 ro2 M2 S2 r2 e2 i => ?_⟩
        obtain ⟨ys, e2, e3⟩ := map_some' e2
        obtain ⟨u, eu, ru⟩ := one_of r2 rfl
        cases eu
        obtain ⟨a2, us, ea, rs2, q2⟩ := look_ok S2 ru e2
        cases ea
        rcases q2 with ⟨n, _⟩ | ⟨_, q2⟩
        · exact absurd n ht
        · rw [← e3]
          refine ⟨fun z hz => ?_, fun hi => ⟨us, q2, by rw [rs2.length]; rw [enumFrom_length] at hi; exact hi⟩⟩
          rw [enumFrom_get] at hz
          obtain ⟨y, hy, ez⟩ := map_some' hz
          obtain ⟨w, hw, rw'⟩ := rs2.get hy
          refine ⟨⟨us, w, q2, hw⟩, fun v' H' ⟨T, x, ev', hT, eH, hx⟩ => ?_⟩
          subst ev'; subst eH; subst ez
          have := hx us q2
          rw [hw] at this; cases this
          obtain ⟨g3, S3, l3, r3⟩ := newTup S2 hT (Reps.cons (d := .int ((0 + i : Nat) : Int)) (v := .int (i : Nat)) (by show V.int _ = V.int _; simp) (Reps.cons rw' Reps.nil))
          exact ⟨g3, S3, l3, r3⟩
/-- range(n), range(a, b) -/
def rangeD (lo : Int) : Nat → List D
  | 0 => []
  | n + 1 => .int lo :: rangeD (lo + 1) n
theorem rangeD_get : ∀ (n : Nat) (lo : Int) (i : Nat), (rangeD lo n)[i]? = if i < n then some (.int (lo + i)) else none
  | 0, lo, i => by simp [rangeD]
  | n + 1, lo, 0 => by simp [rangeD]
  | n + 1, lo, i + 1 => by
    have e : lo + 1 + (i : Int) = lo + ((i : Int) + 1) := by omega
    simp [rangeD, rangeD_get n (lo + 1) i, e]
theorem rangeD_length : ∀ (n : Nat) (lo : Int), (rangeD lo n).length = n
  | 0, _ => rfl
  | n + 1, lo => by simp [rangeD, rangeD_length n]
def srcRng1 : Src := fun ro M ds => match ds with
  | [.int n] => if n < 100000 ∧ -100000 < n then some (rangeD 0 n.toNat) else none
  | _ => none
def srcRng2 : Src := fun ro M ds => match ds with
  | [.int a, .int b] => if a < 100000 ∧ -100000 < a ∧ b < 100000 ∧ -100000 < b then some (rangeD a (b - a).toNat) else none
  | _ => none
theorem jOk_range {src : Src} {ds : List D} {us : List V} {lo : Int} {n : Nat} : JOk K src ds us (rangeD lo n) (Itr lo n) := fun g2 s2 H2 ro2 M2 S2 r2 e2 i => by
  refine ⟨fun z hz => ?_, fun hi => by rw [rangeD_length] at hi; exact hi⟩
  rw [rangeD_get] at hz
  split at hz
  · rename_i hi
    cases hz
    exact ⟨hi, fun v' H' ⟨e1, e2⟩ => by subst e1; exact ⟨g2, S2, Gh.le.refl g2, e2⟩⟩
  · cases hz
theorem ji_rng1 {tg a : Expr} {ea : E} {p pos : Pos} (hg : Gl X "range") (hm : X.mg "range" = none) (ha : PE X a (tOf X.K ea)) (hs : starEach [a] X.env = [(false, eval a X.env)] := by rfl) : PI X tg (.Call (.Name "range" p) [a] [] pos) (tOfI X.K srcRng1 [ea]) :=
  pi_imp (pi_range1 hg hm (ja_cons ha ja_nil hs) hs) fun s H R ⟨g, ro, M, ds, ro', M', all, S, ev, es, k⟩ => by
    refine ⟨g, ro, M, _, _, _, S, ev, fun g1 us H1 S1 l1 r1 => ?_⟩
    unfold srcRng1 at es
    split at es
    · rename_i n
      split at es
      · rename_i hn
        cases es
        obtain ⟨v, eu, r1'⟩ := one_of r1 rfl
        have ev : v = .int n := r1'
        subst ev
        exact ⟨n, eu, by omega, by omega, k g1 us H1 _ S1 l1 r1 jOk_range⟩
      · cases es
    · cases es
theorem two_of {ds : List D} {us : List V} {d e : D} (r : RepsO K g s ds us) (h : ds = [d, e]) : ∃ v w, us = [v, w] ∧ RepO K g s d v ∧ RepO K g s e w := by
  subst h
  obtain ⟨v, r', e1, h, w, r2, e2, h2, h3⟩ := r
  have : r2 = [] := h3
  subst this
  subst e2
  exact ⟨v, w, e1, h, h2⟩
theorem ji_rng2 {tg a b : Expr} {ea eb : E} {p pos : Pos} (hg : Gl X "range") (hm : X.mg "range" = none) (ha : PE X a (tOf X.K ea)) (hb : PE X b (tOf X.K eb)) (hs : starEach [a, b] X.env = [(false, eval a X.env), (false, eval b X.env)] := by rfl) (hs2 : starEach [b] X.env = [(false, eval b X.env)] := by rfl) : PI X tg (.Call (.Name "range" p) [a, b] [] pos) (tOfI X.K srcRng2 [ea, eb]) :=
  pi_imp (pi_range2 hg hm (ja_cons ha (ja_cons hb ja_nil hs2) (hs.trans (by rw [hs2]))) hs hs2) fun s H R ⟨g, ro, M, ds, ro', M', all, S, ev, es, k⟩ => by
    refine ⟨g, ro, M, _, _, _, S, ev, fun g1 us H1 S1 l1 r1 => ?_⟩
    unfold srcRng2 at es
    split at es
    · rename_i a b
      split at es
      · rename_i hn
        cases es
        obtain ⟨v, w, eu, r1', r2'⟩ := two_of r1 rfl
        have ev : v = .int a := r1'
        have ew : w = .int b := r2'
        subst ev ew
        exact ⟨a, b, eu, ⟨by omega, by omega, by omega, by omega⟩, k g1 us H1 _ S1 l1 r1 jOk_range⟩
      · cases es
    · cases es
/-- a text's signs -/
def signs (x : Str) : List D := x.cps.toList.map fun c => .str ⟨#[c]⟩
def srcStr : Src := fun ro M ds => match ds with
  | [.str x] => some (signs x)
  | _ => none
theorem ji_str {tg a : Expr} {ea : E} (ha : PE X a (tOf X.K ea)) : PI X tg a (tOfI X.K srcStr [ea]) :=
  pi_imp (pi_str ha) fun s H R ⟨g, ro, M, ds, ro', M', all, S, ev, es, k⟩ => by
    unfold srcStr at es
    split at es
    · rename_i x
      cases es
      unfold evalA at ev
      obtain ⟨y, e1, ev⟩ := bind_some ev
      obtain ⟨z, e2, ev⟩ := map_some' ev
      unfold evalA at e2
      cases e2
      obtain ⟨yd, yr, ym⟩ := y
      cases ev
      refine ⟨g, ro, M, _, _, _, S, e1, fun g1 v H1 S1 l1 r1 => ⟨x, r1, k g1 [v] H1 _ S1 l1 ⟨v, [], rfl, r1, rfl⟩ fun g2 s2 H2 ro2 M2 S2 r2 e2 i => ?_⟩⟩
      have el : (signs x).length = x.cps.size := by unfold signs; simp
      refine ⟨fun z hz => ?_, fun hi => by rw [el] at hi; exact hi⟩
      unfold signs at hz
      rw [List.getElem?_map] at hz
      obtain ⟨c, hc, ez⟩ := map_some' hz
      subst ez
      have hc' : x.cps[i]? = some c := by simpa using hc
      exact ⟨(Array.getElem?_eq_some_iff.mp hc').1, fun v' H' ⟨e1, c', e2, e3⟩ => by
        subst e1
        rw [hc'] at e2; cases e2
        exact ⟨g2, S2, Gh.le.refl g2, e3⟩⟩
    · cases es
end
end Sim
set_option Elab.async false
set_option linter.all false
set_option maxRecDepth 100000
set_option maxHeartbeats 4000000
/-! Operators. -/
namespace Sim
open PySem PySem.Spec PyProof.Rows L2
section
variable {K : PySem.W.Frag} {g g' : Gh} {s : L2.St} {H : Hp} {ro : Ro} {M : Ms} {X : Cx}
/-- a list that stands tracked -/
def lookL (ro : Ro) (M : Ms) : D → Option (List D)
  | .lst xs => some xs
  | .bor i => match ro[i]? with
    | some (some (.own xs)) => some xs
    | some (some (.val (.lst xs))) => some xs
    | _ => none
  | .ref k => lookC M[k]?
  | _ => none
theorem lookL_ok (S : SR K g s H ro M) {d : D} {v : V} {xs : List D} (r : RepO K g s d v) (e : lookL ro M d = some xs) : ∃ a vs, v = .ref a ∧ Reps K g.Z g.io xs vs ∧ H a = some (.lst vs) := by
  cases d with
  | non => cases e
  | bl _ => cases e
  | int _ => cases e
  | str _ => cases e
  | tup ds => cases e
  | scr ns => cases e
  | lst ds =>
    cases e
    obtain ⟨a, vs, e1, t, rs⟩ := r
    exact ⟨a, vs, e1, rs, S.hr.zh _ _ t⟩
  | ref k =>
    obtain ⟨a, e1, ea⟩ := r
    simp only [lookL, lookC] at e
    split at e
    · rename_i xs' ek
      cases e
      obtain ⟨vs, h1, h2⟩ := S.hr.cell k _ a ek ea
      exact ⟨a, vs, e1, h2, h1⟩
    · cases e
  | bor i =>
    simp only [lookL] at e
    have r' : s[i]? = some (some v) := r
    split at e
    · rename_i xs' ei
      cases e
      obtain ⟨p, vs, e1, w⟩ := S.slOwn ei
      rw [r'] at e1; cases e1
      exact ⟨p, vs, rfl, w.2.1, w.1⟩
    · rename_i xs' ei
      cases e
      obtain ⟨u, e1, a, vs, e2, t, rs⟩ := S.slVal ei
      rw [r'] at e1; cases e1
      exact ⟨a, vs, e2, rs, S.hr.zh _ _ t⟩
    · cases e
theorem BinOk.or {f : Op2} {r r' : R2} (h : ∀ (g : Gh) (s : L2.St) (H : Hp) (ro : Ro) (M : Ms) (d1 d2 d : D) (v1 v2 : V) (Q : VK), SR K g s H ro M → RepO K g s d1 v1 → RepO K g s d2 v2 → f ro M d1 d2 = some d →
  (∀ g' v H', SR K g' s H' ro M → g.le g' → RepO K g' s d v → Q v H') → r v1 v2 H Q ∨ r' v1 v2 H Q) : BinOk K f (fun x y H Q => r x y H Q ∨ r' x y H Q) := h

/-! ### + -/
def opAdd : Op2 := fun ro M a b => match a, b with
  | .int i, .int j => some (.int (i + j))
  | .str x, .str y => if x.length + y.length ≤ most then some (.str (x ++ y)) else none
  | .tup x, .tup y => if x.length + y.length ≤ most then some (.tup (x ++ y)) else none
  | a, b => (lookL ro M a).bind fun x => (lookL ro M b).bind fun y => if x.length + y.length ≤ most then some (.lst (x ++ y)) else none
def rAddS : R2 := fun x y H Q => ∃ i j, x = .str i ∧ y = .str j ∧ i.length + j.length ≤ sizeLine ∧ Q (.str (i ++ j)) H
def rAddA (K : PySem.W.Frag) : R2 := fun x y H Q => rI0 (fun i j => .int (i + j)) x y H Q ∨ rAddS x y H Q ∨ rCatA K x y H Q ∨ rCat x y H Q
theorem op_addA : OpR X (binaryOp .Add) (rAddA X.K) := op_add.or (OpR.or op_add_str (op_catA.or op_cat))
theorem most_le {n : Nat} (h : n ≤ most) : n ≤ sizeLine := Nat.le_trans h (by decide)
theorem frzNew (S : SR K g s H ro M) {ds : List D} {vs : List V} {p : Addr} (hp : H p = none) (r : Reps K g.Z g.io ds vs) : ∃ g', SR K g' s (upd H p (.lst vs)) ro M ∧ g.le g' ∧ Rep K g'.Z g'.io (.lst ds) (.ref p) := by
  have l := g.frz_le (o := .lst vs) (S.hr.notZ hp)
  exact ⟨_, S.newFrz (.lst vs) hp, l, p, vs, rfl, upd_same, r.le l⟩
theorem ok_add : BinOk K opAdd (rAddA K) := fun g s H ro M d1 d2 d v1 v2 Q S r1 r2 e k => by
  unfold opAdd at e
  split at e
  · cases e
    exact .inl ⟨_, _, r1, r2, k g _ H S (Gh.le.refl g) rfl⟩
  · split at e
    · rename_i h
      cases e
      exact .inr (.inl ⟨_, _, r1, r2, most_le h, k g _ H S (Gh.le.refl g) rfl⟩)
    · cases e
  · rename_i x y
    split at e
    · rename_i h
      cases e
      obtain ⟨a, vs, ev, t, rs⟩ := r1
      obtain ⟨b, ws, ew, t', rs'⟩ := r2
      have lv := rs.length
      have lw := rs'.length
      refine .inr (.inr (.inl ⟨a, b, vs, ws, ev, ew, SqT.of (S.hr.zh _ _ t), SqT.of (S.hr.zh _ _ t'), most_le (by rw [lv, lw]; exact h), fun z => ?_, fun _ z => ?_, fun _ _ p hp => ?_⟩))
      · subst z
        have : x = [] := by cases x with
          | nil => rfl
          | cons _ _ => cases lv
        subst this
        exact k g _ H S (Gh.le.refl g) ⟨b, ws, rfl, t', rs'⟩
      · subst z
        have : y = [] := by cases y with
          | nil => rfl
          | cons _ _ => cases lw
        subst this
        exact k g _ H S (Gh.le.refl g) ⟨a, vs, rfl, t, by rw [List.append_nil]; exact rs⟩
      · obtain ⟨g2, S2, l2, q⟩ := newTup S hp (rs.append rs')
        exact k g2 _ _ S2 l2 q
    · cases e
  · obtain ⟨x, e1, e⟩ := bind_some e
    obtain ⟨y, e2, e⟩ := bind_some e
    split at e
    · rename_i h
      cases e
      obtain ⟨a, vs, ev, rs, ha⟩ := lookL_ok S r1 e1
      obtain ⟨b, ws, ew, rs', hb⟩ := lookL_ok S r2 e2
      refine .inr (.inr (.inr ⟨a, b, vs, ws, ev, ew, ha, hb, most_le (by rw [rs.length, rs'.length]; exact h), fun p hp => ?_⟩))
      obtain ⟨g2, S2, l2, q⟩ := frzNew S hp (rs.append rs')
      exact k g2 _ _ S2 l2 q
    · cases e
theorem ok_iadd : OpR X (inplaceOp .Add) (rI0 fun i j => .int (i + j)) := iop_add
/-! ### - * // % ** -/
def opSub : Op2 := fun ro M a b => match a, b with
  | .int i, .int j => some (.int (i - j))
  | _, _ => none
theorem ok_sub : BinOk K opSub (rI0 fun i j => .int (i - j)) := fun g s H ro M d1 d2 d v1 v2 Q S r1 r2 e k => by
  unfold opSub at e
  split at e
  · cases e; exact ⟨_, _, r1, r2, k g _ H S (Gh.le.refl g) rfl⟩
  · cases e
def opAddI : Op2 := fun ro M a b => match a, b with
  | .int i, .int j => some (.int (i + j))
  | _, _ => none
theorem ok_addI : BinOk K opAddI (rI0 fun i j => .int (i + j)) := fun g s H ro M d1 d2 d v1 v2 Q S r1 r2 e k => by
  unfold opAddI at e
  split at e
  · cases e; exact ⟨_, _, r1, r2, k g _ H S (Gh.le.refl g) rfl⟩
  · cases e
/-- a text so many times -/
def strRep (x : Str) (n : Int) : Str := ⟨(List.replicate n.toNat x.cps.toList).flatten.toArray⟩
def lim : Int := 18446744073709551616
def opMul : Op2 := fun ro M a b => match a, b with
  | .int i, .int j => if (-lim < i ∧ i < lim) ∨ (-lim < j ∧ j < lim) then some (.int (i * j)) else none
  | a, .int j => (lookL ro M a).bind fun x => if -1000000 ≤ j ∧ j ≤ 1000000 ∧ x.length * j.toNat ≤ most then some (.lst (List.replicate j.toNat x).flatten) else none
  | _, _ => none
def rMulA : R2 := fun x y H Q => rI CMul (fun i j => .int (i * j)) x y H Q ∨ rRep x y H Q
theorem op_mulA : OpR X (binaryOp .Mult) rMulA := op_mul.or op_rep
theorem reps_rep {Z : Hp} {io : List Addr} {ds : List D} {vs : List V} (h : Reps K Z io ds vs) : ∀ n : Nat, Reps K Z io (List.replicate n ds).flatten (List.replicate n vs).flatten
  | 0 => rfl
  | n + 1 => by
    rw [List.replicate_succ, List.replicate_succ, List.flatten_cons, List.flatten_cons]
    exact h.append (reps_rep h n)
theorem ok_mul : BinOk K opMul rMulA := fun g s H ro M d1 d2 d v1 v2 Q S r1 r2 e k => by
  unfold opMul at e
  split at e
  · split at e
    · rename_i h
      cases e
      exact .inl ⟨_, _, r1, r2, h, k g _ H S (Gh.le.refl g) rfl⟩
    · cases e
  · rename_i j _
    obtain ⟨x, e1, e⟩ := bind_some e
    split at e
    · rename_i h
      cases e
      obtain ⟨a, vs, ev, rs, ha⟩ := lookL_ok S r1 e1
      have ej : v2 = .int j := r2
      refine .inr ⟨a, j, vs, ev, ej, ha, by omega, by omega, most_le (by rw [rs.length]; exact h.2.2), fun p hp => ?_⟩
      obtain ⟨g2, S2, l2, q⟩ := frzNew S hp (reps_rep rs j.toNat)
      exact k g2 _ _ S2 l2 q
    · cases e
  · cases e
def opDiv : Op2 := fun ro M a b => match a, b with
  | .int i, .int j => if 0 < j ∧ j < 1073741824 then some (.int (i / j)) else none
  | _, _ => none
theorem ok_div : BinOk K opDiv (rI CDiv fun i j => .int (i / j)) := fun g s H ro M d1 d2 d v1 v2 Q S r1 r2 e k => by
  unfold opDiv at e
  split at e
  · split at e
    · rename_i h
      cases e; exact ⟨_, _, r1, r2, h, k g _ H S (Gh.le.refl g) rfl⟩
    · cases e
  · cases e
def opMod : Op2 := fun ro M a b => match a, b with
  | .int i, .int j => if 0 < j then some (.int (i % j)) else none
  | _, _ => none
theorem ok_mod : BinOk K opMod (rI (fun _ j => 0 < j) fun i j => .int (i % j)) := fun g s H ro M d1 d2 d v1 v2 Q S r1 r2 e k => by
  unfold opMod at e
  split at e
  · split at e
    · rename_i h
      cases e; exact ⟨_, _, r1, r2, h, k g _ H S (Gh.le.refl g) rfl⟩
    · cases e
  · cases e
def opPow : Op2 := fun ro M a b => match a, b with
  | .int i, .int j => if 0 ≤ j ∧ j ≤ 1000 ∧ i.natAbs < 1000 then some (.int (i ^ j.toNat)) else none
  | _, _ => none
theorem ok_pow : BinOk K opPow (rI CPow fun i j => .int (i ^ j.toNat)) := fun g s H ro M d1 d2 d v1 v2 Q S r1 r2 e k => by
  unfold opPow at e
  split at e
  · split at e
    · rename_i h
      cases e; exact ⟨_, _, r1, r2, ⟨h.1, by omega, Nat.lt_of_lt_of_le h.2.2 (by decide)⟩, k g _ H S (Gh.le.refl g) rfl⟩
    · cases e
  · cases e
/-! ### comparisons -/
def opLt : Op2 := fun ro M a b => match a, b with
  | .int i, .int j => some (.bl (decide (i < j)))
  | _, _ => none
theorem ok_lt : BinOk K opLt (rI0 fun i j => .bl (decide (i < j))) := fun g s H ro M d1 d2 d v1 v2 Q S r1 r2 e k => by
  unfold opLt at e
  split at e
  · cases e; exact ⟨_, _, r1, r2, k g _ H S (Gh.le.refl g) rfl⟩
  · cases e
def opLe : Op2 := fun ro M a b => match a, b with
  | .int i, .int j => some (.bl (decide (i ≤ j)))
  | _, _ => none
theorem ok_le : BinOk K opLe (rI0 fun i j => .bl (decide (i ≤ j))) := fun g s H ro M d1 d2 d v1 v2 Q S r1 r2 e k => by
  unfold opLe at e
  split at e
  · cases e; exact ⟨_, _, r1, r2, k g _ H S (Gh.le.refl g) rfl⟩
  · cases e
def opGt : Op2 := fun ro M a b => match a, b with
  | .int i, .int j => some (.bl (decide (j < i)))
  | _, _ => none
theorem ok_gt : BinOk K opGt (rI0 fun i j => .bl (decide (j < i))) := fun g s H ro M d1 d2 d v1 v2 Q S r1 r2 e k => by
  unfold opGt at e
  split at e
  · cases e; exact ⟨_, _, r1, r2, k g _ H S (Gh.le.refl g) rfl⟩
  · cases e
def opGe : Op2 := fun ro M a b => match a, b with
  | .int i, .int j => some (.bl (decide (j ≤ i)))
  | _, _ => none
theorem ok_ge : BinOk K opGe (rI0 fun i j => .bl (decide (j ≤ i))) := fun g s H ro M d1 d2 d v1 v2 Q S r1 r2 e k => by
  unfold opGe at e
  split at e
  · cases e; exact ⟨_, _, r1, r2, k g _ H S (Gh.le.refl g) rfl⟩
  · cases e
def isNon : D → Bool
  | .non => true
  | _ => false
def opIsN : Op2 := fun ro M a b => match b with
  | .non => some (.bl (isNon a))
  | _ => none
def opNotN : Op2 := fun ro M a b => match b with
  | .non => some (.bl (!isNon a))
  | _ => none
theorem isNon_v {d : D} {v : V} (S : SR K g s H ro M) (r : RepO K g s d v) (n : isBor d = false) : decide (v = .non) = isNon d := by
  cases d with
  | non => have e : v = .non := r; subst e; rfl
  | bl b => have e : v = .bl b := r; subst e; rfl
  | int b => have e : v = .int b := r; subst e; rfl
  | str b => have e : v = .str b := r; subst e; rfl
  | tup ds => obtain ⟨a, vs, e, _⟩ := r; subst e; rfl
  | lst ds => obtain ⟨a, vs, e, _⟩ := r; subst e; rfl
  | ref k => obtain ⟨a, e, _⟩ := r; subst e; rfl
  | scr k => obtain ⟨a, e, _⟩ := r; subst e; rfl
  | bor i => cases n
theorem isNon_w {d : D} {v : V} (S : SR K g s H ro M) (r : RepO K g s d v) : (∃ i, d = .bor i ∧ ∃ x, ro[i]? = some (some (.own x))) ∨ isBor d = true ∨ decide (v = .non) = isNon d := by
  cases h : isBor d with
  | true => exact .inr (.inl rfl)
  | false => exact .inr (.inr (isNon_v S r h))
def opIs : Op2 := fun ro M a b => if isBor a then none else opIsN ro M a b
def opIsNot : Op2 := fun ro M a b => if isBor a then none else opNotN ro M a b
theorem ok_is : BinOk K opIs (fun x y H Q => y = .non ∧ Q (.bl (decide (x = .non))) H) := fun g s H ro M d1 d2 d v1 v2 Q S r1 r2 e k => by
  unfold opIs opIsN at e
  split at e
  · cases e
  · rename_i hn
    split at e
    · cases e
      refine ⟨r2, ?_⟩
      rw [isNon_v S r1 (Bool.not_eq_true _ ▸ hn)]
      exact k g _ H S (Gh.le.refl g) rfl
    · cases e
theorem ok_isNot : BinOk K opIsNot (fun x y H Q => y = .non ∧ Q (.bl (!decide (x = .non))) H) := fun g s H ro M d1 d2 d v1 v2 Q S r1 r2 e k => by
  unfold opIsNot opNotN at e
  split at e
  · cases e
  · rename_i hn
    split at e
    · cases e
      refine ⟨r2, ?_⟩
      rw [isNon_v S r1 (Bool.not_eq_true _ ▸ hn)]
      exact k g _ H S (Gh.le.refl g) rfl
    · cases e
/-! ### == of data -/
mutual
def toPy : D → Option PyData
  | .non => some .none
  | .bl b => some (.bool b)
  | .int i => some (.int i)
  | .str s => some (.str s)
  | .tup l => (toPys l).map .tuple
  | .lst l => (toPys l).map .list
  | .scr ns => some (.list (ns.map .int))
  | .ref _ => none
  | .bor _ => none
def toPys : List D → Option (List PyData)
  | [] => some []
  | d :: ds => (toPy d).bind fun x => (toPys ds).map fun y => x :: y
end
theorem dpAll_ints {H : Hp} : ∀ ns : List Int, DpAll K H (ns.map V.int) (ns.map PyData.int)
  | [] => .nil
  | n :: ns => .cons (.int n) (dpAll_ints ns)
mutual
theorem toPy_ok (h : Same g.Z H) : ∀ {d : D} {v : V} {p : PyData}, Rep K g.Z g.io d v → toPy d = some p → Dp K H v p
  | .non, v, p, r, e => by have r' : v = .non := r; subst r'; cases e; exact .non
  | .bl b, v, p, r, e => by have r' : v = .bl b := r; subst r'; cases e; exact .bl b
  | .int b, v, p, r, e => by have r' : v = .int b := r; subst r'; cases e; exact .int b
  | .str b, v, p, r, e => by have r' : v = .str b := r; subst r'; cases e; exact .str b
  | .tup l, v, p, r, e => by
    obtain ⟨a, vs, e1, t, rs⟩ := r
    unfold toPy at e
    obtain ⟨ps, e2, e⟩ := map_some' e
    subst e1; subst e
    exact .tup (SqT.of (h _ _ t)) (toPys_ok h rs e2)
  | .lst l, v, p, r, e => by
    obtain ⟨a, vs, e1, t, rs⟩ := r
    unfold toPy at e
    obtain ⟨ps, e2, e⟩ := map_some' e
    subst e1; subst e
    exact .lst (SqL.of (h _ _ t)) (toPys_ok h rs e2)
  | .scr ns, v, p, r, e => by
    obtain ⟨a, e1, t⟩ := r
    cases e; subst e1
    exact .lst (same_l h t) (dpAll_ints ns)
  | .ref _, v, p, r, e => by cases e
  | .bor _, v, p, r, e => by cases e
theorem toPys_ok (h : Same g.Z H) : ∀ {ds : List D} {vs : List V} {ps : List PyData}, Reps K g.Z g.io ds vs → toPys ds = some ps → DpAll K H vs ps
  | [], vs, ps, r, e => by have r' : vs = [] := r; subst r'; cases e; exact .nil
  | d :: ds, vs, ps, r, e => by
    obtain ⟨v, q, e1, r1, r2⟩ := r
    unfold toPys at e
    obtain ⟨x, e2, e⟩ := bind_some e
    obtain ⟨y, e3, e⟩ := map_some' e
    subst e1; subst e
    exact .cons (toPy_ok h r1 e2) (toPys_ok h r2 e3)
end
/-- an operand as data: a list in a slot, a cell that is a list, or data -/
def pyO (ro : Ro) (M : Ms) (d : D) : Option PyData := match d with
  | .bor _ => (lookL ro M d).bind fun xs => (toPys xs).map .list
  | .ref _ => (lookL ro M d).bind fun xs => (toPys xs).map .list
  | d => toPy d
theorem pyO_ok (S : SR K g s H ro M) {d : D} {v : V} {p : PyData} (r : RepO K g s d v) (e : pyO ro M d = some p) : Dp K H v p := by
  have key : ∀ d, RepO K g s d v → ((lookL ro M d).bind fun xs => (toPys xs).map .list) = some p → Dp K H v p := fun d r e => by
    obtain ⟨xs, e1, e⟩ := bind_some e
    obtain ⟨ps, e2, e⟩ := map_some' e
    obtain ⟨a, vs, ev, rs, ha⟩ := lookL_ok S r e1
    subst ev; subst e
    exact .lst (SqL.of ha) (toPys_ok S.hr.zh rs e2)
  cases d with
  | bor i => exact key _ r e
  | ref k => exact key _ r e
  | non => exact toPy_ok S.hr.zh (d := .non) r e
  | bl b => exact toPy_ok S.hr.zh (d := .bl b) r e
  | int b => exact toPy_ok S.hr.zh (d := .int b) r e
  | str b => exact toPy_ok S.hr.zh (d := .str b) r e
  | tup b => exact toPy_ok S.hr.zh (d := .tup b) r e
  | lst b => exact toPy_ok S.hr.zh (d := .lst b) r e
  | scr b => exact toPy_ok S.hr.zh (d := .scr b) r e
def eqD (ro : Ro) (M : Ms) (a b : D) : Option Bool := match a, b with
  | .int i, .int j => some (decide (i = j))
  | .str x, .str y => some (decide (x = y))
  | .bl x, .bl y => some (decide (x = y))
  | a, b => (pyO ro M a).bind fun x => (pyO ro M b).bind fun y => if SeqAt.shaped x = true ∧ SeqAt.shaped y = true then some (PyData.eqv x y) else none
def opEq : Op2 := fun ro M a b => (eqD ro M a b).map fun k => .bl k
def opNe : Op2 := fun ro M a b => (eqD ro M a b).map fun k => .bl (!k)
def rEqA (K : PySem.W.Frag) : R2 := fun x y H Q => rEq x y H Q ∨ rEqD K x y H Q
def rNeA (K : PySem.W.Frag) : R2 := fun x y H Q => rNe x y H Q ∨ rNeD K x y H Q
theorem op_eqA (hu : X.A.units + 64 < cLine) : OpR X (compareOp .Eq) (rEqA X.K) := op_eq.or (op_eqD hu)
theorem op_neA (hu : X.A.units + 64 < cLine) : OpR X (compareOp .NotEq) (rNeA X.K) := op_ne.or (op_neD hu)
theorem eqD_ok (S : SR K g s H ro M) {a b : D} {x y : V} {k : Bool} (r1 : RepO K g s a x) (r2 : RepO K g s b y) (e : eqD ro M a b = some k) :
    (scal x y = true ∧ decide (x = y) = k) ∨ ∃ d e, Dp K H x d ∧ Dp K H y e ∧ SeqAt.shaped d = true ∧ SeqAt.shaped e = true ∧ PyData.eqv d e = k := by
  unfold eqD at e
  split at e
  · rename_i i j
    cases e
    have e1 : x = .int i := r1
    have e2 : y = .int j := r2
    subst e1 e2
    exact .inl ⟨rfl, by rw [dec_int, Bool.beq_eq_decide_eq]⟩
  · rename_i i j
    cases e
    have e1 : x = .str i := r1
    have e2 : y = .str j := r2
    subst e1 e2
    exact .inl ⟨rfl, by rw [dec_str, Bool.beq_eq_decide_eq]⟩
  · rename_i i j
    cases e
    have e1 : x = .bl i := r1
    have e2 : y = .bl j := r2
    subst e1 e2
    exact .inl ⟨rfl, by rw [dec_bl, Bool.beq_eq_decide_eq]⟩
  · obtain ⟨p, e1, e⟩ := bind_some e
    obtain ⟨q, e2, e⟩ := bind_some e
    split at e
    · rename_i h
      cases e
      exact .inr ⟨p, q, pyO_ok S r1 e1, pyO_ok S r2 e2, h.1, h.2, rfl⟩
    · cases e
theorem ok_eq : BinOk K opEq (rEqA K) := fun g s H ro M d1 d2 d v1 v2 Q S r1 r2 e k => by
  unfold opEq at e
  obtain ⟨b, e1, e⟩ := map_some' e
  subst e
  rcases eqD_ok S r1 r2 e1 with ⟨h1, h2⟩ | ⟨p, q, h1, h2, h3, h4, h5⟩
  · exact .inl ⟨h1, by rw [h2]; exact k g _ H S (Gh.le.refl g) rfl⟩
  · exact .inr ⟨p, q, h1, h2, h3, h4, by rw [h5]; exact k g _ H S (Gh.le.refl g) rfl⟩
theorem ok_ne : BinOk K opNe (rNeA K) := fun g s H ro M d1 d2 d v1 v2 Q S r1 r2 e k => by
  unfold opNe at e
  obtain ⟨b, e1, e⟩ := map_some' e
  subst e
  rcases eqD_ok S r1 r2 e1 with ⟨h1, h2⟩ | ⟨p, q, h1, h2, h3, h4, h5⟩
  · exact .inl ⟨h1, by rw [h2]; exact k g _ H S (Gh.le.refl g) rfl⟩
  · exact .inr ⟨p, q, h1, h2, h3, h4, by rw [h5]; exact k g _ H S (Gh.le.refl g) rfl⟩
end
end Sim
set_option Elab.async false
set_option linter.all false
set_option maxRecDepth 100000
set_option maxHeartbeats 4000000
/-! Items, slices, built-ins, dicts. -/
namespace Sim
open PySem PySem.Spec PyProof.Rows L2
section
variable {K : PySem.W.Frag} {g g' : Gh} {s : L2.St} {H : Hp} {ro : Ro} {M : Ms} {X : Cx}
theorem look_sq (S : SR K g s H ro M) {d : D} {v : V} {xs : List D} (r : RepO K g s d v) (e : look ro M d = some xs) : ∃ a vs, v = .ref a ∧ Reps K g.Z g.io xs vs ∧ (SqL K H a vs ∨ SqT K H a vs) := by
  obtain ⟨a, vs, h1, h2, h3⟩ := look_ok S r e
  rcases h3 with ⟨_, h⟩ | ⟨_, h⟩
  · exact ⟨a, vs, h1, h2, .inr h⟩
  · exact ⟨a, vs, h1, h2, .inl h⟩
/-! ### items -/
theorem Reps.at {Z : Hp} {io : List Addr} {ds : List D} {vs : List V} {i : Int} {d : D} (r : Reps K Z io ds vs) (e : atI ds i = some d) : ∃ v, atI vs i = some v ∧ Rep K Z io d v := by
  unfold atI at e ⊢
  obtain ⟨j, e1, e2⟩ := bind_some e
  rw [r.length, e1]
  obtain ⟨v, h1, h2⟩ := r.get e2
  exact ⟨v, h1, h2⟩
def opIx : Op2 := fun ro M a b => match a, b with
  | .str x, .int i => if x.length ≤ most then (atI x.cps.toList i).map fun c => .str ⟨#[c]⟩ else none
  | a, .int i => (look ro M a).bind fun xs => atI xs i
  | _, _ => none
theorem ok_ix : BinOk K opIx (rIx K) := fun g s H ro M d1 d2 d v1 v2 Q S r1 r2 e k => by
  unfold opIx at e
  split at e
  · rename_i x i
    split at e
    · rename_i h
      obtain ⟨c, e1, e⟩ := map_some' e
      subst e
      exact .inr (.inr ⟨x, i, c, r1, r2, most_le h, e1, k g _ H S (Gh.le.refl g) rfl⟩)
    · cases e
  · rename_i i _
    obtain ⟨xs, e1, e⟩ := bind_some e
    obtain ⟨a, vs, ev, rs, q⟩ := look_sq S r1 e1
    obtain ⟨v, hv, rv⟩ := rs.at e
    rcases q with q | q
    · exact .inl ⟨a, vs, i, v, ev, r2, q, hv, k g v H S (Gh.le.refl g) rv.o⟩
    · exact .inr (.inl ⟨a, vs, i, v, ev, r2, q, hv, k g v H S (Gh.le.refl g) rv.o⟩)
  · cases e
/-! ### slices -/
def cutD (xs : List D) (lo hi : Option Int) : List D := (xs.drop (HT.sIx xs.length 0 lo)).take (HT.sIx xs.length xs.length hi - HT.sIx xs.length 0 lo)
theorem Reps.cut {Z : Hp} {io : List Addr} {ds : List D} {vs : List V} (r : Reps K Z io ds vs) (lo hi : Option Int) : Reps K Z io (cutD ds lo hi) (cutV vs lo hi) := by
  unfold cutD cutV
  rw [r.length]
  exact (r.drop _).take _
/-- xs[lo:hi] -/
def slV (ro : Ro) (M : Ms) (d : D) (lo hi : Option Int) : Option D := match d with
  | .str x => if x.length ≤ most then some (.str (cutS x lo hi)) else none
  | .tup xs => some (.tup (cutD xs lo hi))
  | d => (look ro M d).map fun xs => .lst (cutD xs lo hi)
def rSlAll (K : PySem.W.Frag) : V → Option Int → Option Int → Hp → VK → Prop := fun x lo hi H Q => rSlL K x lo hi H Q ∨ rSlA K x lo hi H Q ∨ rSlS x lo hi H Q
theorem sl_all : SlR X (rSlAll X.K) := sl_list.or (sl_tupA.or sl_str)
theorem cut_whole {α : Type} {xs : List α} {lo hi : Option Int} (h1 : HT.sIx xs.length 0 lo = 0) (h2 : HT.sIx xs.length xs.length hi = xs.length) : (xs.drop (HT.sIx xs.length 0 lo)).take (HT.sIx xs.length xs.length hi - HT.sIx xs.length 0 lo) = xs := by
  rw [h1, h2, List.drop_zero, Nat.sub_zero, List.take_length]
theorem slV_ok (S : SR K g s H ro M) {d z : D} {v : V} {lo hi : Option Int} {Q : VK} (r : RepO K g s d v) (e : slV ro M d lo hi = some z) (k : ∀ g' v H', SR K g' s H' ro M → g.le g' → RepO K g' s z v → Q v H') : rSlAll K v lo hi H Q := by
  have lst : ∀ d, RepO K g s d v → (¬ ∃ ds, d = .tup ds) → (look ro M d).map (fun xs => D.lst (cutD xs lo hi)) = some z → rSlAll K v lo hi H Q := fun d r n e => by
    obtain ⟨xs, e1, e⟩ := map_some' e
    subst e
    obtain ⟨a, vs, ev, rs, q⟩ := look_ok S r e1
    rcases q with ⟨h, _⟩ | ⟨_, q⟩
    · exact absurd h n
    · refine .inl ⟨a, vs, ev, q, fun p hp => ?_⟩
      obtain ⟨g2, S2, l2, q2⟩ := frzNew S hp (rs.cut lo hi)
      exact k g2 _ _ S2 l2 q2
  cases d with
  | str x =>
    simp only [slV] at e
    split at e
    · rename_i h
      cases e
      exact .inr (.inr ⟨x, r, most_le h, k g _ H S (Gh.le.refl g) rfl⟩)
    · cases e
  | tup xs =>
    cases e
    obtain ⟨a, vs, ev, t, rs⟩ := r
    have rc := rs.cut lo hi
    refine .inr (.inl ⟨a, vs, ev, SqT.of (S.hr.zh _ _ t), fun h => ?_, fun h p hp => ?_⟩)
    · have e2 : cutV vs lo hi = vs := cut_whole h.1 h.2
      rw [e2] at rc
      exact k g _ H S (Gh.le.refl g) ⟨a, vs, rfl, t, rc⟩
    · obtain ⟨g2, S2, l2, q2⟩ := newTup S hp rc
      exact k g2 _ _ S2 l2 q2
  | non => exact lst _ r (fun ⟨_, h⟩ => nomatch h) e
  | bl _ => exact lst _ r (fun ⟨_, h⟩ => nomatch h) e
  | int _ => exact lst _ r (fun ⟨_, h⟩ => nomatch h) e
  | lst _ => exact lst _ r (fun ⟨_, h⟩ => nomatch h) e
  | ref _ => exact lst _ r (fun ⟨_, h⟩ => nomatch h) e
  | scr _ => exact lst _ r (fun ⟨_, h⟩ => nomatch h) e
  | bor _ => exact lst _ r (fun ⟨_, h⟩ => nomatch h) e
def opSl00 : OpL := fun ro M ds => match ds with
  | [a] => slV ro M a none none
  | _ => none
def opSl10 : OpL := fun ro M ds => match ds with
  | [a, .int l] => slV ro M a (some l) none
  | _ => none
def opSl01 : OpL := fun ro M ds => match ds with
  | [a, .int h] => slV ro M a none (some h)
  | _ => none
def opSl11 : OpL := fun ro M ds => match ds with
  | [a, .int l, .int h] => slV ro M a (some l) (some h)
  | _ => none
/-- the arguments one by one -/
theorem tOf_go {e : E} {Q : VK} {d : D} {ro' : Ro} {M' : Ms} (S : SR K g s H ro M) (ev : evalE e ro M = some (d, ro', M')) (k : ∀ g' v H', SR K g' s H' ro' M' → g.le g' → RepO K g' s d v → Q v H') : tOf K e s H Q := ⟨g, ro, M, d, ro', M', S, ev, k⟩
theorem evalA1 {a : E} {ds : List D} {ro' : Ro} {M' : Ms} (h : evalA [a] ro M = some (ds, ro', M')) : ∃ d, ds = [d] ∧ evalE a ro M = some (d, ro', M') := by
  unfold evalA at h
  obtain ⟨x, e1, h⟩ := bind_some h
  obtain ⟨y, e2, h⟩ := map_some' h
  unfold evalA at e2
  cases e2; cases h
  exact ⟨_, rfl, e1⟩
theorem evalAC {a : E} {as : List E} {ds : List D} {ro' : Ro} {M' : Ms} (h : evalA (a :: as) ro M = some (ds, ro', M')) : ∃ d r ro1 M1, ds = d :: r ∧ evalE a ro M = some (d, ro1, M1) ∧ evalA as ro1 M1 = some (r, ro', M') := by
  unfold evalA at h
  obtain ⟨x, e1, h⟩ := bind_some h
  obtain ⟨y, e2, h⟩ := map_some' h
  cases h
  exact ⟨_, _, _, _, rfl, e1, e2⟩
theorem evalBi {f : OpL} {as : List E} {d : D} {ro' : Ro} {M' : Ms} (h : evalE (.bi f as) ro M = some (d, ro', M')) : ∃ ds, evalA as ro M = some (ds, ro', M') ∧ f ro' M' ds = some d := by
  unfold evalE at h
  obtain ⟨x, e1, h⟩ := bind_some h
  obtain ⟨y, e2, h⟩ := map_some' h
  cases h
  exact ⟨_, e1, e2⟩
theorem je_sl00 {a : Expr} {e : E} {pos p2 : Pos} (h : PE X a (tOf X.K e)) : PE X (.Subscript a (.Slice none none none p2) pos) (tOf X.K (.bi opSl00 [e])) := pe_imp (pe_slice sl_all h po_none po_none) fun s H Q ⟨g, ro, M, d, ro', M', S, ev, k⟩ => by
  obtain ⟨ds, e1, e2⟩ := evalBi ev
  obtain ⟨d1, ed, e3⟩ := evalA1 e1
  subst ed
  exact tOf_go S e3 fun g1 v H1 S1 l1 r1 => slV_ok S1 r1 e2 fun g2 w H2 S2 l2 r2 => k g2 w H2 S2 (l1.trans l2) r2
theorem je_sl10 {a b : Expr} {e l : E} {pos p2 : Pos} (h : PE X a (tOf X.K e)) (hb : PE X b (tOf X.K l)) : PE X (.Subscript a (.Slice (some b) none none p2) pos) (tOf X.K (.bi opSl10 [e, l])) := pe_imp (pe_slice sl_all h (po_some hb) po_none) fun s H Q ⟨g, ro, M, d, ro', M', S, ev, k⟩ => by
  obtain ⟨ds, e1, e2⟩ := evalBi ev
  obtain ⟨d1, r, ro1, M1, ed, e3, e4⟩ := evalAC e1
  obtain ⟨d2, er, e5⟩ := evalA1 e4
  subst er; subst ed
  unfold opSl10 at e2
  split at e2
  · rename_i a' i heq
    cases heq
    exact tOf_go S e3 fun g1 v H1 S1 l1 r1 => tOf_go S1 e5 fun g2 w H2 S2 l2 r2 => ⟨i, r2, slV_ok S2 (r1.le l2) e2 fun g3 u H3 S3 l3 r3 => k g3 u H3 S3 ((l1.trans l2).trans l3) r3⟩
  · cases e2
theorem je_sl01 {a b : Expr} {e l : E} {pos p2 : Pos} (h : PE X a (tOf X.K e)) (hb : PE X b (tOf X.K l)) : PE X (.Subscript a (.Slice none (some b) none p2) pos) (tOf X.K (.bi opSl01 [e, l])) := pe_imp (pe_slice sl_all h po_none (po_some hb)) fun s H Q ⟨g, ro, M, d, ro', M', S, ev, k⟩ => by
  obtain ⟨ds, e1, e2⟩ := evalBi ev
  obtain ⟨d1, r, ro1, M1, ed, e3, e4⟩ := evalAC e1
  obtain ⟨d2, er, e5⟩ := evalA1 e4
  subst er; subst ed
  unfold opSl01 at e2
  split at e2
  · rename_i a' i heq
    cases heq
    exact tOf_go S e3 fun g1 v H1 S1 l1 r1 => tOf_go S1 e5 fun g2 w H2 S2 l2 r2 => ⟨i, r2, slV_ok S2 (r1.le l2) e2 fun g3 u H3 S3 l3 r3 => k g3 u H3 S3 ((l1.trans l2).trans l3) r3⟩
  · cases e2
theorem je_sl11 {a b c : Expr} {e l m : E} {pos p2 : Pos} (h : PE X a (tOf X.K e)) (hb : PE X b (tOf X.K l)) (hc : PE X c (tOf X.K m)) : PE X (.Subscript a (.Slice (some b) (some c) none p2) pos) (tOf X.K (.bi opSl11 [e, l, m])) := pe_imp (pe_slice sl_all h (po_some hb) (po_some hc)) fun s H Q ⟨g, ro, M, d, ro', M', S, ev, k⟩ => by
  obtain ⟨ds, e1, e2⟩ := evalBi ev
  obtain ⟨d1, r, ro1, M1, ed, e3, e4⟩ := evalAC e1
  obtain ⟨d2, r2, ro2, M2, er, e5, e6⟩ := evalAC e4
  obtain ⟨d3, er2, e7⟩ := evalA1 e6
  subst er2; subst er; subst ed
  unfold opSl11 at e2
  split at e2
  · rename_i a' i j heq
    cases heq
    exact tOf_go S e3 fun g1 v H1 S1 l1 r1 => tOf_go S1 e5 fun g2 w H2 S2 l2 r2 => ⟨i, r2, tOf_go S2 e7 fun g3 u H3 S3 l3 r3 => ⟨j, r3, slV_ok S3 ((r1.le l2).le l3) e2 fun g4 z H4 S4 l4 r4 => k g4 z H4 S4 (((l1.trans l2).trans l3).trans l4) r4⟩⟩
  · cases e2
/-! ### len, min, max, sum, isinstance -/
def opLen : OpL := fun ro M ds => match ds with
  | [.str x] => if x.length ≤ most then some (.int x.length) else none
  | [d] => (look ro M d).map fun xs => .int xs.length
  | _ => none
theorem ok_len : BiOk K opLen (fun xs H Q => ∃ x n, xs = [x] ∧ LenV K x H n ∧ Q (.int n) H) := fun g s H ro M ds d vs Q S r e k => by
  unfold opLen at e
  split at e
  · rename_i x
    split at e
    · rename_i h
      cases e
      obtain ⟨v, eu, r1⟩ := one_of r rfl
      have ev : v = .str x := r1
      subst ev
      exact ⟨_, x.length, eu, ⟨most_le h, rfl⟩, k g _ H S (Gh.le.refl g) rfl⟩
    · cases e
  · rename_i d' _
    obtain ⟨xs, e1, e⟩ := map_some' e
    subst e
    obtain ⟨v, eu, r1⟩ := one_of r rfl
    obtain ⟨a, us, ev, rs, q⟩ := look_sq S r1 e1
    subst ev
    refine ⟨_, xs.length, eu, ?_, k g _ H S (Gh.le.refl g) rfl⟩
    rcases q with q | q
    · exact .inl ⟨us, q, rs.length.symm⟩
    · exact .inr ⟨us, q, rs.length.symm⟩
  · cases e
def opMin2 : OpL := fun ro M ds => match ds with
  | [.int i, .int j] => some (.int (if j < i then j else i))
  | _ => none
theorem ok_min2 : BiOk K opMin2 (fun xs H Q => ∃ i j, xs = [.int i, .int j] ∧ Q (.int (if j < i then j else i)) H) := fun g s H ro M ds d vs Q S r e k => by
  unfold opMin2 at e
  split at e
  · rename_i i j
    cases e
    obtain ⟨v, w, eu, r1, r2⟩ := two_of r rfl
    have ev : v = .int i := r1
    have ew : w = .int j := r2
    subst ev ew
    exact ⟨i, j, eu, k g _ H S (Gh.le.refl g) rfl⟩
  · cases e
def opMax2 : OpL := fun ro M ds => match ds with
  | [.int i, .int j] => some (.int (if j > i then j else i))
  | _ => none
theorem ok_max2 : BiOk K opMax2 (fun xs H Q => ∃ i j, xs = [.int i, .int j] ∧ Q (.int (if j > i then j else i)) H) := fun g s H ro M ds d vs Q S r e k => by
  unfold opMax2 at e
  split at e
  · rename_i i j
    cases e
    obtain ⟨v, w, eu, r1, r2⟩ := two_of r rfl
    have ev : v = .int i := r1
    have ew : w = .int j := r2
    subst ev ew
    exact ⟨i, j, eu, k g _ H S (Gh.le.refl g) rfl⟩
  · cases e
/-- the intsD that data are -/
def intsD : List D → Option (List Int)
  | [] => some []
  | .int i :: r => (intsD r).map fun x => i :: x
  | _ => none
theorem ints_eq : ∀ {ds : List D} {ns : List Int}, intsD ds = some ns → ds = ns.map D.int
  | [], ns, h => by cases h; rfl
  | d :: r, ns, h => by
    cases d with
    | int i =>
      unfold intsD at h
      obtain ⟨x, e, h⟩ := map_some' h
      subst h
      rw [List.map_cons, ← ints_eq e]
    | _ => cases h
/-- a list (not a tuple), read -/
def lookQ (ro : Ro) (M : Ms) : D → Option (List D)
  | .tup _ => none
  | d => look ro M d
theorem lookQ_ok (S : SR K g s H ro M) {d : D} {v : V} {xs : List D} (r : RepO K g s d v) (e : lookQ ro M d = some xs) : ∃ a vs, v = .ref a ∧ Reps K g.Z g.io xs vs ∧ SqL K H a vs := by
  have n : ¬ ∃ ds, d = .tup ds := fun ⟨ds, h⟩ => by subst h; cases e
  have e' : look ro M d = some xs := by cases d <;> first | exact e | cases e
  obtain ⟨a, vs, h1, h2, h3⟩ := look_ok S r e'
  rcases h3 with ⟨h, _⟩ | ⟨_, h⟩
  · exact absurd h n
  · exact ⟨a, vs, h1, h2, h⟩
def opSum : OpL := fun ro M ds => match ds with
  | [d] => (lookQ ro M d).bind fun xs => (intsD xs).map fun ns => .int ns.sum
  | _ => none
theorem ok_sum : BiOk K opSum (rSum K) := fun g s H ro M ds d vs Q S r e k => by
  unfold opSum at e
  split at e
  · obtain ⟨xs, e1, e⟩ := bind_some e
    obtain ⟨ns, e2, e⟩ := map_some' e
    subst e
    obtain ⟨v, eu, r1⟩ := one_of r rfl
    obtain ⟨a, us, ev, rs, q⟩ := lookQ_ok S r1 e1
    rw [ints_eq e2] at rs
    have := rs.ints
    subst this; subst ev
    exact ⟨a, ns, eu, q, k g _ H S (Gh.le.refl g) rfl⟩
  · cases e
def boolsD : List D → Option (List Bool)
  | [] => some []
  | .bl i :: r => (boolsD r).map fun x => i :: x
  | _ => none
theorem reps_bools {Z : Hp} {io : List Addr} : ∀ {ds : List D} {bs : List Bool} {vs : List V}, boolsD ds = some bs → Reps K Z io ds vs → vs = bs.map V.bl
  | [], bs, vs, h, r => by cases h; exact r
  | d :: ds, bs, vs, h, r => by
    cases d with
    | bl i =>
      unfold boolsD at h
      obtain ⟨x, e, h⟩ := map_some' h
      subst h
      obtain ⟨v, q, e1, r1, r2⟩ := r
      have ev : v = .bl i := r1
      rw [e1, List.map_cons, ev, reps_bools e r2]
    | _ => cases h
def opAll : OpL := fun ro M ds => match ds with
  | [d] => (lookQ ro M d).bind fun xs => (boolsD xs).map fun ns => .bl (ns.all id)
  | _ => none
theorem ok_all : BiOk K opAll (fun vs H Q => ∃ (a : Addr) (bs : List Bool), vs = [V.ref a] ∧ SqL K H a (bs.map V.bl) ∧ Q (.bl (bs.all id)) H) := fun g s H ro M ds d vs Q S r e k => by
  unfold opAll at e
  split at e
  · obtain ⟨xs, e1, e⟩ := bind_some e
    obtain ⟨ns, e2, e⟩ := map_some' e
    subst e
    obtain ⟨v, eu, r1⟩ := one_of r rfl
    obtain ⟨a, us, ev, rs, q⟩ := lookQ_ok S r1 e1
    have := reps_bools e2 rs
    subst this; subst ev
    exact ⟨a, ns, eu, q, k g _ H S (Gh.le.refl g) rfl⟩
  · cases e
/-- a value's type's name -/
def tyD (ro : Ro) (M : Ms) : D → Option String
  | .non => some "NoneType"
  | .bl _ => some "bool"
  | .int _ => some "int"
  | .str _ => some "str"
  | .tup _ => some "tuple"
  | .lst _ => some "list"
  | .scr _ => some "list"
  | .bor i => (lookL ro M (.bor i)).map fun _ => "list"
  | .ref k => match M[k]? with
    | some (.lst _) => some "list"
    | some (.dK _) => some "dict"
    | some (.dT _) => some "dict"
    | _ => none
def isiT (t n : String) : Bool := t == n || (t == "bool" && n == "int")
def tyNames : List String := ["NoneType", "bool", "int", "str", "tuple", "list", "dict"]
def clsNames : List String := ["bool", "int", "str", "tuple", "list", "dict"]
theorem isi_all : (tyNames.all fun t => clsNames.all fun n => decide (kitB t n = some (isiT t n))) = true := by decide +kernel
theorem isi_one {t n : String} (h1 : t ∈ tyNames) (h2 : n ∈ clsNames) : kitB t n = some (isiT t n) := of_decide_eq_true (List.all_eq_true.mp (List.all_eq_true.mp isi_all t h1) n h2)
theorem tyX_l {a : Addr} {xs : List V} (h : SqL K H a xs) : TyX K H (.ref a) (.type "list") := by
  rcases h with (h | ⟨o, h⟩) | ⟨o, its, n, h1, h2, _⟩
  · exact .base (.lst h)
  · exact .base (.frz h)
  · exact .kList h1 h2
theorem tyD_ok (S : SR K g s H ro M) {d : D} {v : V} {t : String} (r : RepO K g s d v) (e : tyD ro M d = some t) : TyX K H v (.type t) ∧ t ∈ tyNames := by
  cases d with
  | non => have ev : v = .non := r; subst ev; cases e; exact ⟨.base .non, by decide⟩
  | bl b => have ev : v = .bl b := r; subst ev; cases e; exact ⟨.base (.bl b), by decide⟩
  | int b => have ev : v = .int b := r; subst ev; cases e; exact ⟨.base (.int b), by decide⟩
  | str b => have ev : v = .str b := r; subst ev; cases e; exact ⟨.base (.str b), by decide⟩
  | tup l => obtain ⟨a, vs, ev, t, _⟩ := r; subst ev; cases e; exact ⟨.base (.tup (S.hr.zh _ _ t)), by decide⟩
  | lst l => obtain ⟨a, vs, ev, t, _⟩ := r; subst ev; cases e; exact ⟨.base (.lst (S.hr.zh _ _ t)), by decide⟩
  | scr l => obtain ⟨a, ev, t⟩ := r; subst ev; cases e; exact ⟨tyX_l (same_l S.hr.zh t), by decide⟩
  | bor i =>
    obtain ⟨xs, e1, e⟩ := map_some' e
    subst e
    obtain ⟨a, vs, ev, _, h⟩ := lookL_ok S r e1
    subst ev
    exact ⟨.base (.lst h), by decide⟩
  | ref k =>
    obtain ⟨a, ev, ea⟩ := r
    subst ev
    simp only [tyD] at e
    split at e
    · rename_i ek
      cases e
      obtain ⟨vs, h1, _⟩ := S.hr.cell k _ a ek ea
      exact ⟨.base (.lst h1), by decide⟩
    · rename_i ek
      cases e
      obtain ⟨vs, h1, _⟩ := S.hr.cell k _ a ek ea
      exact ⟨.base (.dK h1), by decide⟩
    · rename_i ek
      cases e
      obtain ⟨vs, h1, _⟩ := S.hr.cell k _ a ek ea
      exact ⟨.base (.dT h1), by decide⟩
    · cases e
def opIsi (n : String) : OpL := fun ro M ds => match ds with
  | [d] => (tyD ro M d).map fun t => .bl (isiT t n)
  | _ => none
theorem je_isi {a : Expr} {e : E} {n : String} (hn : n ∈ clsNames) (h : PE X a (tCB (rIsi X.K) (tCons (tOf X.K e) (tCons (tC (.ty n)) tNil)))) : PE X a (tOf X.K (.bi (opIsi n) [e])) := pe_imp h fun s H Q ⟨g, ro, M, d, ro', M', S, ev, k⟩ => by
  obtain ⟨ds, e1, e2⟩ := evalBi ev
  obtain ⟨d1, ed, e3⟩ := evalA1 e1
  subst ed
  unfold opIsi at e2
  obtain ⟨t, e4, e2⟩ := map_some' e2
  subst e2
  refine tOf_go S e3 fun g1 v H1 S1 l1 r1 => ?_
  obtain ⟨h1, h2⟩ := tyD_ok S1 r1 e4
  exact ⟨v, .ty n, .type t, .type n, isiT t n, rfl, .ty n, h1, kit_ty (isi_one h2 hn), k g1 _ H1 S1 l1 rfl⟩
end
end Sim
set_option Elab.async false
set_option linter.all false
set_option maxRecDepth 100000
set_option maxHeartbeats 4000000
/-! Lists' methods, dicts, conversions. -/
namespace Sim
open PySem PySem.Spec PyProof.Rows L2
section
variable {K : PySem.W.Frag} {g g' : Gh} {s : L2.St} {H : Hp} {ro : Ro} {M : Ms} {X : Cx}
/-! ### list methods -/
def tyL (ro : Ro) (M : Ms) (d : D) : Bool := (lookL ro M d).isSome
theorem tyL_ok (S : SR K g s H ro M) {d : D} {v : V} (r : RepO K g s d v) (e : tyL ro M d = true) : tyV K "list" v H := by
  unfold tyL at e
  cases h : lookL ro M d with
  | none => rw [h] at e; cases e
  | some xs =>
    obtain ⟨a, vs, ev, _, ha⟩ := lookL_ok S r h
    subst ev
    exact .inl ⟨rfl, vs, SqL.of ha⟩
/-- the list behind a change: a slot's, or a cell -/
def putL (ro : Ro) (M : Ms) (d : D) (ys : List D) : Option (Ro × Ms) := match d with
  | .bor i => match ro[i]? with
    | some (some (.own _)) => some (ro.set i (some (.own ys)), M)
    | _ => none
  | .ref k => match M[k]? with
    | some (.lst _) => some (ro, M.set k (.lst ys))
    | _ => none
  | _ => none
theorem putL_ok (S : SR K g s H ro M) {d : D} {v : V} {xs ys : List D} {a : Addr} {vs us : List V} {ro' : Ro} {M' : Ms} (r : RepO K g s d v) (ev : v = .ref a) (ha : H a = some (.lst vs)) (e : putL ro M d ys = some (ro', M')) (ry : Reps K g.Z g.io ys us) : SR K g s (upd H a (.lst us)) ro' M' := by
  unfold putL at e
  split at e
  · rename_i i
    split at e
    · rename_i zs ei
      cases e
      have r' : s[i]? = some (some v) := r
      subst ev
      exact S.wrOwn ei r' ry
    · cases e
  · rename_i k
    split at e
    · rename_i zs ek
      cases e
      obtain ⟨b, eb, ea⟩ := r
      rw [ev] at eb; cases eb
      exact S.wrCell ea ⟨us, rfl, ry⟩
    · cases e
  · cases e
def opApp : OpM := fun ro M d ds => match ds with
  | [x] => (lookL ro M d).bind fun xs => if isBor x || decide (most ≤ xs.length) then none else (putL ro M d (xs ++ [x])).map fun r => (.non, r.1, r.2)
  | _ => none
theorem ok_app : BmOk K "list" tyL opApp rAppend := ⟨fun g s H ro M d v S r e => tyL_ok S r e, fun g s H ro M d v ds vs z ro' M' Q S r rs e k => by
  unfold opApp at e
  split at e
  · rename_i x
    obtain ⟨xs, e1, e⟩ := bind_some e
    split at e
    · cases e
    · rename_i hn
      rw [Bool.not_eq_true, Bool.or_eq_false_iff] at hn
      obtain ⟨q, e2, e⟩ := map_some' e
      cases e
      obtain ⟨u, eu, ru⟩ := one_of rs rfl
      obtain ⟨a, us, ev, rx, ha⟩ := lookL_ok S r e1
      have hl : us.length < sizeLine := by
        rw [rx.length]
        exact Nat.lt_of_lt_of_le (Nat.lt_of_not_le (of_decide_eq_false hn.2)) (by decide)
      exact ⟨a, us, u, ev, eu, ha, hl, k g _ _ (putL_ok (xs := xs) S r ev ha e2 (rx.append ⟨u, [], rfl, ru.r hn.1, rfl⟩)) (Gh.le.refl g) rfl⟩
  · cases e⟩
def opExt : OpM := fun ro M d ds => match ds with
  | [y] => (lookL ro M d).bind fun xs => (lookL ro M y).bind fun ys => if most < xs.length + ys.length then none else (putL ro M d (xs ++ ys)).map fun r => (.non, r.1, r.2)
  | _ => none
theorem ok_ext : BmOk K "list" tyL opExt rExtend := ⟨fun g s H ro M d v S r e => tyL_ok S r e, fun g s H ro M d v ds vs z ro' M' Q S r rs e k => by
  unfold opExt at e
  split at e
  · rename_i y
    obtain ⟨xs, e1, e⟩ := bind_some e
    obtain ⟨ys, e3, e⟩ := bind_some e
    split at e
    · cases e
    · rename_i hn
      obtain ⟨q, e2, e⟩ := map_some' e
      cases e
      obtain ⟨u, eu, ru⟩ := one_of rs rfl
      obtain ⟨a, us, ev, rx, ha⟩ := lookL_ok S r e1
      obtain ⟨b, ws, ew, ry, hb⟩ := lookL_ok S ru e3
      subst ew
      exact ⟨a, b, us, ws, ev, eu, ha, hb, most_le (by rw [rx.length, ry.length]; omega), k g _ _ (putL_ok (xs := xs) S r ev ha e2 (rx.append ry)) (Gh.le.refl g) rfl⟩
  · cases e⟩
def opClear : OpM := fun ro M d ds => match ds with
  | [] => (lookL ro M d).bind fun _ => (putL ro M d []).map fun r => (.non, r.1, r.2)
  | _ => none
theorem ok_clear : BmOk K "list" tyL opClear rClear := ⟨fun g s H ro M d v S r e => tyL_ok S r e, fun g s H ro M d v ds vs z ro' M' Q S r rs e k => by
  unfold opClear at e
  split at e
  · obtain ⟨xs, e1, e⟩ := bind_some e
    obtain ⟨q, e2, e⟩ := map_some' e
    cases e
    obtain ⟨a, us, ev, rx, ha⟩ := lookL_ok S r e1
    have er : vs = [] := rs
    exact ⟨a, us, ev, er, ha, k g _ _ (putL_ok (xs := xs) S r ev ha e2 (us := []) rfl) (Gh.le.refl g) rfl⟩
  · cases e⟩
/-! ### o[i] = v, lists -/
def setL : Op3 := fun ro M o i v => match i with
  | .int j => (lookL ro M o).bind fun xs => (ixN xs.length j).bind fun n => putL ro M o (xs.set n v)
  | _ => none
theorem ok_setL : UpdOk K setL rSetL := fun g s H ro M o i z vo vi vz ro' M' Q S ro' ri rz e k => by
  unfold setL at e
  split at e
  · rename_i j
    obtain ⟨xs, e1, e⟩ := bind_some e
    obtain ⟨n, e2, e⟩ := bind_some e
    obtain ⟨a, us, ev, rx, ha⟩ := lookL_ok S ro' e1
    exact ⟨a, us, j, n, ev, ri, ha, by rw [rx.length]; exact e2, k g _ (putL_ok (xs := xs) S ro' ev ha e (rx.set n rz)) (Gh.le.refl g)⟩
  · cases e
/-! ### dicts -/
def keysK : List D → Option (List Key)
  | [] => some []
  | d :: r => (keyK d).bind fun k => (keysK r).map fun q => k :: q
def keyT : D → Option (List Key)
  | .tup l => keysK l
  | _ => none
theorem keyK_ok {d : D} {v : V} {k : Key} (r : Rep K g.Z g.io d v) (e : keyK d = some k) : v = kV k := by
  cases d with
  | int i => cases e; exact r
  | str x => cases e; exact r
  | _ => cases e
theorem keysK_ok : ∀ {ds : List D} {vs : List V} {ks : List Key}, Reps K g.Z g.io ds vs → keysK ds = some ks → vs = ks.map kV
  | [], vs, ks, r, e => by cases e; exact r
  | d :: ds, vs, ks, r, e => by
    unfold keysK at e
    obtain ⟨k, e1, e⟩ := bind_some e
    obtain ⟨q, e2, e⟩ := map_some' e
    subst e
    obtain ⟨v, w, ev, r1, r2⟩ := r
    rw [ev, List.map_cons, keyK_ok r1 e1, keysK_ok r2 e2]
section
variable {κ : Type} [DecidableEq κ]
theorem P2.getV {R : D → V → Prop} {k : κ} : ∀ {a : List (κ × D)} {b : List (κ × V)}, P2 R a b → (∀ d, getD a k = some d → ∃ v, valV b k = some v ∧ R d v) ∧ (getD a k = none → valV b k = none)
  | _, _, .nil => ⟨fun d h => (by cases h), fun _ => rfl⟩
  | _, _, @P2.cons _ _ _ _ k' x y l1 l2 h t => by
    obtain ⟨i1, i2⟩ := P2.getV (k := k) t
    by_cases e : k' = k
    · have e1 : getD ((k', x) :: l1) k = some x := by simp [getD, e]
      rw [e1, valV_pos (p := (k', y)) e]
      exact ⟨fun d hd => by cases hd; exact ⟨y, rfl, h⟩, fun hd => by cases hd⟩
    · have e1 : getD ((k', x) :: l1) k = getD l1 k := by simp [getD, e]
      rw [e1, valV_neg (p := (k', y)) e]
      exact ⟨i1, i2⟩
theorem P2.any {R : D → V → Prop} {k : κ} : ∀ {a : List (κ × D)} {b : List (κ × V)}, P2 R a b → (a.any fun kv => decide (kv.1 = k)) = b.any fun kv => decide (kv.1 = k)
  | _, _, .nil => rfl
  | _, _, .cons h t => by rw [List.any_cons, List.any_cons, P2.any t]
theorem P2.mapIf {R : D → V → Prop} {k : κ} {d : D} {v : V} (hr : R d v) : ∀ {a : List (κ × D)} {b : List (κ × V)}, P2 R a b → P2 R (a.map fun kv => if kv.1 = k then (kv.1, d) else kv) (b.map fun kv => if kv.1 = k then (kv.1, v) else kv)
  | _, _, .nil => .nil
  | _, _, @P2.cons _ _ _ _ k' x y l1 l2 h t => by
    rw [List.map_cons, List.map_cons]
    by_cases e : k' = k
    · rw [if_pos e, if_pos e]; exact .cons hr (P2.mapIf hr t)
    · rw [if_neg e, if_neg e]; exact .cons h (P2.mapIf hr t)
theorem P2.snoc {α β γ : Type} {R : α → β → Prop} {k : γ} {d : α} {v : β} (hr : R d v) : ∀ {a : List (γ × α)} {b : List (γ × β)}, P2 R a b → P2 R (a ++ [(k, d)]) (b ++ [(k, v)])
  | _, _, .nil => .cons hr .nil
  | _, _, .cons h t => .cons h (P2.snoc hr t)
theorem P2.setV {R : D → V → Prop} {k : κ} {d : D} {v : V} (hr : R d v) {a : List (κ × D)} {b : List (κ × V)} (h : P2 R a b) : P2 R (setD a k d) (putK b k v) := by
  unfold setD putK
  rw [h.any (k := k)]
  split
  · exact h.mapIf hr
  · exact h.snoc hr
end
/-- what a dict's cell gives for a key: (there, or not) -/
def dictGet (M : Ms) (a b : D) : Option (Option D) := match a with
  | .ref k => match M[k]? with
    | some (.dK kvs) => (keyK b).map fun q => getD kvs q
    | some (.dT kvs) => (keyT b).map fun q => getD kvs q
    | _ => none
  | _ => none
theorem dictGet_ok (S : SR K g s H ro M) {a b : D} {x y : V} {o : Option D} (r1 : RepO K g s a x) (r2 : RepO K g s b y) (e : dictGet M a b = some o) :
    ∃ p w, x = .ref p ∧ DGet H p y w ∧ (∀ d, o = some d → ∃ v, w = some v ∧ Rep K g.Z g.io d v) ∧ (o = none → w = none) := by
  unfold dictGet at e
  split at e
  · rename_i k
    obtain ⟨p, ex, ep⟩ := r1
    split at e
    · rename_i kvs ek
      obtain ⟨q, e1, e⟩ := map_some' e
      obtain ⟨us, h1, h2⟩ := S.hr.cell k _ p ek ep
      have ry : Rep K g.Z g.io b y := r2.r (by cases b <;> first | rfl | cases e1)
      have ey := keyK_ok ry e1
      subst ey; subst e
      obtain ⟨i1, i2⟩ := h2.getV (k := q)
      exact ⟨p, valV us q, ex, DGet.k h1, i1, i2⟩
    · rename_i kvs ek
      obtain ⟨q, e1, eo⟩ := map_some' e
      obtain ⟨us, h1, h2⟩ := S.hr.cell k _ p ek ep
      clear e
      cases b with
      | tup l =>
        obtain ⟨c, vs, ey, t, rs⟩ := r2
        have ev := keysK_ok rs e1
        subst ev; subst ey; subst eo
        obtain ⟨i1, i2⟩ := h2.getV (k := q)
        exact ⟨p, valV us q, ex, DGet.t h1 (S.hr.zh _ _ t), i1, i2⟩
      | _ => cases e1
    · cases e
  · cases e
def opDIx : Op2 := fun ro M a b => (dictGet M a b).bind id
theorem ok_dIx : BinOk K opDIx (fun x y H Q => ∃ a v, x = .ref a ∧ DGet H a y (some v) ∧ Q v H) := fun g s H ro M d1 d2 d v1 v2 Q S r1 r2 e k => by
  unfold opDIx at e
  obtain ⟨o, e1, e⟩ := bind_some e
  have e' : o = some d := e
  obtain ⟨p, w, ex, hd, h1, _⟩ := dictGet_ok S r1 r2 e1
  obtain ⟨v, ew, rv⟩ := h1 d e'
  subst ew
  exact ⟨p, v, ex, hd, k g v H S (Gh.le.refl g) rv.o⟩
theorem je_dIx {o i : Expr} {eo ei : E} {pos : Pos} (hu : X.A.units + 1 < cLine) (ho : PE X o (tOf X.K eo)) (hi : PE X i (tOf X.K ei)) (hs : NoSl i) : PE X (.Subscript o i pos) (tOf X.K (.bin opDIx eo ei)) :=
  pe_imp (pe_dget hu ho hi hs) fun _ _ _ h => tOp_of (r := fun x y H Q => ∃ a v, x = .ref a ∧ DGet H a y (some v) ∧ Q v H) ok_dIx h
/-- k in d: the key first -/
def opDIn : Op2 := fun ro M b a => (dictGet M a b).map fun o => .bl o.isSome
def opDNotIn : Op2 := fun ro M b a => (dictGet M a b).map fun o => .bl (!o.isSome)
theorem ok_dIn : BinOk K opDIn (fun y x H Q => ∃ a o, x = .ref a ∧ DGet H a y o ∧ Q (.bl o.isSome) H) := fun g s H ro M d1 d2 d v1 v2 Q S r1 r2 e k => by
  unfold opDIn at e
  obtain ⟨o, e1, e⟩ := map_some' e
  subst e
  obtain ⟨p, w, ex, hd, h1, h2⟩ := dictGet_ok S r2 r1 e1
  refine ⟨p, w, ex, hd, ?_⟩
  have ew : w.isSome = o.isSome := by
    cases o with
    | none => rw [h2 rfl]; rfl
    | some d => obtain ⟨v, e, _⟩ := h1 d rfl; rw [e]; rfl
  rw [ew]
  exact k g _ H S (Gh.le.refl g) rfl
theorem ok_dNotIn : BinOk K opDNotIn (fun y x H Q => ∃ a o, x = .ref a ∧ DGet H a y o ∧ Q (.bl (!o.isSome)) H) := fun g s H ro M d1 d2 d v1 v2 Q S r1 r2 e k => by
  unfold opDNotIn at e
  obtain ⟨o, e1, e⟩ := map_some' e
  subst e
  obtain ⟨p, w, ex, hd, h1, h2⟩ := dictGet_ok S r2 r1 e1
  refine ⟨p, w, ex, hd, ?_⟩
  have ew : w.isSome = o.isSome := by
    cases o with
    | none => rw [h2 rfl]; rfl
    | some d => obtain ⟨v, e, _⟩ := h1 d rfl; rw [e]; rfl
  rw [ew]
  exact k g _ H S (Gh.le.refl g) rfl
theorem je_dIn {o i : Expr} {eo ei : E} {pos : Pos} (hu : X.A.units + 1 < cLine) (hi : PE X i (tOf X.K ei)) (ho : PE X o (tOf X.K eo)) (h1 : behindInMarks .In o = false := by rfl) : PE X (.Compare i [.In] [o] pos) (tOf X.K (.bin opDIn ei eo)) :=
  pe_imp (pe_cmp (pc_din hu hi ho) h1) fun _ _ _ h => tOp_of (r := fun y x H Q => ∃ a o, x = .ref a ∧ DGet H a y o ∧ Q (.bl o.isSome) H) ok_dIn h
theorem je_dNotIn {o i : Expr} {eo ei : E} {pos : Pos} (hu : X.A.units + 1 < cLine) (hi : PE X i (tOf X.K ei)) (ho : PE X o (tOf X.K eo)) (h1 : behindInMarks .NotIn o = false := by rfl) : PE X (.Compare i [.NotIn] [o] pos) (tOf X.K (.bin opDNotIn ei eo)) :=
  pe_imp (pe_cmp (pc_dnotin hu hi ho) h1) fun _ _ _ h => tOp_of (r := fun y x H Q => ∃ a o, x = .ref a ∧ DGet H a y o ∧ Q (.bl (!o.isSome)) H) ok_dNotIn h
theorem jt_dIn {o i : Expr} {eo ei : E} {pos : Pos} (hu : X.A.units + 1 < cLine) (hi : PE X i (tOf X.K ei)) (ho : PE X o (tOf X.K eo)) (h1 : behindInMarks .In o = false := by rfl) : PT X (.Compare i [.In] [o] pos) (tOfT X.K (.bin opDIn ei eo)) :=
  pt_imp (pt_cmp (pc_din hu hi ho) h1) fun _ _ _ h => tTest_of (r := fun y x H Q => ∃ a o, x = .ref a ∧ DGet H a y o ∧ Q (.bl o.isSome) H) ok_dIn h
theorem jt_dNotIn {o i : Expr} {eo ei : E} {pos : Pos} (hu : X.A.units + 1 < cLine) (hi : PE X i (tOf X.K ei)) (ho : PE X o (tOf X.K eo)) (h1 : behindInMarks .NotIn o = false := by rfl) : PT X (.Compare i [.NotIn] [o] pos) (tOfT X.K (.bin opDNotIn ei eo)) :=
  pt_imp (pt_cmp (pc_dnotin hu hi ho) h1) fun _ _ _ h => tTest_of (r := fun y x H Q => ∃ a o, x = .ref a ∧ DGet H a y o ∧ Q (.bl (!o.isSome)) H) ok_dNotIn h
/-- {} -/
theorem je_dNewK {a : Expr} (h : PE X a tDNewK) (f : E) (hf : f = .c .non) : True := trivial
def tyDct (ro : Ro) (M : Ms) (d : D) : Bool := match d with
  | .ref k => match M[k]? with
    | some (.dK _) => true
    | some (.dT _) => true
    | _ => false
  | _ => false
theorem tyDct_ok (S : SR K g s H ro M) {d : D} {v : V} (r : RepO K g s d v) (e : tyDct ro M d = true) : ∃ a, v = .ref a ∧ IsD H a := by
  unfold tyDct at e
  split at e
  · rename_i k
    obtain ⟨a, ev, ea⟩ := r
    split at e
    · rename_i kvs ek
      obtain ⟨us, h1, _⟩ := S.hr.cell k _ a ek ea
      exact ⟨a, ev, .inl ⟨us, .inl h1⟩⟩
    · rename_i kvs ek
      obtain ⟨us, h1, _⟩ := S.hr.cell k _ a ek ea
      exact ⟨a, ev, .inr ⟨us, .inl h1⟩⟩
    · cases e
  · cases e
def opDGet2 : OpM := fun ro M d ds => match ds with
  | [k, x] => (dictGet M d k).bind fun o => match o with
    | some z => some (z, ro, M)
    | none => if isBor x then none else some (x, ro, M)
  | _ => none
theorem je_dGet2 {o e f : Expr} {eo ee ef : E} {apos cpos : Pos} (hu : X.A.units + 1 < cLine) (ho : PE X o (tOf X.K eo)) (he : PE X e (tOf X.K ee)) (hf : PE X f (tOf X.K ef)) (m : M2 X o "get" apos e f cpos) : PE X (.Call (.Attribute o "get" apos) [e, f] [] cpos) (tOf X.K (.bm tyDct opDGet2 eo [ee, ef])) :=
  pe_imp (pe_dget2 hu ho he hf m) fun s H Q ⟨g, ro, M, d', ro', M', S, ev, k⟩ => by
    unfold evalE at ev
    obtain ⟨x, e1, ev⟩ := bind_some ev
    split at ev
    · rename_i ht
      obtain ⟨y, e2, ev⟩ := bind_some ev
      obtain ⟨yd, yr, ym⟩ := y
      obtain ⟨d2, q, ro2, M2, ed, e3, e4⟩ := evalAC e2
      obtain ⟨d3, eq, e5⟩ := evalA1 e4
      subst eq; subst ed
      simp only [opDGet2] at ev
      obtain ⟨w, e6, ev⟩ := bind_some ev
      refine tOf_go S e1 fun g1 v H1 S1 l1 r1 => ?_
      obtain ⟨a, ea, hd⟩ := tyDct_ok S1 r1 ht
      refine ⟨a, ea, hd, tOf_go S1 e3 fun g2 v2 H2 S2 l2 r2 => tOf_go S2 e5 fun g3 v3 H3 S3 l3 r3 => ?_⟩
      obtain ⟨p, w', ep, hg, h1, h2⟩ := dictGet_ok S3 ((r1.le l2).le l3) (r2.le l3) e6
      rw [ea] at ep; cases ep
      refine ⟨w', hg, ?_⟩
      cases w with
      | some z0 =>
        obtain ⟨v, e7, rv⟩ := h1 z0 rfl
        cases ev
        rw [e7]
        exact k g3 v H3 S3 ((l1.trans l2).trans l3) rv.o
      | none =>
        simp only at ev
        split at ev
        · cases ev
        · rw [h2 rfl]
          cases ev
          exact k g3 v3 H3 S3 ((l1.trans l2).trans l3) r3
    · cases ev
/-- a new dict -/
def opNewK : OpM := fun ro M _ _ => some (.ref M.length, ro, M ++ [.dK []])
def opNewT : OpM := fun ro M _ _ => some (.ref M.length, ro, M ++ [.dT []])
def eNewK : E := .bm (fun _ _ _ => true) opNewK (.c .non) []
def eNewT : E := .bm (fun _ _ _ => true) opNewT (.c .non) []
theorem je_newK {pos : Pos} : PE X (.Dict [] [] pos) (tOf X.K eNewK) := pe_imp pe_dnewK fun s H Q ⟨g, ro, M, d', ro', M', S, ev, k⟩ p hp => by
  simp only [eNewK, evalE, evalA, opNewK, Option.bind_some, if_true] at ev
  cases ev
  obtain ⟨S2, l2⟩ := S.newCell (o := .dK []) (c := .dK []) hp ⟨[], rfl, .nil⟩
  exact k _ _ _ S2 l2 (show Rep X.K g.Z (g.io ++ [p]) (.ref M.length) (.ref p) from ⟨p, rfl, by rw [← S.hr.len, List.getElem?_append_right (Nat.le_refl _), Nat.sub_self]; rfl⟩)
theorem je_newT {pos : Pos} : PE X (.Dict [] [] pos) (tOf X.K eNewT) := pe_imp pe_dnewT fun s H Q ⟨g, ro, M, d', ro', M', S, ev, k⟩ p hp => by
  simp only [eNewT, evalE, evalA, opNewT, Option.bind_some, if_true] at ev
  cases ev
  obtain ⟨S2, l2⟩ := S.newCell (o := .dT []) (c := .dT []) hp ⟨[], rfl, .nil⟩
  exact k _ _ _ S2 l2 (show Rep X.K g.Z (g.io ++ [p]) (.ref M.length) (.ref p) from ⟨p, rfl, by rw [← S.hr.len, List.getElem?_append_right (Nat.le_refl _), Nat.sub_self]; rfl⟩)
/-- d[k] = v -/
def dictSet (M : Ms) (a b v : D) : Option Ms := match a with
  | .ref k => match M[k]? with
    | some (.dK kvs) => (keyK b).bind fun q => if most ≤ kvs.length then none else some (M.set k (.dK (setD kvs q v)))
    | some (.dT kvs) => (keyT b).bind fun q => if most ≤ kvs.length then none else some (M.set k (.dT (setD kvs q v)))
    | _ => none
  | _ => none
def setDict : Op3 := fun ro M o i v => (dictSet M o i v).map fun m => (ro, m)
theorem dictSet_ok (S : SR K g s H ro M) {a b z : D} {x y w : V} {M' : Ms} (r1 : RepO K g s a x) (r2 : RepO K g s b y) (r3 : Rep K g.Z g.io z w) (e : dictSet M a b z = some M') : ∃ p H', x = .ref p ∧ DPut H p y w H' ∧ SR K g s H' ro M' := by
  unfold dictSet at e
  split at e
  · rename_i k
    obtain ⟨p, ex, ep⟩ := r1
    split at e
    · rename_i kvs ek
      obtain ⟨q, e1, e⟩ := bind_some e
      split at e
      · cases e
      · rename_i hl
        cases e
        obtain ⟨us, h1, h2⟩ := S.hr.cell k _ p ek ep
        have ry : Rep K g.Z g.io b y := r2.r (by cases b <;> first | rfl | cases e1)
        have ey := keyK_ok ry e1
        subst ey
        exact ⟨p, _, ex, DPut.k h1 (by rw [h2.length]; exact Nat.lt_of_lt_of_le (Nat.lt_of_not_le hl) (by decide)), S.wrCell ep ⟨_, rfl, h2.setV r3⟩⟩
    · rename_i kvs ek
      obtain ⟨q, e1, e⟩ := bind_some e
      split at e
      · cases e
      · rename_i hl
        cases e
        obtain ⟨us, h1, h2⟩ := S.hr.cell k _ p ek ep
        cases b with
        | tup l =>
          obtain ⟨c, vs, ey, t, rs⟩ := r2
          have ev := keysK_ok rs e1
          subst ev; subst ey
          exact ⟨p, _, ex, DPut.t h1 (S.hr.zh _ _ t) (by rw [h2.length]; exact Nat.lt_of_lt_of_le (Nat.lt_of_not_le hl) (by decide)), S.wrCell ep ⟨_, rfl, h2.setV r3⟩⟩
        | _ => cases e1
    · cases e
  · cases e
theorem ok_setDict : UpdOk K setDict (fun x y z H Q => ∃ a H4, x = .ref a ∧ DPut H a y z H4 ∧ Q H4) := fun g s H ro M o i z vo vi vz ro' M' Q S r1 r2 r3 e k => by
  unfold setDict at e
  obtain ⟨m, e1, e⟩ := map_some' e
  cases e
  obtain ⟨p, H', ex, h, S2⟩ := dictSet_ok S r1 r2 r3 e1
  exact ⟨p, H', ex, h, k g H' S2 (Gh.le.refl g)⟩
/-! ### in a list or a tuple of flat things -/
def flatD : D → Bool
  | .non => true
  | .bl _ => true
  | .int _ => true
  | .str _ => true
  | _ => false
def eqF : D → D → Bool
  | .non, .non => true
  | .bl a, .bl b => a == b
  | .bl a, .int b => (if a then 1 else 0) == b
  | .int a, .bl b => a == (if b then 1 else 0)
  | .int a, .int b => a == b
  | .str a, .str b => a == b
  | _, _ => false
def opIn : Op2 := fun ro M x d => if flatD x then (look ro M d).bind fun xs => if xs.all flatD then some (.bl (xs.any fun y => eqF y x)) else none else none
def opNotIn : Op2 := fun ro M x d => if flatD x then (look ro M d).bind fun xs => if xs.all flatD then some (.bl (!xs.any fun y => eqF y x)) else none else none
theorem flat_v {d : D} {v : V} (r : Rep K g.Z g.io d v) (h : flatD d = true) : flatV v = true := by
  cases d with
  | non => have e : v = .non := r; subst e; rfl
  | bl b => have e : v = .bl b := r; subst e; rfl
  | int b => have e : v = .int b := r; subst e; rfl
  | str b => have e : v = .str b := r; subst e; rfl
  | _ => cases h
theorem eqF_v {d e : D} {v w : V} (r : Rep K g.Z g.io d v) (q : Rep K g.Z g.io e w) (h : flatD d = true) (h' : flatD e = true) : eqV v w = eqF d e := by
  cases d with
  | non => have e1 : v = .non := r; subst e1; cases e with
    | non => have e2 : w = .non := q; subst e2; rfl
    | bl b => have e2 : w = .bl b := q; subst e2; rfl
    | int b => have e2 : w = .int b := q; subst e2; rfl
    | str b => have e2 : w = .str b := q; subst e2; rfl
    | _ => cases h'
  | bl b => have e1 : v = .bl b := r; subst e1; cases e with
    | non => have e2 : w = .non := q; subst e2; rfl
    | bl b => have e2 : w = .bl b := q; subst e2; rfl
    | int b => have e2 : w = .int b := q; subst e2; rfl
    | str b => have e2 : w = .str b := q; subst e2; rfl
    | _ => cases h'
  | int b => have e1 : v = .int b := r; subst e1; cases e with
    | non => have e2 : w = .non := q; subst e2; rfl
    | bl b => have e2 : w = .bl b := q; subst e2; rfl
    | int b => have e2 : w = .int b := q; subst e2; rfl
    | str b => have e2 : w = .str b := q; subst e2; rfl
    | _ => cases h'
  | str b => have e1 : v = .str b := r; subst e1; cases e with
    | non => have e2 : w = .non := q; subst e2; rfl
    | bl b => have e2 : w = .bl b := q; subst e2; rfl
    | int b => have e2 : w = .int b := q; subst e2; rfl
    | str b => have e2 : w = .str b := q; subst e2; rfl
    | _ => cases h'
  | _ => cases h
theorem any_v {x : D} {v : V} (rx : Rep K g.Z g.io x v) (hx : flatD x = true) : ∀ {ds : List D} {vs : List V}, Reps K g.Z g.io ds vs → ds.all flatD = true → vs.all flatV = true ∧ (vs.any fun y => eqV y v) = ds.any fun y => eqF y x
  | [], vs, r, _ => by have e : vs = [] := r; subst e; exact ⟨rfl, rfl⟩
  | d :: ds, vs, ⟨u, q, e, r1, r2⟩, h => by
    rw [List.all_cons, Bool.and_eq_true] at h
    obtain ⟨i1, i2⟩ := any_v rx hx r2 h.2
    subst e
    rw [List.all_cons, List.any_cons, List.any_cons, i1, i2, flat_v r1 h.1, eqF_v r1 rx h.1 hx]
    exact ⟨rfl, rfl⟩
theorem ok_in : BinOk K opIn (rIn K false) := fun g s H ro M d1 d2 d v1 v2 Q S r1 r2 e k => by
  unfold opIn at e
  split at e
  · rename_i hx
    obtain ⟨xs, e1, e⟩ := bind_some e
    split at e
    · rename_i ha
      cases e
      have rx := r1.r (by cases d1 <;> first | rfl | cases hx)
      obtain ⟨a, vs, ev, rs, q⟩ := look_sq S r2 e1
      obtain ⟨i1, i2⟩ := any_v rx hx rs ha
      refine ⟨a, vs, ev, q, flat_v rx hx, i1, ?_⟩
      show Q (.bl (if false = true then !inV v1 vs else inV v1 vs)) H
      rw [if_neg Bool.false_ne_true]
      unfold inV
      rw [i2]
      exact k g _ H S (Gh.le.refl g) rfl
    · cases e
  · cases e
theorem ok_notIn : BinOk K opNotIn (rIn K true) := fun g s H ro M d1 d2 d v1 v2 Q S r1 r2 e k => by
  unfold opNotIn at e
  split at e
  · rename_i hx
    obtain ⟨xs, e1, e⟩ := bind_some e
    split at e
    · rename_i ha
      cases e
      have rx := r1.r (by cases d1 <;> first | rfl | cases hx)
      obtain ⟨a, vs, ev, rs, q⟩ := look_sq S r2 e1
      obtain ⟨i1, i2⟩ := any_v rx hx rs ha
      refine ⟨a, vs, ev, q, flat_v rx hx, i1, ?_⟩
      show Q (.bl (if true = true then !inV v1 vs else inV v1 vs)) H
      rw [if_pos rfl]
      unfold inV
      rw [i2]
      exact k g _ H S (Gh.le.refl g) rfl
    · cases e
  · cases e
/-- one sign in a text -/
def opInS : Op2 := fun ro M x d => match x, d with
  | .str c, .str z => if c.cps.size = 1 then some (.bl (decide ((c.cps.getD 0 0) ∈ z.cps.toList))) else none
  | _, _ => none
theorem ok_inS : BinOk K opInS (fun x y H Q => ∃ (c : Nat) (z : Str), x = .str ⟨#[c]⟩ ∧ y = .str z ∧ Q (.bl (decide (c ∈ z.cps.toList))) H) := fun g s H ro M d1 d2 d v1 v2 Q S r1 r2 e k => by
  unfold opInS at e
  split at e
  · rename_i c z
    split at e
    · rename_i h
      cases e
      refine ⟨c.cps.getD 0 0, z, ?_, r2, k g _ H S (Gh.le.refl g) rfl⟩
      have e1 : v1 = .str c := r1
      rw [e1]
      obtain ⟨cs⟩ := c
      congr 1
      have h' : cs.size = 1 := h
      congr 1
      apply Array.ext
      · simpa using h'
      · intro i h1 h2
        have hi : i = 0 := by have : i < cs.size := h1; omega
        subst hi
        simp [Array.getD, h']
    · cases e
  · cases e
/-! ### conversions -/
def opTuple : OpL := fun ro M ds => match ds with
  | [d] => (look ro M d).map fun xs => .tup xs
  | _ => none
theorem ok_tuple : BiOk K opTuple (fun xs H Q => ∃ p ys, xs = [.ref p] ∧ ((SqL K H p ys ∧ ∀ l, H l = none → Q (.ref l) (upd H l (.tup ys))) ∨ (SqT K H p ys ∧ Q (.ref p) H))) := fun g s H ro M ds d vs Q S r e k => by
  unfold opTuple at e
  split at e
  · rename_i d'
    obtain ⟨xs, e1, e⟩ := map_some' e
    subst e
    obtain ⟨v, eu, r1⟩ := one_of r rfl
    obtain ⟨a, us, ev, rs, q⟩ := look_ok S r1 e1
    subst ev
    refine ⟨a, us, eu, ?_⟩
    rcases q with ⟨⟨zs, ez⟩, q⟩ | ⟨_, q⟩
    · subst ez
      cases e1
      exact .inr ⟨q, k g _ H S (Gh.le.refl g) r1⟩
    · refine .inl ⟨q, fun l hl => ?_⟩
      obtain ⟨g2, S2, l2, q2⟩ := newTup S hl rs
      exact k g2 _ _ S2 l2 q2
  · cases e
def opList : OpL := fun ro M ds => match ds with
  | [d] => (look ro M d).map fun xs => .lst xs
  | _ => none
theorem ok_list : BiOkL K opList (fun xs H Q => ∃ p ys, xs = [.ref p] ∧ (SqL K H p ys ∨ SqT K H p ys) ∧ ∀ l, H l = none → Q (.ref l) (upd H l (.lst ys))) := fun g s H ro M ds xs vs Q S r e k => by
  unfold opList at e
  split at e
  · rename_i d'
    obtain ⟨ys, e1, e⟩ := map_some' e
    cases e
    obtain ⟨v, eu, r1⟩ := one_of r rfl
    obtain ⟨a, us, ev, rs, q⟩ := look_sq S r1 e1
    subst ev
    refine ⟨a, us, eu, q, fun l hl => ?_⟩
    obtain ⟨S2, w, n⟩ := S.fresh_own hl rs
    exact k g l us _ S2 (Gh.le.refl g) w n
  · cases e
theorem opList_isL {as : List E} : ∀ ro M r, evalE (.bi opList as) ro M = some r → ∃ xs, r.1 = .lst xs := fun ro M r ev => by
  obtain ⟨rd, rr, rm⟩ := r
  obtain ⟨ds, e1, e2⟩ := evalBi ev
  unfold opList at e2
  split at e2
  · obtain ⟨xs, e3, e2⟩ := map_some' e2
    exact ⟨xs, e2.symm⟩
  · cases e2
end
end Sim
set_option Elab.async false
set_option linter.all false
set_option maxRecDepth 100000
set_option maxHeartbeats 4000000
/-! o.m(e, .., k = v, ..); text * int, as rules of the hand layer. -/
namespace Sim
open PySem PySem.Spec PyProof.Rows L2
def tMethK (C : Addr) (m : Str) (n q : Nat) (sp : Sp) (E : XK) (ta : TE) (t tk : TA) : TE := fun σ H Q => ta σ H fun x H1 => ∃ a dx fs, x = .ref a ∧ H1 a = some (.ins C dx fs) ∧ fs.lookup m = none ∧
  t σ H1 fun vs H2 => tk σ H2 fun zs H3 => vs.length = n ∧ zs.length = q ∧ sp ((x :: vs) ++ zs) H3 Q E
section
variable {X : Cx} {CX : CXT} {k n : Nat} {f C : Addr} {fd : FuncData} {ps ks : List Str} {sp : Sp} {E : XK} {m : Str} {apos pos : Pos} {e o : Expr} {es : List Expr} {kws : List Keyword} {ta : TE} {t tk : TA}
theorem pe_methK {pl : Sem Bool} (he : PE X o ta) (c : Cls X.K C) (hm : Meth X.K C m f) (F : FnOk X.prog X.w X.K X.mg X.base CX k f fd ps sp) (hr : Room k X.A) (hb : KBn X.K fd ps (n + 1) ks (fun us ws => us ++ ws) (fun us ws => us ++ ws)) (hx : Passes CX X E) (ha : PA X (e :: es) t) (hkw : PK X kws tk)
    (hall : (backToKw pos (keywordEach kws X.env)).all (·.1.isSome) = true := by rfl) (hks : (backToKw pos (keywordEach kws X.env)).filterMap (·.1) = ks := by rfl)
    (hst : starEach (e :: es) X.env = (false, eval e X.env) :: starEach es X.env := by rfl) (hpl : ((backTo pos (starEach (e :: es) X.env)).any (·.1) || (backToKw pos (keywordEach kws X.env)).any (·.1.isNone)) = false := by rfl)
    (ht : eval (.Call (.Attribute o m apos) (e :: es) kws pos) X.env = (do
      let ov ← eval o X.env
      standAt apos.atName
      let (f, first) ← holding [ov] (getMethod ov m pl)
      callWith pos f first (backTo pos (starEach (e :: es) X.env)) (backToKw pos (keywordEach kws X.env))) := by rfl) :
    PE X (.Call (.Attribute o m apos) (e :: es) kws pos) (tMethK C m n ks.length sp E ta t tk) := by
  refine ⟨fun pins s σ H Q I h => ?_⟩
  refine PySem.W.methodCall_KW (pl := pl) (thn (he.run pins s σ H _ I h) fun u s1 ⟨x, H1, I1, rx, a, dx, fs, ex, ea, l, q⟩ => ?_) ht
  subst ex
  obtain rfl : u = Value.ref a := rx
  refine getmeth_ok I1 ea c hm l ?_
  refine PySem.W.callWith_KW (first := [.ref a]) (h₀ := X.base) I.ok.mod.kin hm.kp hall (thn (ha.run pos pins s1 σ H1 _ I1 q) fun us s2 ⟨vs, H2, I2, r, q2⟩ => ?_) hpl hst
  refine thn (hkw.run pos pins s2 σ H2 _ I2 q2) fun ws s3 ⟨zs, H3, I3, rz, l1, l2, q3⟩ => ⟨I3.kIn, ?_⟩
  rw [hks]
  exact run_fnN (us := .ref a :: us) (vs := .ref a :: vs) F hr hb hx I3 (.cons rfl r) rz (by rw [List.length_cons, l1]) l2 q3
end
/-- text * int -/
def strRep1 (x : Str) (n : Int) : Str := if n = 1 then x else ⟨(List.replicate n.toNat x.cps).foldl (· ++ ·) #[]⟩
def rMulS : R2 := fun x y H Q => ∃ (z : Str) (n : Int), x = .str z ∧ y = .int n ∧ 1 ≤ n ∧ n ≤ 1000 ∧ 1 ≤ z.length ∧ z.length ≤ 1000 ∧ Q (.str (strRep1 z n)) H
theorem rep_size (a : Array Nat) : ∀ (k : Nat) (acc : Array Nat), ((List.replicate k a).foldl (· ++ ·) acc).size = acc.size + k * a.size
  | 0, acc => by simp
  | k + 1, acc => by
    rw [List.replicate_succ, List.foldl_cons, rep_size a k (acc ++ a), Array.size_append, Nat.succ_mul]
    omega
theorem op_mulS {X : Cx} : OpR X (binaryOp .Mult) rMulS := by
  intro pins s σ H x y v u Q I rx ry h
  obtain ⟨z, n, rfl, rfl, h1, h2, h3, h4, q⟩ := h
  obtain ⟨t, rfl⟩ := rx
  obtain ⟨t', rfl⟩ := ry
  have key : z.length * n.toNat ≤ 1000000 := by
    have : n.toNat ≤ 1000 := by omega
    exact Nat.mul_le_mul h4 this
  refine P.mul_str ?_ (fun _ _ => ?_) (fun _ _ => ?_) ?_
  · rw [decide_eq_false (by omega), decide_eq_false (by omega)]; rfl
  · intro hc
    have : (2 ^ 63 - 1 : Int) / n ≥ 1000 := by
      have := Int.ediv_le_ediv (a := 1000 * n) (b := 2 ^ 63 - 1) (c := n) (by omega) (by omega)
      rw [Int.mul_ediv_cancel _ (by omega)] at this
      exact this
    omega
  · unfold Builtin.Str.tooLong
    exact decide_eq_false (by have : (1000000 : Nat) ≤ sizeLine := by decide
                              omega)
  · rw [if_neg (by omega)]
    by_cases hn : n = 1
    · subst hn
      rw [if_pos (show ((1 : Int) == 1 || z.length == 0) = true from rfl)]
      exact ⟨.str z, H, I, ⟨t, rfl⟩, by unfold strRep1 at q; rw [if_pos rfl] at q; exact q⟩
    · have e1 : (n == 1 || z.length == 0) = false := by
        rw [Bool.or_eq_false_iff]
        exact ⟨beq_eq_false_iff_ne.mpr hn, beq_eq_false_iff_ne.mpr (by omega)⟩
      rw [if_neg (by rw [e1]; exact Bool.false_ne_true)]
      unfold strRep1 at q
      rw [if_neg hn] at q
      refine ⟨?_, ⟨.str _, H, I.tok _, ⟨_, rfl⟩, q⟩⟩
      have e2 := rep_size z.cps n.toNat #[]
      have e3 : z.cps.size = z.length := rfl
      show ((List.replicate n.toNat z.cps).foldl (· ++ ·) #[]).size ≤ sizeLine
      rw [e2, e3]
      have : (1000000 : Nat) ≤ sizeLine := by decide
      have e4 : (#[] : Array Nat).size = 0 := rfl
      have e5 := Nat.mul_comm z.length n.toNat
      omega
end Sim
set_option Elab.async false
set_option linter.all false
set_option maxRecDepth 100000
set_option maxHeartbeats 4000000
/-! More forms. -/
namespace Sim
open PySem PySem.Spec PyProof.Rows L2
section
variable {K : PySem.W.Frag} {g g' : Gh} {s : L2.St} {H : Hp} {ro : Ro} {M : Ms} {X : Cx}
/-- name = value -/
theorem js_asgN {st : Stmt} {i : Nat} {e : E} (h : PS X st (tAsg (tOf X.K e) (gName i))) : PS X st (tOfS X.K (.asg (.name i) e)) := ps_imp h fun D s H ⟨g, ro, M, r, S, ev, k⟩ => by
  unfold execS at ev
  obtain ⟨x, e1, ev⟩ := bind_some ev
  obtain ⟨q, e2, ev⟩ := map_some' ev
  cases ev
  have nb := asgT_noBor e2
  unfold asgT at e2
  rw [nb] at e2
  cases e2
  exact ⟨g, ro, M, _, _, _, S, e1, fun g1 v H1 S1 l1 r1 => k g1 _ H1 (S1.setVal (r1.r nb)) l1⟩
/-- a, b = x, y -/
theorem js_par {st : Stmt} {i j : Nat} {a b : E} (h : PS X st (tPar i j (tOfA X.K [a, b]))) : PS X st (tOfS X.K (.asg (.tup [.name i, .name j]) (.tup [a, b]))) := ps_imp h fun D s H ⟨g, ro, M, r, S, ev, k⟩ => by
  unfold execS at ev
  obtain ⟨x, e1, ev⟩ := bind_some ev
  obtain ⟨q, e2, ev⟩ := map_some' ev
  unfold evalE at e1
  obtain ⟨y, e3, e1⟩ := bind_some e1
  split at e1
  · cases e1
  · rename_i hn
    rw [Bool.not_eq_true, Bool.or_eq_false_iff] at hn
    cases e1
    cases ev
    have hl := evalA_len _ e3
    obtain ⟨yd, yr, ym⟩ := y
    match yd, hl with
    | [d1, d2], _ =>
      refine ⟨g, ro, M, _, _, _, S, e3, fun g1 vs H1 S1 l1 r1 => ?_⟩
      obtain ⟨v, w, eu, q1, q2⟩ := two_of r1 rfl
      have n1 : isBor d1 = false := by have := hn.1; simp only [List.any_cons, Bool.or_eq_false_iff] at this; exact this.1
      have n2 : isBor d2 = false := by have := hn.1; simp only [List.any_cons, Bool.or_eq_false_iff] at this; exact this.2.1
      simp only [asgT, asgTs, n1, n2, Bool.false_eq_true, if_false, Option.bind_some] at e2
      cases e2
      exact ⟨v, w, eu, k g1 _ H1 ((S1.setVal (q1.r n1)).setVal (q2.r n2)) l1⟩
/-- -a -/
def opNeg : OpL := fun ro M ds => match ds with
  | [.int i] => some (.int (-i))
  | _ => none
theorem je_neg {a : Expr} {e : E} {pos : Pos} (h : PE X a (tOf X.K e)) : PE X (.UnaryOp .USub a pos) (tOf X.K (.bi opNeg [e])) := pe_imp (pe_un un_neg h) fun s H Q ⟨g, ro, M, d, ro', M', S, ev, k⟩ => by
  obtain ⟨ds, e1, e2⟩ := evalBi ev
  obtain ⟨d1, ed, e3⟩ := evalA1 e1
  subst ed
  unfold opNeg at e2
  split at e2
  · rename_i i heq
    cases heq
    cases e2
    exact tOf_go S e3 fun g1 v H1 S1 l1 r1 => ⟨i, r1, k g1 _ H1 S1 l1 rfl⟩
  · cases e2
/-- text * int -/
def opMulS : Op2 := fun ro M a b => match a, b with
  | .str z, .int n => if 1 ≤ n ∧ n ≤ 1000 ∧ 1 ≤ z.length ∧ z.length ≤ 1000 then some (.str (strRep1 z n)) else none
  | _, _ => none
theorem ok_mulS : BinOk K opMulS rMulS := fun g s H ro M d1 d2 d v1 v2 Q S r1 r2 e k => by
  unfold opMulS at e
  split at e
  · split at e
    · rename_i z n h
      cases e
      exact ⟨z, n, r1, r2, h.1, h.2.1, h.2.2.1, h.2.2.2, k g _ H S (Gh.le.refl g) rfl⟩
    · cases e
  · cases e
theorem ok_ipadd : BinOk K opAddI (ipI fun i j => i + j) := ok_addI
theorem ok_ipsub : BinOk K opSub (ipI fun i j => i - j) := ok_sub
theorem ok_inadd : BinOk K opAddI rAdd := ok_addI
theorem ok_insub : BinOk K opSub rSub := ok_sub
/-! ### never -/
def sNever : S := .ret (.c (.bor 0))
theorem js_never {st : Stmt} : PS X st (tOfS X.K sNever) := ps_imp ps_never fun D s H ⟨g, ro, M, r, S, ev, k⟩ => by
  simp only [sNever, execS, evalE, Option.bind_some, isBor, if_true] at ev
  cases ev
/-! ### a method with a keyword -/
theorem evalA_app : ∀ (as bs : List E) {ro : Ro} {M : Ms} {ds : List D} {ro' : Ro} {M' : Ms}, evalA (as ++ bs) ro M = some (ds, ro', M') → ∃ xs ys ro1 M1, ds = xs ++ ys ∧ evalA as ro M = some (xs, ro1, M1) ∧ evalA bs ro1 M1 = some (ys, ro', M')
  | [], bs, ro, M, ds, ro', M', h => ⟨[], ds, ro, M, rfl, by unfold evalA; rfl, h⟩
  | a :: as, bs, ro, M, ds, ro', M', h => by
    obtain ⟨d, r, ro1, M1, ed, e1, e2⟩ := evalAC (show evalA (a :: (as ++ bs)) ro M = some (ds, ro', M') from h)
    obtain ⟨xs, ys, ro2, M2, er, e3, e4⟩ := evalA_app as bs e2
    refine ⟨d :: xs, ys, ro2, M2, by rw [ed, er]; rfl, ?_, e4⟩
    unfold evalA
    rw [e1]
    simp [e3]
theorem reps_any : ∀ {xs ys : List D}, (xs ++ ys).any isBor = false → xs.any isBor = false ∧ ys.any isBor = false := fun h => by
  rw [List.any_append, Bool.or_eq_false_iff] at h; exact h
theorem je_methK {a : Expr} {C : Addr} {m : Str} {n q j : Nat} {f : Fn} {E' : XK} {eo : E} {es ks : List E} (en : es.length = n) (ek : ks.length = q) (ej : n + q + 1 = j) (h : PE X a (tMethK C m n q (spM X.K j f) E' (tOf X.K eo) (tOfA X.K es) (tOfA X.K ks))) : PE X a (tOf X.K (.meth C m f eo (es ++ ks))) :=
  pe_imp h fun s H Q ⟨g, ro, M, d', ro', M', S, ev, k⟩ => by
    unfold evalE at ev
    obtain ⟨y, e1, ev⟩ := bind_some ev
    obtain ⟨fs, e2, ev⟩ := bind_some ev
    split at ev
    · rename_i hm
      obtain ⟨x, e3, ev⟩ := bind_some ev
      split at ev
      · cases ev
      · rename_i hn
        obtain ⟨r, e4, ev⟩ := map_some' ev
        cases ev
        obtain ⟨xs, ys, ro1, M1, ex, e5, e6⟩ := evalA_app es ks e3
        have hn' : x.1.any isBor = false := Bool.not_eq_true _ ▸ hn
        rw [ex] at hn'
        obtain ⟨n1, n2⟩ := reps_any hn'
        refine ⟨g, ro, M, _, _, _, S, e1, fun g1 v H1 S1 l1 r1 => ?_⟩
        obtain ⟨k', a', dx, us, ed, ev, ek', ea, hH, p⟩ := insAt_ok S1 r1 e2
        refine ⟨a', dx, us, ev, hH, p.look.2 (by simpa using hm), g1, _, _, _, _, _, S1, e5, fun g2 vs H2 S2 l2 r2 => ⟨g2, _, _, _, _, _, S2, e6, fun g3 zs H3 S3 l3 r3 => ?_⟩⟩
        have rr := (r2.r n1).le l3
        have rz := r3.r n2
        have h1 := evalA_len es e5
        have h2 := evalA_len ks e6
        have rv : Rep X.K g1.Z g1.io y.1 v := r1.r (by rw [ed]; rfl)
        refine ⟨by rw [rr.length, h1, en], by rw [rz.length, h2, ek], ?_⟩
        refine spM_of S3 (ds := y.1 :: x.1) (Reps.cons ((rv.le l2).le l3) (by rw [ex]; exact rr.append rz)) (by rw [List.length_cons, ex, List.length_append, h1, h2]; omega) e4 fun g4 w H4 S4 l4 r4 => k g4 w H4 S4 (((l1.trans l2).trans l3).trans l4) r4.o
    · cases ev
theorem jk_nil : PK X [] (tOfA X.K []) := ⟨fun pos pins s σ H Q I h => pk_nil.run pos pins s σ H Q I (nilA h)⟩
theorem jk_cons {e : Expr} {kws : List Keyword} {nm : Option Str} {kpos : Pos} {ee : E} {es : List E} (ha : PE X e (tOf X.K ee)) (hr : PK X kws (tOfA X.K es)) : PK X (⟨nm, e, kpos⟩ :: kws) (tOfA X.K (ee :: es)) := ⟨fun pos pins s σ H Q I h => (pk_cons ha hr).run pos pins s σ H Q I (by
  obtain ⟨g, ro, M, d', ro', M', S, ev, k⟩ := h
  unfold evalA at ev
  obtain ⟨x, e1, ev⟩ := bind_some ev
  obtain ⟨y, e2, ev⟩ := map_some' ev
  cases ev
  exact ⟨g, ro, M, _, _, _, S, e1, fun g1 v H1 S1 l1 r1 => ⟨g1, _, _, _, _, _, S1, e2, fun g2 vs H2 S2 l2 r2 => k g2 (v :: vs) H2 S2 (l1.trans l2) ⟨v, vs, rfl, r1.le l2, r2⟩⟩⟩)⟩
end
end Sim
set_option Elab.async false
set_option linter.all false
set_option maxRecDepth 100000
set_option maxHeartbeats 4000000
/-! Dicts' comprehensions. -/
namespace Sim
open PySem PySem.Spec PyProof.Rows L2
section
variable {K : PySem.W.Frag} {g g' : Gh} {s : L2.St} {H : Hp} {ro : Ro} {M : Ms} {X : Cx}
def TmpAt (g : Gh) (H : Hp) (p : Addr) (o : HO) : Prop := H p = some o ∧ g.Z p = none ∧ p ∉ g.io ∧ g.H0 p = none ∧ g.F p = none
theorem SR.freshO (S : SR K g s H ro M) {p : Addr} {o : HO} (h : H p = none) : SR K g s (upd H p o) ro M ∧ TmpAt g (upd H p o) p o ∧ NoOwn ro s p := by
  have nf : g.F p = none := by
    cases e : g.F p with
    | none => rfl
    | some o => rw [(S.fr p o e).1] at h; cases h
  refine ⟨⟨⟨S.gr.z, S.gr.i, fun b u e n => ?_, fun b e => ?_, S.gr.new⟩, ⟨fun b u e => ?_, S.hr.len, S.hr.nd, S.hr.zi, fun k c a e1 e2 => ?_⟩, S.len, fun i x e => ?_, S.dis, fun b u e => ?_⟩, ⟨upd_same, S.hr.notZ h, S.hr.not_io h, S.gr.dom p h, nf⟩, fun i ys e e1 => ?_⟩
  · have := S.gr.keep b u e n
    rw [upd_ne (ne_of_none this h)]; exact this
  · by_cases hb : b = p
    · subst hb; exact S.gr.dom b h
    · rw [upd_ne hb] at e; exact S.gr.dom b e
  · have := S.hr.zh b u e
    rw [upd_ne (ne_of_none this h)]; exact this
  · have ha : a ≠ p := fun q => by subst q; exact S.hr.not_io h (List.mem_of_getElem? e2)
    rw [upd_ne ha]; exact S.hr.cell k c a e1 e2
  · refine (S.sl i x e).keep (Gh.le.refl g) fun q vs xs _ w _ => ?_
    have hq : q ≠ p := fun z => by subst z; rw [w.1] at h; cases h
    exact ⟨by rw [upd_ne hq]; exact w.1, w.2⟩
  · obtain ⟨h1, h2, h3⟩ := S.fr b u e
    exact ⟨by rw [upd_ne (ne_of_none h1 h)]; exact h1, h2, h3⟩
  · obtain ⟨q, us, e2, w⟩ := S.slOwn e
    rw [e1] at e2; cases e2
    rw [w.1] at h; cases h
theorem SR.wrO (S : SR K g s H ro M) {p : Addr} {o u : HO} (w : TmpAt g H p o) (n : NoOwn ro s p) : SR K g s (upd H p u) ro M ∧ TmpAt g (upd H p u) p u := by
  refine ⟨⟨⟨S.gr.z, S.gr.i, fun b u h m => ?_, fun b h => ?_, S.gr.new⟩, ⟨fun b u h => ?_, S.hr.len, S.hr.nd, S.hr.zi, fun k c a h1 h2 => ?_⟩, S.len, fun j x h => ?_, S.dis, fun b u h => ?_⟩, ⟨upd_same, w.2⟩⟩
  · rw [upd_ne (ne_of_none h w.2.2.2.1)]; exact S.gr.keep b u h m
  · by_cases hb : b = p
    · subst hb; rw [upd_same] at h; cases h
    · rw [upd_ne hb] at h; exact S.gr.dom b h
  · rw [upd_ne (ne_of_none h w.2.1)]; exact S.hr.zh b u h
  · rw [upd_ne (fun z => by subst z; exact w.2.2.1 (List.mem_of_getElem? h2))]
    exact S.hr.cell k c a h1 h2
  · refine (S.sl j x h).keep (Gh.le.refl g) fun q' vs' xs' ex w' e' => ?_
    have hq : q' ≠ p := fun z => by
      subst z; subst ex
      exact n j xs' h e'
    exact ⟨by rw [upd_ne hq]; exact w'.1, w'.2⟩
  · obtain ⟨h1, h2, h3⟩ := S.fr b u h
    exact ⟨by rw [upd_ne (ne_of_none h w.2.2.2.2)]; exact h1, h2, h3⟩
theorem SR.protO (S : SR K g s H ro M) {p : Addr} {o : HO} (w : TmpAt g H p o) (n : NoOwn ro s p) : SR K (g.prot p o) s H ro M := by
  refine ⟨⟨S.gr.z, S.gr.i, S.gr.keep, S.gr.dom, S.gr.new⟩, S.hr, S.len, fun i x e => ?_, S.dis, fun b u e => ?_⟩
  · cases x with
    | val d => exact S.sl i _ e
    | own ys =>
      obtain ⟨q, us, e1, w'⟩ := S.sl i _ e
      have hq : q ≠ p := fun z => by subst z; exact n i ys e e1
      refine ⟨q, us, e1, w'.1, w'.2.1, w'.2.2.1, w'.2.2.2.1, w'.2.2.2.2.1, ?_⟩
      show upd g.F p o q = none
      rw [upd_ne hq]; exact w'.2.2.2.2.2
  · by_cases hb : b = p
    · subst hb
      have : upd g.F b o b = some u := e
      rw [upd_same] at this; cases this
      exact ⟨w.1, w.2.1, w.2.2.1⟩
    · have e' : g.F b = some u := by rw [← upd_ne (H := g.F) (o := o) hb]; exact e
      exact S.fr b u e'
theorem SR.unprotO {g2 : Gh} {p : Addr} {o : HO} (l : (g.prot p o).le g2) (S : SR K g2 s H ro M) (w0 : g.F p = none) (w1 : g.H0 p = none) :
    SR K { g2 with F := g.F } s H ro M ∧ g.le { g2 with F := g.F } ∧ TmpAt { g2 with F := g.F } H p o ∧ NoOwn ro s p := by
  have hf : g2.F p = some o := by rw [l.f]; exact upd_same
  obtain ⟨h1, h2, h3⟩ := S.fr p _ hf
  have back : ∀ b, g2.F b = none → g.F b = none := fun b e => by
    rw [l.f] at e
    by_cases hb : b = p
    · subst hb; exact w0
    · have : upd g.F p o b = none := e
      rw [upd_ne hb] at this; exact this
  have h0' : g2.H0 = g.H0 := l.h0
  refine ⟨⟨⟨S.gr.z, S.gr.i, S.gr.keep, S.gr.dom, S.gr.new⟩, S.hr, S.len, fun i x e => ?_, S.dis, fun b u e => ?_⟩, ⟨l.z0, l.i0, l.h0, rfl, l.z, l.i⟩, ⟨h1, h2, h3, ?_, w0⟩, fun i ys e e1 => ?_⟩
  · cases x with
    | val d => exact S.sl i _ e
    | own ys =>
      obtain ⟨q, us, e1, w'⟩ := S.sl i _ e
      exact ⟨q, us, e1, w'.1, w'.2.1, w'.2.2.1, w'.2.2.2.1, w'.2.2.2.2.1, back q w'.2.2.2.2.2⟩
  · have e' : g.F b = some u := e
    refine S.fr b u ?_
    rw [l.f]
    show upd g.F p o b = some u
    rw [upd_ne (ne_of_none e' w0)]; exact e'
  · show g2.H0 p = none
    rw [h0']; exact w1
  · obtain ⟨q, us, e2, w'⟩ := S.sl i _ e
    rw [e1] at e2; cases e2
    have := w'.2.2.2.2.2
    rw [hf] at this; cases this
theorem SR.cellO (S : SR K g s H ro M) {p : Addr} {o : HO} {c : Cell} (w : TmpAt g H p o) (n : NoOwn ro s p) (hc : CellAt K g.Z g.io (some o) c) : SR K { g with io := g.io ++ [p] } s H ro (M ++ [c]) ∧ g.le { g with io := g.io ++ [p] } := by
  have l : g.le { g with io := g.io ++ [p] } := ⟨rfl, rfl, rfl, rfl, Same.refl _, ⟨[p], rfl⟩⟩
  have hi := w.2.2.1
  refine ⟨⟨⟨S.gr.z, ?_, S.gr.keep, S.gr.dom, S.gr.new⟩, ⟨S.hr.zh, by simp [S.hr.len], ?_, fun a m => ?_, fun k x a e1 e2 => ?_⟩, S.len, fun i x e => ?_, S.dis, fun b u e => ?_⟩, l⟩
  · obtain ⟨nu, e, f⟩ := S.gr.i
    refine ⟨nu ++ [p], by rw [← List.append_assoc, ← e], fun a m => ?_⟩
    rcases List.mem_append.mp m with m | m
    · exact f a m
    · rw [List.mem_singleton.mp m]; exact w.2.2.2.1
  · rw [List.nodup_append]
    refine ⟨S.hr.nd, by simp, fun a m b m' q => ?_⟩
    rw [List.mem_singleton.mp m'] at q; subst q; exact hi m
  · rcases List.mem_append.mp m with m | m
    · exact S.hr.zi a m
    · rw [List.mem_singleton.mp m]; exact w.2.1
  · by_cases hk : k < M.length
    · rw [List.getElem?_append_left hk] at e1
      have e2' : g.io[k]? = some a := by
        rw [List.getElem?_append_left (by rw [S.hr.len]; exact hk)] at e2; exact e2
      exact (S.hr.cell k x a e1 e2').mono l.z l.i
    · have hl := (List.getElem?_eq_some_iff.mp e1).1
      rw [List.length_append, List.length_singleton] at hl
      have hk' : k = M.length := by omega
      subst hk'
      rw [List.getElem?_append_right (Nat.le_refl _), Nat.sub_self] at e1
      have e2' : (g.io ++ [p])[M.length]? = some a := e2
      rw [← S.hr.len, List.getElem?_append_right (Nat.le_refl _), Nat.sub_self] at e2'
      cases e1; cases e2'
      rw [w.1]; exact hc.mono l.z l.i
  · cases x with
    | val d => obtain ⟨v, e1, r⟩ := S.sl i _ e; exact ⟨v, e1, r.le l⟩
    | own ys =>
      obtain ⟨q, us, e1, w'⟩ := S.sl i _ e
      have hq : q ≠ p := fun z => by subst z; exact n i ys e e1
      refine ⟨q, us, e1, w'.le l w'.1 w'.2.2.1 fun m => ?_⟩
      rcases List.mem_append.mp m with m | m
      · exact w'.2.2.2.1 m
      · exact hq (List.mem_singleton.mp m)
  · obtain ⟨h1, h2, h3⟩ := S.fr b u e
    have hb : b ≠ p := ne_of_none e w.2.2.2.2
    refine ⟨h1, h2, fun m => ?_⟩
    rcases List.mem_append.mp m with m | m
    · exact h3 m
    · exact hb (List.mem_singleton.mp m)
structure DW (K : PySem.W.Frag) (vs : List Nat) (g0 : Gh) (s : L2.St) (ds : List D) (us : List V) (Dl : Addr) (g : Gh) (H : Hp) (ro : Ro) (M : Ms) (acc : List (Key × D)) (va : List (Key × V)) : Prop where
  sr : SR K g s H ro M
  le : g0.le g
  us : RepsO K g s ds us
  tmp : TmpAt g H Dl (.dK va)
  rp : P2 (Rep K g.Z g.io) acc va
  no : NoOwn ro s Dl
  wp : ∀ (i : Nat) (x : Sl), ro[i]? = some (some x) → i ∉ vs
theorem DW.next {g0 g g2 : Gh} {sw s2 : L2.St} {ds : List D} {acc : List (Key × D)} {us : List V} {va : List (Key × V)} {Dl : Addr} {H2 : Hp} {ro2 : Ro} {M2 : Ms} {vs : List Nat} (c : DW K vs g0 sw ds us Dl g H ro M acc va) (l : (g.prot Dl (.dK va)).le g2) (S : SR K g2 s2 H2 ro2 M2) (hs : wipe s2 vs = sw) :
    ∃ g3, DW K vs g0 sw ds us Dl g3 H2 (wipeR ro2 vs) M2 acc va ∧ g3.Z = g2.Z ∧ g3.io = g2.io := by
  obtain ⟨S3, l3, w3, n3⟩ := S.unprotO l c.tmp.2.2.2.2 c.tmp.2.2.2.1
  have S4 := S3.wipe vs
  rw [hs] at S4
  exact ⟨_, ⟨S4, c.le.trans l3, c.us.le l3, w3, c.rp.mono fun _ _ r => Rep.mono l.z l.i r, fun i ys e e1 => by
    obtain ⟨h1, h2⟩ := wipeR_some e
    refine n3 i ys h1 ?_
    rw [← hs, wipe_out h2] at e1; exact e1, fun i x e => (wipeR_some e).2⟩, rfl, rfl⟩
theorem dcGo_run {src : Src} {all : List D} {tg : T} {test key val : E} {vs : List Nat} {g0 : Gh} {ds : List D} {us : List V} {Dl : Addr} {J : It} {fin : List (Key × D) × Ro × Ms} {sw : L2.St} (hw : ∀ s', s'.length = sw.length → (∀ i, i ∉ tg.slots → s'[i]? = sw[i]?) → wipe s' vs = sw)
    (hj : JOk K src ds us all J) (Fin : Hp → Prop) {H1 : Hp} {ro1 : Ro} {M1 : Ms} {acc1 : List (Key × D)} {va1 : List (Key × V)} {g1 : Gh}
    (hfin : ∀ g H va, DW K vs g0 sw ds us Dl g H fin.2.1 fin.2.2 fin.1 va → Fin H) (c1 : DW K vs g0 sw ds us Dl g1 H1 ro1 M1 acc1 va1) (e1 : dcGo src ds all tg (evalE test) (evalE key) (evalE val) vs all acc1 ro1 M1 = some fin) :
    ∃ W : Nat → Nat → Hp → Prop, (∃ m, W 0 m H1) ∧ ∀ i m H, W i m H → (J.stop i H ∧ Fin H) ∨ (J.go i H ∧ ∃ Nx : Hp → Prop, (∀ H', Nx H' → ∃ m', m' < m ∧ W (i + 1) m' H') ∧ ∀ x H', J.yld i H x H' → gOf K tg x sw H' fun s2 H2 => wipe s2 vs = sw ∧ tOfT K test s2 H2 fun b H3 =>
      if b = true then tOf K key s2 H3 fun y H4 => tOf K val s2 H4 fun z H5 => ∃ kvs k, y = kV k ∧ H5 Dl = some (.dK kvs) ∧ kvs.length < sizeLine ∧ Nx (upd H5 Dl (.dK (putK kvs k z))) else Nx H3) := by
  refine ⟨fun i m H => i ≤ all.length ∧ m = all.length - i ∧ ∃ g ro M acc va, DW K vs g0 sw ds us Dl g H ro M acc va ∧ dcGo src ds all tg (evalE test) (evalE key) (evalE val) vs (all.drop i) acc ro M = some fin, ⟨all.length, Nat.zero_le _, rfl, g1, ro1, M1, acc1, va1, c1, e1⟩, ?_⟩
  rintro i m H ⟨hi, rfl, g, ro, M, acc, va, c, ev⟩
  by_cases hlt : i < all.length
  · rw [List.drop_eq_getElem_cons hlt] at ev
    unfold dcGo at ev
    split at ev
    · rename_i hok
      obtain ⟨r1, ea, ev⟩ := bind_some ev
      obtain ⟨t, et, ev⟩ := bind_some ev
      have P := c.sr.protO c.tmp c.no
      have up : RepsO K (g.prot Dl (.dK va)) sw ds us := c.us.prot
      obtain ⟨hgo, hy⟩ := (hj _ sw H ro M P up hok i).1 _ (List.getElem?_eq_getElem hlt)
      refine .inr ⟨hgo, fun H' => i + 1 ≤ all.length ∧ ∃ g ro M acc va, DW K vs g0 sw ds us Dl g H' ro M acc va ∧ dcGo src ds all tg (evalE test) (evalE key) (evalE val) vs (all.drop (i + 1)) acc ro M = some fin, fun H' w => ⟨_, by omega, w.1, rfl, w.2⟩, fun x H' y => ?_⟩
      obtain ⟨g2, S2, l2, rx⟩ := hy x H' y
      refine ⟨g2, ro, M, _, r1, S2, rx, ea, fun s2 S3 hl hs => ⟨hw s2 hl hs, ?_⟩⟩
      obtain ⟨td, tr, tm⟩ := t
      split at ev
      · rename_i r2 M2 e0
        cases e0
        obtain ⟨q, eq, ev⟩ := bind_some ev
        obtain ⟨z, ez, ev⟩ := bind_some ev
        obtain ⟨k, ek, ev⟩ := bind_some ev
        refine ⟨g2, r1, M, true, _, _, S3, et, fun g3 H3 S4 l3 => iteT ?_⟩
        split at ev
        · cases ev
        · rename_i hn
          rw [Bool.not_eq_true, Bool.or_eq_false_iff] at hn
          refine ⟨g3, _, _, q.1, _, _, S4, eq, fun g4 y H4 S5 l4 ry => ⟨g4, _, _, z.1, _, _, S5, ez, fun g5 w H5 S6 l5 rz => ?_⟩⟩
          have ry' : Rep K g4.Z g4.io q.1 y := ry.r (by
            have : ∀ d : D, keyK d = some k → isBor d = false := fun d h => by cases d <;> first | rfl | cases h
            exact this _ ek)
          have ey : y = kV k := by
            have : ∀ (d : D) (v : V), Rep K g4.Z g4.io d v → keyK d = some k → v = kV k := fun d v r h => by
              cases d with
              | int i => cases h; exact r
              | str x => cases h; exact r
              | _ => cases h
            exact this _ _ ry' ek
          obtain ⟨g6, c6, z6, i6⟩ := c.next (((l2.trans l3).trans l4).trans l5) S6 (hw s2 hl hs)
          have rz' : Rep K g6.Z g6.io z.1 w := by rw [z6, i6]; exact rz.r hn.1
          obtain ⟨S7, t7⟩ := c6.sr.wrO (u := .dK (putK va k w)) c6.tmp c6.no
          refine ⟨va, k, ey, c6.tmp.1, ?_, by omega, g6, _, _, _, _, ⟨S7, c6.le, c6.us, t7, c6.rp.setV rz', c6.no, c6.wp⟩, ev⟩
          rw [c6.rp.length]
          exact Nat.lt_of_le_of_lt (Nat.le_of_not_lt (of_decide_eq_false hn.2)) (by decide)
      · rename_i r2 M2 e0
        cases e0
        refine ⟨g2, r1, M, false, _, _, S3, et, fun g3 H3 S4 l3 => iteF ?_⟩
        obtain ⟨g5, c5, z5, i5⟩ := c.next (l2.trans l3) S4 (hw s2 hl hs)
        exact ⟨by omega, g5, _, _, _, _, c5, ev⟩
      · cases ev
    · cases ev
  · have hie : i = all.length := by omega
    subst hie
    rw [List.drop_length] at ev
    unfold dcGo at ev
    split at ev
    · rename_i hok
      cases ev
      exact .inl ⟨(hj g sw H ro M c.sr c.us hok _).2 (Nat.le_refl _), hfin g H va c⟩
    · cases ev
theorem je_dcomp {kx vx tg iter : Expr} {ifs : List Expr} {scope : Scope} {own : List (Str × Nat)} {pos : Pos} {src : Src} {as : List E} {t : T} {test e f : E} (hc : X.calm = true) (hN : X.N.Nodup) (hi : PI X tg iter (tOfI X.K src as)) (ok : BlkOk X.N X.env.scope scope own)
    (hg : ∀ (s : Shared) (H : Hp) (C : Addr) (cl : List (Str × Addr)) (fp : List Addr), PG (X.blk s H scope (compEnvC scope cl C X.env) fp) tg (gOf X.K t)) (ht : ∀ (s : Shared) (H : Hp) (C : Addr) (cl : List (Str × Addr)) (fp : List Addr), PTs (X.blk s H scope (compEnvC scope cl C X.env) fp) ifs (tOfT X.K test))
    (hk : ∀ (s : Shared) (H : Hp) (C : Addr) (cl : List (Str × Addr)) (fp : List Addr), PE (X.blk s H scope (compEnvC scope cl C X.env) fp) kx (tOf X.K e)) (he : ∀ (s : Shared) (H : Hp) (C : Addr) (cl : List (Str × Addr)) (fp : List Addr), PE (X.blk s H scope (compEnvC scope cl C X.env) fp) vx (tOf X.K f)) (hs : ∀ x, foldedSetIterable iter X.env x = pure x := by intro _; rfl) :
    PE X (.DictComp kx vx [⟨tg, iter, ifs, 0⟩] scope pos) (tOf X.K (.dcomp src as t test e f (own.map (·.2)))) :=
  pe_imp (pe_dc hc hN hi ok hg ht hk he hs) fun s H Q ⟨g, ro, M, xs, ro', M', S, ev, k⟩ => by
    unfold evalE at ev
    obtain ⟨x, e1, ev⟩ := bind_some ev
    obtain ⟨all, e2, ev⟩ := bind_some ev
    split at ev
    · rename_i hb
      have hb' := Bool.and_eq_true_iff.mp hb
      obtain ⟨q, e3, ev⟩ := map_some' ev
      cases ev
      refine ⟨g, ro, M, _, _, _, all, S, e1, e2, fun g1 us H1 J S1 l1 r1 hj Dl hD => ?_⟩
      obtain ⟨S2, w2, n2⟩ := S1.freshO (o := .dK []) hD
      have hw : ∀ s', s'.length = (wipe s (own.map (·.2))).length → (∀ i, i ∉ t.slots → s'[i]? = (wipe s (own.map (·.2)))[i]?) → wipe s' (own.map (·.2)) = wipe s (own.map (·.2)) := fun s' hl hs => by
        refine wipe_ext (by rw [hl, wipe_length]) fun i hi => ?_
        rw [hs i fun m => hi (by have := List.all_eq_true.mp hb'.1 i m; simpa using this), wipe_out hi]
      exact dcGo_run (g0 := g1) hw hj (fun H => Q (.ref Dl) H) (fun g2 H2 va c => by
          have S3 : SR X.K g2 s H2 q.2.1 q.2.2 := c.sr.weak (by rw [← c.sr.len, wipe_length]) fun i y e => ⟨e, (wipe_out (c.wp i y e)).symm⟩
          have n3 : NoOwn q.2.1 s Dl := fun i ys e e' => c.no i ys e (by rw [wipe_out (c.wp i _ e)]; exact e')
          obtain ⟨S4, l4⟩ := S3.cellO c.tmp n3 (c := .dK q.1) ⟨va, rfl, c.rp⟩
          exact k _ _ _ S4 ((l1.trans c.le).trans l4) (show Rep X.K g2.Z (g2.io ++ [Dl]) (.ref q.2.2.length) (.ref Dl) from ⟨Dl, rfl, by rw [← S3.hr.len, List.getElem?_append_right (Nat.le_refl _), Nat.sub_self]; rfl⟩))
        ⟨S2.wipe _, Gh.le.refl g1, bors_wipe hb'.2 r1, w2, .nil, fun i ys e e' => by
          obtain ⟨h1, h2⟩ := wipeR_some e
          rw [wipe_out h2] at e'
          exact n2 i ys h1 e', fun i y e => (wipeR_some e).2⟩ e3
    · cases ev
end
end Sim
set_option Elab.async false
set_option linter.all false
set_option maxRecDepth 100000
set_option maxHeartbeats 4000000
/-! Several values at once; comprehensions of two clauses. -/
namespace Sim
open PySem PySem.Spec PyProof.Rows L2
section
variable {K : PySem.W.Frag} {g g' : Gh} {s : L2.St} {H : Hp} {ro : Ro} {M : Ms} {X : Cx}
def mixTA (K : PySem.W.Frag) : List (Bool × E) → TA
  | [] => tNil
  | (true, e) :: r => tCons (tOfL K e) (mixTA K r)
  | (false, e) :: r => tCons (tOf K e) (mixTA K r)
/-- values to be laid in slots: lists of one's own apart from each other -/
def SlsOk (K : PySem.W.Frag) (g : Gh) (s : L2.St) (H : Hp) (ro : Ro) : List Sl → List V → Prop
  | [], vs => vs = []
  | .val d :: r, vs => ∃ v ws, vs = v :: ws ∧ Rep K g.Z g.io d v ∧ SlsOk K g s H ro r ws
  | .own xs :: r, vs => ∃ p us ws, vs = .ref p :: ws ∧ OwnAt K g H p us xs ∧ NoOwn ro s p ∧ (∀ (n : Nat) (ys : List D) (q : Addr), r[n]? = some (.own ys) → ws[n]? = some (.ref q) → q ≠ p) ∧ SlsOk K g s H ro r ws
theorem SlsOk.len : ∀ {sl : List Sl} {vs : List V}, SlsOk K g s H ro sl vs → vs.length = sl.length
  | [], _, h => by have e : _ = [] := h; rw [e]; rfl
  | .val d :: r, _, ⟨v, ws, e, _, h⟩ => by rw [e, List.length_cons, List.length_cons, h.len]
  | .own d :: r, _, ⟨p, us, ws, e, _, _, _, h⟩ => by rw [e, List.length_cons, List.length_cons, h.len]
theorem SlsOk.unF {F : Hp} {g2 : Gh} (hb : ∀ b, g2.F b = none → F b = none) : ∀ {sl : List Sl} {vs : List V}, SlsOk K g2 s H ro sl vs → SlsOk K { g2 with F := F } s H ro sl vs
  | [], _, h => h
  | .val d :: r, _, ⟨v, ws, e, h1, h⟩ => ⟨v, ws, e, h1, h.unF hb⟩
  | .own d :: r, _, ⟨p, us, ws, e, w, n, a, h⟩ => ⟨p, us, ws, e, ⟨w.1, w.2.1, w.2.2.1, w.2.2.2.1, w.2.2.2.2.1, hb p w.2.2.2.2.2⟩, n, a, h.unF hb⟩
theorem SlsOk.ownF : ∀ {sl : List Sl} {vs : List V} {n : Nat} {ys : List D} {q : Addr}, SlsOk K g s H ro sl vs → sl[n]? = some (.own ys) → vs[n]? = some (.ref q) → g.F q = none
  | [], _, _, _, _, _, e, _ => by simp at e
  | .val d :: r, _, 0, _, _, _, e, _ => by simp at e
  | .val d :: r, _, n + 1, _, _, ⟨v, ws, ev, _, h⟩, e, e2 => by subst ev; exact h.ownF (n := n) (by simpa using e) (by simpa using e2)
  | .own d :: r, _, 0, _, _, ⟨p, us, ws, ev, w, _, _, h⟩, e, e2 => by
    subst ev
    have e3 : some (V.ref p) = some (V.ref _) := e2
    cases e3
    exact w.2.2.2.2.2
  | .own d :: r, _, n + 1, _, _, ⟨p, us, ws, ev, w, _, _, h⟩, e, e2 => by subst ev; exact h.ownF (n := n) (by simpa using e) (by simpa using e2)
theorem mix_run : ∀ (bes : List (Bool × E)) {g : Gh} {H : Hp} {ro : Ro} {M : Ms} {sl : List Sl} {ro' : Ro} {M' : Ms} {Q : List V → Hp → Prop}, SR K g s H ro M → evM bes ro M = some (sl, ro', M') →
    (∀ g' vs H', SR K g' s H' ro' M' → g.le g' → SlsOk K g' s H' ro' sl vs → Q vs H') → mixTA K bes s H Q
  | [], g, H, ro, M, sl, ro', M', Q, S, ev, k => by
    unfold evM at ev; cases ev
    exact k g [] H S (Gh.le.refl g) rfl
  | (false, e) :: r, g, H, ro, M, sl, ro', M', Q, S, ev, k => by
    unfold evM at ev
    obtain ⟨x, e1, ev⟩ := bind_some ev
    obtain ⟨y, e2, ev⟩ := bind_some ev
    obtain ⟨z, e3, ev⟩ := map_some' ev
    cases ev
    simp only [slOf] at e2
    split at e2
    · cases e2
    · rename_i hn
      cases e2
      exact ⟨g, ro, M, _, _, _, S, e1, fun g1 v H1 S1 l1 r1 => mix_run r S1 e3 fun g2 vs H2 S2 l2 r2 => k g2 (v :: vs) H2 S2 (l1.trans l2) ⟨v, vs, rfl, (r1.r (Bool.not_eq_true _ ▸ hn)).le l2, r2⟩⟩
  | (true, e) :: r, g, H, ro, M, sl, ro', M', Q, S, ev, k => by
    unfold evM at ev
    obtain ⟨x, e1, ev⟩ := bind_some ev
    obtain ⟨y, e2, ev⟩ := bind_some ev
    obtain ⟨z, e3, ev⟩ := map_some' ev
    cases ev
    obtain ⟨xd, xr, xm⟩ := x
    cases xd with
    | lst xs =>
      simp only [slOf] at e2
      cases e2
      refine ⟨g, ro, M, _, _, _, S, e1, fun g1 p us H1 S1 l1 w1 n1 => ?_⟩
      have P := S1.prot w1 n1
      refine mix_run r P e3 fun g2 vs H2 S2 l2 r2 => ?_
      have rr : Reps K g2.Z g2.io xs us := w1.2.1.mono l2.z l2.i
      obtain ⟨S3, l3, w3, n3⟩ := S2.unprot l2 w1.2.2.2.2.2 w1.2.2.2.2.1 rr
      have hf : g2.F p = some (.lst us) := by rw [l2.f]; exact upd_same
      have back : ∀ b, g2.F b = none → g1.F b = none := fun b e => by
        rw [l2.f] at e
        by_cases hb : b = p
        · subst hb; exact w1.2.2.2.2.2
        · have : upd g1.F p (.lst us) b = none := e
          rw [upd_ne hb] at this; exact this
      exact k _ _ H2 S3 (l1.trans l3) ⟨p, us, vs, rfl, w3, n3, fun n ys q h1 h2 e => (by
        subst e
        rw [r2.ownF h1 h2] at hf; cases hf), r2.unF back⟩
    | _ => simp only [slOf] at e2; cases e2
def setS : List Nat → List V → L2.St → L2.St
  | i :: is, v :: vs, s => setS is vs (s.set i (some v))
  | _, _, s => s
theorem SlsOk.set1 {i : Nat} {x : Sl} {v : V} (hx : ∀ ys, x = .own ys → ∃ p, v = .ref p) : ∀ {sl : List Sl} {vs : List V}, (∀ (n : Nat) (ys zs : List D) (q : Addr), x = .own zs → sl[n]? = some (.own ys) → vs[n]? = some (.ref q) → V.ref q ≠ v) → SlsOk K g s H ro sl vs → SlsOk K g (s.set i (some v)) H (ro.set i (some x)) sl vs
  | [], _, _, h => h
  | .val d :: r, _, a, ⟨u, ws, e, h1, h⟩ => ⟨u, ws, e, h1, SlsOk.set1 hx (fun n ys zs q e1 e2 e3 => a (n + 1) ys zs q e1 (by simpa using e2) (by subst e; simpa using e3)) h⟩
  | .own d :: r, _, a, ⟨p, us, ws, e, w, n, b, h⟩ => ⟨p, us, ws, e, w, fun j ys e1 e2 => by
      subst e
      by_cases hj : i = j
      · subst hj
        have hi : i < ro.length := by
          have := (List.getElem?_eq_some_iff.mp e1).1
          rw [List.length_set] at this; exact this
        rw [List.getElem?_set_self hi] at e1
        cases e1
        have hs : i < s.length := by
          have := (List.getElem?_eq_some_iff.mp e2).1
          rw [List.length_set] at this; exact this
        rw [List.getElem?_set_self hs] at e2
        have ev : v = .ref p := by simpa using e2
        exact a 0 d ys p rfl rfl rfl ev.symm
      · rw [List.getElem?_set_ne hj] at e1 e2
        exact n j ys e1 e2, b, SlsOk.set1 hx (fun n ys zs q e1 e2 e3 => a (n + 1) ys zs q e1 (by simpa using e2) (by subst e; simpa using e3)) h⟩
theorem setN_ok : ∀ {ix : List Nat} {sl : List Sl} {vs : List V} {s : L2.St} {ro ro' : Ro}, SR K g s H ro M → SlsOk K g s H ro sl vs → setN ix sl ro = some ro' → SR K g (setS ix vs s) H ro' M
  | [], [], vs, s, ro, ro', S, h, e => by unfold setN at e; cases e; have ev : vs = [] := h; subst ev; exact S
  | i :: is, .val d :: r, vs, s, ro, ro', S, ⟨v, ws, ev, h1, h⟩, e => by
    unfold setN at e
    subst ev
    show SR K g (setS is ws (s.set i (some v))) H ro' M
    exact setN_ok (S.setVal h1) (h.set1 (fun ys e => by cases e) (fun n ys zs q e => by cases e)) e
  | i :: is, .own xs :: r, vs, s, ro, ro', S, ⟨p, us, ws, ev, w, n, b, h⟩, e => by
    unfold setN at e
    subst ev
    show SR K g (setS is ws (s.set i (some (.ref p)))) H ro' M
    exact setN_ok (S.setOwn w n) (h.set1 (fun ys e => ⟨p, rfl⟩) (fun n ys zs q _ e2 e3 e4 => b n ys q e2 e3 (by cases e4; rfl))) e
  | [], _ :: _, _, _, _, _, _, _, e => by unfold setN at e; cases e
  | _ :: _, [], _, _, _, _, _, _, e => by unfold setN at e; cases e
theorem js_own2 {st : Stmt} {i j : Nat} {x y : Bool × E} (h : PS X st (tPar i j (mixTA X.K [x, y]))) : PS X st (tOfS X.K (.ownN [i, j] [x, y])) := ps_imp h fun D s H ⟨g, ro, M, r, S, ev, k⟩ => by
  unfold execS at ev
  obtain ⟨z, e1, ev⟩ := bind_some ev
  obtain ⟨q, e2, ev⟩ := map_some' ev
  cases ev
  refine mix_run _ S e1 fun g1 vs H1 S1 l1 r1 => ?_
  have S2 := setN_ok S1 r1 e2
  have hl := r1.len
  obtain ⟨zl, zr, zm⟩ := z
  match zl, e2, hl with
  | [a, b], e2, hl =>
    match vs, hl with
    | [v, w], _ => exact ⟨v, w, rfl, k g1 _ H1 S2 l1⟩
  | [], e2, hl => cases e2
  | [a], e2, hl => cases e2
  | a :: b :: c :: l, e2, hl => cases e2
theorem js_own3 {st : Stmt} {i j l : Nat} {x y z : Bool × E} (h : PS X st (tPar3 i j l (mixTA X.K [x, y, z]))) : PS X st (tOfS X.K (.ownN [i, j, l] [x, y, z])) := ps_imp h fun D s H ⟨g, ro, M, r, S, ev, k⟩ => by
  unfold execS at ev
  obtain ⟨z, e1, ev⟩ := bind_some ev
  obtain ⟨q, e2, ev⟩ := map_some' ev
  cases ev
  refine mix_run _ S e1 fun g1 vs H1 S1 l1 r1 => ?_
  have S2 := setN_ok S1 r1 e2
  have hl := r1.len
  obtain ⟨zl, zr, zm⟩ := z
  match zl, e2, hl with
  | [a, b, c], e2, hl =>
    match vs, hl with
    | [v, w, u], _ => exact ⟨v, w, u, rfl, k g1 _ H1 S2 l1⟩
  | [], e2, hl => cases e2
  | [a], e2, hl => cases e2
  | [a, b], e2, hl => cases e2
  | a :: b :: c :: d :: l, e2, hl => cases e2
/-- the targets of a tuple's items: names -/
def gNames : List Nat → TGs
  | [] => gNil
  | i :: is => gCons (gName i) (gNames is)
theorem gNames_run {K : PySem.W.Frag} : ∀ {ix : List Nat} {vs : List V} {s : L2.St} {H : Hp} {Q : L2.St → Hp → Prop}, vs.length = ix.length → Q (setS ix vs s) H → gNames ix vs s H Q
  | [], [], s, H, Q, _, q => ⟨rfl, q⟩
  | i :: is, v :: vs, s, H, Q, hl, q => ⟨v, vs, rfl, gNames_run (K := K) (by simpa using hl) q⟩
  | [], _ :: _, _, _, _, hl, _ => by simp at hl
  | _ :: _, [], _, _, _, hl, _ => by simp at hl
theorem setN_len : ∀ {ix : List Nat} {sl : List Sl} {ro ro' : Ro}, setN ix sl ro = some ro' → sl.length = ix.length
  | [], [], _, _, _ => rfl
  | i :: is, x :: xs, ro, ro', h => by
    unfold setN at h
    rw [List.length_cons, List.length_cons, setN_len h]
  | [], _ :: _, _, _, h => by unfold setN at h; cases h
  | _ :: _, [], _, _, h => by unfold setN at h; cases h
theorem js_ownT {st : Stmt} {ix : List Nat} {bes : List (Bool × E)} (hl : ix.length ≤ 100) (h : PS X st (tAsg (tTup (mixTA X.K bes)) (gTup X.K ix.length (gNames ix)))) : PS X st (tOfS X.K (.ownN ix bes)) := ps_imp h fun D s H ⟨g, ro, M, r, S, ev, k⟩ => by
  unfold execS at ev
  obtain ⟨z, e1, ev⟩ := bind_some ev
  obtain ⟨q, e2, ev⟩ := map_some' ev
  cases ev
  refine mix_run _ S e1 fun g1 vs H1 S1 l1 r1 => ?_
  have hv : vs.length = ix.length := r1.len.trans (setN_len e2)
  refine ⟨by rw [hv]; exact Nat.le_trans hl (by decide), fun p hp => ⟨p, vs, rfl, SqT.of upd_same, hv, gNames_run (K := X.K) hv ?_⟩⟩
  obtain ⟨S2, _, n2⟩ := S1.freshO (o := .tup vs) hp
  have r2 : SlsOk X.K g1 s (upd H1 p (.tup vs)) z.2.1 z.1 vs := by
    have key : ∀ {sl : List Sl} {us : List V}, SlsOk X.K g1 s H1 z.2.1 sl us → SlsOk X.K g1 s (upd H1 p (.tup vs)) z.2.1 sl us := by
      intro sl
      induction sl with
      | nil => intro us h; exact h
      | cons a r ih =>
        intro us h
        cases a with
        | val d => obtain ⟨v, ws, e, h1, h⟩ := h; exact ⟨v, ws, e, h1, ih h⟩
        | own d =>
          obtain ⟨c, us, ws, e, w, n, a, h⟩ := h
          have hc : c ≠ p := fun z => by subst z; rw [w.1] at hp; cases hp
          exact ⟨c, us, ws, e, ⟨by rw [upd_ne hc]; exact w.1, w.2⟩, n, a, ih h⟩
    exact key r1
  exact k g1 _ _ (setN_ok S2 r2 e2) l1
/-! ### comprehensions of two clauses -/
theorem compGo2_run {src src2 : Src} {all : List D} {tg tg2 : T} {test test2 elt : E} {args2 : List E} {vs vs2 : List Nat} {g0 : Gh} {ds : List D} {us : List V} {Dl : Addr} {J : It} {fin : List D × Ro × Ms} {sw : L2.St} (hw : ∀ s', s'.length = sw.length → (∀ i, i ∉ tg.slots → s'[i]? = sw[i]?) → wipe s' vs = sw) (hv : ∀ i ∈ vs2, i ∈ vs)
    (hj : JOk K src ds us all J) (Fin : Hp → Prop) {H1 : Hp} {ro1 : Ro} {M1 : Ms} {acc1 : List D} {va1 : List V} {g1 : Gh}
    (hfin : ∀ g H va, CW K vs g0 sw ds us Dl g H fin.2.1 fin.2.2 fin.1 va → Fin H) (c1 : CW K vs g0 sw ds us Dl g1 H1 ro1 M1 acc1 va1) (e1 : compGo2 src ds all tg (evalE test) (evalA args2) src2 tg2 (evalE test2) (evalE elt) vs vs2 all acc1 ro1 M1 = some fin) :
    ∃ W : Nat → Nat → Hp → Prop, (∃ m, W 0 m H1) ∧ ∀ i m H, W i m H → (J.stop i H ∧ Fin H) ∨ (J.go i H ∧ ∃ Nx : Hp → Prop, (∀ H', Nx H' → ∃ m', m' < m ∧ W (i + 1) m' H') ∧ ∀ x H', J.yld i H x H' → gOf K tg x sw H' fun s2 H2 => wipe s2 vs = sw ∧ tOfT K test s2 H2 fun b H3 =>
      if b = true then tOfI K src2 args2 s2 H3 fun J1 H4 => ∃ W1 : Nat → Nat → Hp → Prop, (∃ m, W1 0 m H4) ∧ ∀ j k H, W1 j k H →
        (J1.stop j H ∧ Nx H) ∨ (J1.go j H ∧ ∃ Nx1 : Hp → Prop, (∀ H', Nx1 H' → ∃ k', k' < k ∧ W1 (j + 1) k' H') ∧ ∀ x H', J1.yld j H x H' → gOf K tg2 x (wipe s2 vs2) H' fun s3 H5 => wipe s3 vs2 = wipe s2 vs2 ∧ tOfT K test2 s3 H5 fun b H6 =>
          if b = true then tOf K elt s3 H6 fun y H7 => ∃ acc, H7 Dl = some (.lst acc) ∧ acc.length < sizeLine ∧ Nx1 (upd H7 Dl (.lst (acc ++ [y]))) else Nx1 H6)
      else Nx H3) := by
  refine ⟨fun i m H => i ≤ all.length ∧ m = all.length - i ∧ ∃ g ro M acc va, CW K vs g0 sw ds us Dl g H ro M acc va ∧ compGo2 src ds all tg (evalE test) (evalA args2) src2 tg2 (evalE test2) (evalE elt) vs vs2 (all.drop i) acc ro M = some fin, ⟨all.length, Nat.zero_le _, rfl, g1, ro1, M1, acc1, va1, c1, e1⟩, ?_⟩
  rintro i m H ⟨hi, rfl, g, ro, M, acc, va, c, ev⟩
  by_cases hlt : i < all.length
  · rw [List.drop_eq_getElem_cons hlt] at ev
    unfold compGo2 at ev
    split at ev
    · rename_i hok
      obtain ⟨r1, ea, ev⟩ := bind_some ev
      obtain ⟨t, et, ev⟩ := bind_some ev
      have P := c.sr.prot c.own c.no
      have up : RepsO K (g.prot Dl (.lst va)) sw ds us := c.us.prot
      obtain ⟨hgo, hy⟩ := (hj _ sw H ro M P up hok i).1 _ (List.getElem?_eq_getElem hlt)
      refine .inr ⟨hgo, fun H' => i + 1 ≤ all.length ∧ ∃ g ro M acc va, CW K vs g0 sw ds us Dl g H' ro M acc va ∧ compGo2 src ds all tg (evalE test) (evalA args2) src2 tg2 (evalE test2) (evalE elt) vs vs2 (all.drop (i + 1)) acc ro M = some fin, fun H' w => ⟨_, by omega, w.1, rfl, w.2⟩, fun x H' y => ?_⟩
      obtain ⟨g2, S2, l2, rx⟩ := hy x H' y
      refine ⟨g2, ro, M, _, r1, S2, rx, ea, fun s2 S3 hl hs => ⟨hw s2 hl hs, ?_⟩⟩
      obtain ⟨td, tr, tm⟩ := t
      split at ev
      · rename_i r2 M2 e0
        cases e0
        obtain ⟨a, eA, ev⟩ := bind_some ev
        obtain ⟨items, eI, ev⟩ := bind_some ev
        split at ev
        · rename_i hb
          have hb' := Bool.and_eq_true_iff.mp hb
          obtain ⟨q, eq, ev⟩ := bind_some ev
          refine ⟨g2, r1, M, true, _, _, S3, et, fun g3 H3 S4 l3 => iteT ⟨g3, _, _, _, _, _, items, S4, eA, eI, fun g4 us2 H4 J1 S5 l4 ra hj1 => ?_⟩⟩
          have hsw := hw s2 hl hs
          have rr : Reps K g4.Z g4.io acc va := c.own.2.1.mono ((l2.trans l3).trans l4).z ((l2.trans l3).trans l4).i
          obtain ⟨S6, l6, w6, n6⟩ := S5.unprot ((l2.trans l3).trans l4) c.own.2.2.2.2.2 c.own.2.2.2.2.1 rr
          have hw2 : ∀ s', s'.length = (wipe s2 vs2).length → (∀ i, i ∉ tg2.slots → s'[i]? = (wipe s2 vs2)[i]?) → wipe s' vs2 = wipe s2 vs2 := fun s' hl hs => by
            refine wipe_ext (by rw [hl, wipe_length]) fun i hi => ?_
            rw [hs i fun m => hi (by have := List.all_eq_true.mp hb'.1 i m; simpa using this), wipe_out hi]
          have ra' : RepsO K { g4 with F := g.F } s2 a.1 us2 := by
            have key : ∀ {ds : List D} {us : List V}, RepsO K g4 s2 ds us → RepsO K { g4 with F := g.F } s2 ds us := by
              intro ds
              induction ds with
              | nil => intro us h; exact h
              | cons d ds ih => intro us ⟨v, r, e, h1, h2⟩; exact ⟨v, r, e, by cases d <;> exact h1, ih h2⟩
            exact key ra
          refine compGo_run (g0 := { g4 with F := g.F }) (sw := wipe s2 vs2) (vs := vs2) hw2 hj1 (fun H => i + 1 ≤ all.length ∧ ∃ g ro M acc va, CW K vs g0 sw ds us Dl g H ro M acc va ∧ compGo2 src ds all tg (evalE test) (evalA args2) src2 tg2 (evalE test2) (evalE elt) vs vs2 (all.drop (i + 1)) acc ro M = some fin) (fun g7 H7 va7 c7 => ⟨by omega, g7, _, _, _, va7, ?_, ev⟩)
            (g1 := { g4 with F := g.F }) (va1 := va) ⟨S6.wipe vs2, Gh.le.refl _, bors_wipe hb'.2 ra', w6, fun i ys e e' => by
              obtain ⟨h1, h2⟩ := wipeR_some e
              rw [wipe_out h2] at e'
              exact n6 i ys h1 e', fun i y e => (wipeR_some e).2⟩ eq
          have S8 := c7.sr.wipe vs
          have ew : wipe (wipe s2 vs2) vs = sw := by
            rw [← hsw]
            exact wipe_ext (wipe_length _ _) fun i hi => wipe_out fun m => hi (hv i m)
          rw [ew] at S8
          exact ⟨S8, (c.le.trans l6).trans c7.le, (c.us.le l6).le c7.le, c7.own, fun i ys e e' => by
            obtain ⟨h1, h2⟩ := wipeR_some e
            refine c7.no i ys h1 ?_
            rw [← ew, wipe_out h2] at e'; exact e', fun i x e => (wipeR_some e).2⟩
        · cases ev
      · rename_i r2 M2 e0
        cases e0
        refine ⟨g2, r1, M, false, _, _, S3, et, fun g3 H3 S4 l3 => iteF ?_⟩
        obtain ⟨g5, c5, z5, i5⟩ := c.next (l2.trans l3) S4 (hw s2 hl hs)
        exact ⟨by omega, g5, _, _, _, _, c5, ev⟩
      · cases ev
    · cases ev
  · have hie : i = all.length := by omega
    subst hie
    rw [List.drop_length] at ev
    unfold compGo2 at ev
    split at ev
    · rename_i hok
      cases ev
      exact .inl ⟨(hj g sw H ro M c.sr c.us hok _).2 (Nat.le_refl _), hfin g H va c⟩
    · cases ev
theorem tLc2_of {src src2 : Src} {as as2 : List E} {tg tg2 : T} {test test2 elt : E} {vs vs2 : List Nat} {Q : VK} (h : tOfL K (.comp2 src as tg test src2 as2 tg2 test2 elt vs vs2) s H Q) : tLc2 (tOfI K src as) (gOf K tg) (tOfT K test) (tOfI K src2 as2) (gOf K tg2) (tOfT K test2) (tOf K elt) vs vs2 s H Q := by
  obtain ⟨g, ro, M, xs, ro', M', S, ev, k⟩ := h
  unfold evalE at ev
  obtain ⟨x, e1, ev⟩ := bind_some ev
  obtain ⟨all, e2, ev⟩ := bind_some ev
  split at ev
  · rename_i hb
    have hb0 := Bool.and_eq_true_iff.mp hb
    have hb' := Bool.and_eq_true_iff.mp hb0.1
    have hv : ∀ i ∈ vs2, i ∈ vs := fun i m => by have := List.all_eq_true.mp hb0.2 i m; simpa using this
    obtain ⟨q, e3, ev⟩ := map_some' ev
    cases ev
    refine ⟨g, ro, M, _, _, _, all, S, e1, e2, fun g1 us H1 J S1 l1 r1 hj Dl hD => ?_⟩
    obtain ⟨S2, w2, n2⟩ := S1.fresh_own (xs := []) hD (vs := []) rfl
    have hw : ∀ s', s'.length = (wipe s vs).length → (∀ i, i ∉ tg.slots → s'[i]? = (wipe s vs)[i]?) → wipe s' vs = wipe s vs := fun s' hl hs => by
      refine wipe_ext (by rw [hl, wipe_length]) fun i hi => ?_
      rw [hs i fun m => hi (by have := List.all_eq_true.mp hb'.1 i m; simpa using this), wipe_out hi]
    exact compGo2_run (g0 := g1) hw hv hj (fun H => Q (.ref Dl) H) (fun g2 H2 va c => k g2 Dl va H2 (c.sr.weak (by rw [← c.sr.len, wipe_length]) fun i y e => ⟨e, (wipe_out (c.wp i y e)).symm⟩) (l1.trans c.le) c.own fun i ys e e' => c.no i ys e (by rw [wipe_out (c.wp i _ e)]; exact e'))
      ⟨S2.wipe vs, Gh.le.refl g1, bors_wipe hb'.2 r1, w2, fun i ys e e' => by
        obtain ⟨h1, h2⟩ := wipeR_some e
        rw [wipe_out h2] at e'
        exact n2 i ys h1 e', fun i y e => (wipeR_some e).2⟩ e3
  · cases ev
theorem comp2_isL {src src2 : Src} {as as2 : List E} {tg tg2 : T} {test test2 elt : E} {vs vs2 : List Nat} : ∀ ro M r, evalE (.comp2 src as tg test src2 as2 tg2 test2 elt vs vs2) ro M = some r → ∃ xs, r.1 = .lst xs := fun ro M r ev => by
  unfold evalE at ev
  obtain ⟨x, e1, ev⟩ := bind_some ev
  obtain ⟨all, e2, ev⟩ := bind_some ev
  split at ev
  · obtain ⟨q, e3, ev⟩ := map_some' ev
    cases ev
    exact ⟨_, rfl⟩
  · cases ev
theorem jl_comp2 {elt tg iter tg1 iter1 : Expr} {ifs ifs1 : List Expr} {scope : Scope} {own : List (Str × Nat)} {vs1 : List Nat} {pos : Pos} {src src1 : Src} {as as1 : List E} {t t1 : T} {test test1 e : E} (hc : X.calm = true) (hN : X.N.Nodup) (hi : PI X tg iter (tOfI X.K src as)) (ok : BlkOk X.N X.env.scope scope own) (hv : ∀ i ∈ vs1, i ∈ own.map (·.2))
    (hg : ∀ (s : Shared) (H : Hp) (C : Addr) (cl : List (Str × Addr)) (fp : List Addr), PG (X.blk s H scope (compEnvC scope cl C X.env) fp) tg (gOf X.K t)) (ht : ∀ (s : Shared) (H : Hp) (C : Addr) (cl : List (Str × Addr)) (fp : List Addr), PTs (X.blk s H scope (compEnvC scope cl C X.env) fp) ifs (tOfT X.K test))
    (hi1 : ∀ (s : Shared) (H : Hp) (C : Addr) (cl : List (Str × Addr)) (fp : List Addr), PI (X.blk s H scope (compEnvC scope cl C X.env) fp) tg1 iter1 (tOfI X.K src1 as1))
    (hg1 : ∀ (s : Shared) (H : Hp) (C : Addr) (cl : List (Str × Addr)) (fp : List Addr), PG (X.blk s H scope (compEnvC scope cl C X.env) fp) tg1 (gOf X.K t1)) (ht1 : ∀ (s : Shared) (H : Hp) (C : Addr) (cl : List (Str × Addr)) (fp : List Addr), PTs (X.blk s H scope (compEnvC scope cl C X.env) fp) ifs1 (tOfT X.K test1))
    (he : ∀ (s : Shared) (H : Hp) (C : Addr) (cl : List (Str × Addr)) (fp : List Addr), PE (X.blk s H scope (compEnvC scope cl C X.env) fp) elt (tOf X.K e)) (hs : ∀ x, foldedSetIterable iter X.env x = pure x := by intro _; rfl) (hs1 : ∀ env x, foldedSetIterable iter1 env x = pure x := by intro _ _; rfl) :
    PE X (.ListComp elt [⟨tg, iter, ifs, 0⟩, ⟨tg1, iter1, ifs1, 0⟩] scope pos) (tOfL X.K (.comp2 src as t test src1 as1 t1 test1 e (own.map (·.2)) vs1)) :=
  pe_imp (pe_lc2 hc hN hi ok hv hg ht hi1 hg1 ht1 he hs hs1) fun _ _ _ h => tLc2_of h
end
end Sim
set_option Elab.async false
set_option linter.all false
set_option maxRecDepth 100000
set_option maxHeartbeats 4000000
/-! Sets of lists, sorted at once. -/
namespace Sim
open PySem PySem.Spec PyProof.Rows L2

section
variable {P : Program} {w : World} {A : Around} {E : Value → Shared → Prop} {s : Shared}
/-- the new set's object -/
abbrev emptySet (w : World) : Obj := { cls := .type "set", dict := none, data := .set #[] 0 (.fresh 0 0 (!w.params.followText "set-order")) }
/-- set(l), with what its loop does left to the prover -/
theorem set_of_list {l : Addr} {us : Array Value} {Good : Heap → Prop} {Q : Value → Shared → Prop} (hh : A.handled = none) (hl : s.heap.IsList l us)
    (loop : ∀ (B : Around) (I : Addr) (G : Array GenState → Array GenState → Prop) (St : Nat → Shared → Prop) (s1 : Shared) (R : Result → Shared → Prop),
      WalksS P w B.in1 I [I, l] [I] G us.size (fun i v => us[i]? = some v) St → s.heap.objs.size ∉ [I, l] → St 0 s1 → s1.heap.get? s.heap.objs.size = some (emptySet w) →
      (∀ b o, s.heap.get? b = some o → s1.heap.get? b = some o) →
      (∀ s', Moved [s.heap.objs.size, I] G s1 s' → Good s'.heap → R (.ok (.ret .none)) s') → codeAny (model P w) B (.builtin "set.update.loop" ⟨[.ref s.heap.objs.size, .ref I], []⟩) R s1)
    (fin : ∀ h' tk, Good h' → (∀ b o, s.heap.get? b = some o → h'.get? b = some o) → Q (.ref s.heap.objs.size) { s with heap := h', toks := tk }) :
    wpAny (model P w) A (call (.type "set") [.ref l]) Q E s := by
  have ⟨m1, m2, m3⟩ := F.called_set.mro
  have a1 := F.called_set.made
  have a2 := F.called_set.sub
  have a3 := F.called_set.notType
  have a4 := F.called_set.canCreate
  have a5 := F.typeCall_set_1 (.ref l)
  have a6 := F.called_set.init.lookup
  have a7 := F.called_set.init.bind (.ref s.heap.objs.size)
  have hs := Heap.get?_push_size s.heap (o := emptySet w) rfl
  have ht : Shared.TypeIs { s with heap := s.heap.push (emptySet w) } (.ref s.heap.objs.size) "set" := ⟨_, hs, rfl⟩
  refine wpAny_call (codeAny_of_tree ?_)
  show wpAny _ _ (callAny (.type "set") _) _ _ _
  refine wpAny_pure ⟨Code.quiet_builtin _ (by decide +kernel),
    codeAny_builtin F.entry_type_call ?_⟩
  rw [Around.under_plain
    (weight_type_call_type "set" [.ref l] []) rfl]
  repeat (any_goals (first | assumption | wp_step))
  refine codeAny_mono (code_set_led1 (.ref l) (E := E)
    (Q₁ := fun x s1 => x = .ref s.heap.objs.size ∧ s1 = { s with heap := s.heap.push (emptySet w) }) ⟨rfl, rfl⟩) ?_
  rintro (e | fl) s1 hr
  · exact hr
  obtain ⟨x, rfl, hr⟩ : ∃ x, fl = .ret x ∧ x = .ref s.heap.objs.size ∧ s1 = { s with heap := s.heap.push (emptySet w) } := by
    cases fl
    case ret x => exact ⟨x, rfl, hr⟩
    all_goals exact hr.elim
  obtain ⟨rfl, rfl⟩ := hr
  repeat (any_goals (first | assumption | wp_step))
  refine codeAny_mono (codeAny_call_builtin
    (R := wants (fun r s2 => r = .none ∧ ∃ h' tk, s2 = { s with heap := h', toks := tk } ∧ Good h' ∧ ∀ b o, s.heap.get? b = some o → h'.get? b = some o) E)
    F.called_set.init.plain F.entry_set_init (check_set_init_1 ht ?_)) ?_
  · have ⟨⟨c0, d0, x0, y0⟩, hol, hc, nl, hd⟩ := hl
    simp only at hc hd
    subst hc hd
    have hl1 : (s.heap.push (emptySet w)).IsList l us := hl.push _
    have hol' := Heap.get?_push_of_some (emptySet w) hol
    have b1 := F.sub_list_set
    have b2 := F.sub_list_frozenset
    have b3 : (Value.type "list" == Value.type "dict") = false := by decide
    unfold Builtin.«set.__init__» noKeywords Builtin.Frozenset.updateFrom
    generalize hPI : pyIter = PI
    wp_walk
    subst hPI
    refine wpAny_pyIter_list hl1 (wpAny_bind (wpAny_runValue ?_))
    have lt := Heap.lt_size hol
    have z1 : (s.heap.push (emptySet w)).objs.size = s.heap.objs.size + 1 := Heap.size_push ..
    refine loop _ (s.heap.push (emptySet w)).objs.size _ _ _ _ ((Walks.list (by simp [hh]) _ l (by rw [z1]; exact Nat.ne_of_lt (Nat.lt_succ_of_lt lt)) us).toS) ?_ ⟨⟨_, Heap.get?_push_size _ rfl, rfl, rfl⟩, (hl1.push _)⟩ (Heap.get?_push_of_some _ hs) (fun b o e => Heap.get?_push_of_some _ (Heap.get?_push_of_some _ e)) ?_
    · rw [z1]
      simp only [List.mem_cons, List.not_mem_nil, or_false, not_or]
      exact ⟨Nat.ne_of_lt (Nat.lt_succ_self _), Nat.ne_of_gt lt⟩
    · rintro ⟨h', g2, d2, t2, o2⟩ hm hg
      have eg : g2 = s.gens := hm.gens
      have ed : d2 = s.drawn := hm.drawn
      have eo : o2 = s.os := hm.os
      subst eg ed eo
      show wpAny _ _ _ _ _ _
      refine wpAny_pure ?_
      show wpAny _ _ (ret Value.none) _ _ _
      refine wpAny_pure ⟨rfl, h', t2, rfl, hg, fun b o e => ?_⟩
      have bl := Heap.lt_size e
      refine hm.heap b o ?_ (Heap.get?_push_of_some _ (Heap.get?_push_of_some _ e))
      rw [z1]
      simp only [List.mem_cons, List.not_mem_nil, or_false, not_or]
      exact ⟨Nat.ne_of_lt bl, Nat.ne_of_lt (Nat.lt_succ_of_lt bl)⟩
  · rintro (e | fl) s1 hr
    · exact hr
    obtain ⟨x, rfl, hr⟩ : ∃ x, fl = .ret x ∧ (x = .none ∧ ∃ h' tk, s1 = { s with heap := h', toks := tk } ∧ Good h' ∧ ∀ b o, s.heap.get? b = some o → h'.get? b = some o) := by
      cases fl
      case ret x => exact ⟨x, rfl, hr⟩
      all_goals exact hr.elim
    obtain ⟨rfl, h', tk, rfl, hg, hk⟩ := hr
    repeat (any_goals (first | assumption | wp_step))
    exact fin _ _ hg hk
/-- set(l), l a list of ints -/
theorem set_ints {l : Addr} {us : Array Value} {ns : List Int} {Q : Value → Shared → Prop} (hh : A.handled = none) (hl : s.heap.IsList l us) (hi : IntsAre us.toList ns) (hb : ns.length + 1 < scanBound)
    (fin : ∀ h' tk c, SetR w h' s.heap.objs.size (fun j => decide (j ∈ ns)) c → c ≤ ns.length → (∀ b o, s.heap.get? b = some o → h'.get? b = some o) → Q (.ref s.heap.objs.size) { s with heap := h', toks := tk }) :
    wpAny (model P w) A (call (.type "set") [.ref l]) Q E s := by
  have hz : us.size = ns.length := by have q := IntsAre.length hi; rw [Array.length_toList] at q; exact q
  refine set_of_list (Good := fun h' => ∃ c, c ≤ ns.length ∧ SetR w h' s.heap.objs.size (fun j => decide (j ∈ ns)) c) hh hl ?_ fun h' tk ⟨c, hc, hS⟩ hk => fin h' tk c hS hc hk
  intro B I G St s1 R W hf h0 hs hk hR
  refine set_update_ints W _ hf ns hz hb (fun i v hv => ?_) (us.size - 0) 0 s1 (by omega) (Nat.zero_le _) h0 ⟨0, Nat.le_refl 0, setR_new_at hs⟩ fun s' c hm hc hS => hR s' hm ⟨c, by omega, hS⟩
  have hi' : i < ns.length := by rw [← hz]; exact (Array.getElem?_eq_some_iff.mp hv).1
  obtain ⟨t, e⟩ := IntsAre.int_at hi i v (by rw [Array.getElem?_toList]; exact hv)
  refine ⟨ns[i], t, List.getElem?_eq_getElem hi', ?_⟩
  rw [e, List.getD_eq_getElem?_getD, List.getElem?_eq_getElem hi'] <;> rfl
end
end Sim
set_option Elab.async false
set_option linter.all false
set_option maxRecDepth 100000
set_option maxHeartbeats 4000000
/-! sorted(set(ints)). -/
namespace Sim
open PySem PySem.Spec PyProof.Rows L2

/-- an int laid into a rising list, once -/
def insI (k : Int) : List Int → List Int
  | [] => [k]
  | x :: r => if k < x then k :: x :: r else if k = x then x :: r else x :: insI k r
def sortI : List Int → List Int
  | [] => []
  | k :: r => insI k (sortI r)
theorem mem_insI (k j : Int) : ∀ l : List Int, j ∈ insI k l ↔ j = k ∨ j ∈ l
  | [] => by simp [insI]
  | x :: r => by
    unfold insI
    split
    · simp
    · split
      · rename_i h; subst h; simp
      · rw [List.mem_cons, mem_insI k j r, List.mem_cons]
        constructor
        · rintro (h | h | h)
          · exact .inr (.inl h)
          · exact .inl h
          · exact .inr (.inr h)
        · rintro (h | h | h)
          · exact .inr (.inl h)
          · exact .inl h
          · exact .inr (.inr h)
theorem pw_insI (k : Int) : ∀ l : List Int, l.Pairwise (· < ·) → (insI k l).Pairwise (· < ·)
  | [], _ => by simp [insI]
  | x :: r, h => by
    obtain ⟨h1, h2⟩ := List.pairwise_cons.mp h
    unfold insI
    split
    · rename_i e
      exact List.pairwise_cons.mpr ⟨fun y hy => by
        rcases List.mem_cons.mp hy with rfl | hy
        · exact e
        · have := h1 y hy; omega, h⟩
    · split
      · exact h
      · refine List.pairwise_cons.mpr ⟨fun y hy => ?_, pw_insI k r h2⟩
        rcases (mem_insI k y r).mp hy with rfl | hy
        · omega
        · exact h1 y hy
theorem mem_sortI (j : Int) : ∀ l : List Int, j ∈ sortI l ↔ j ∈ l
  | [] => by simp [sortI]
  | x :: r => by unfold sortI; rw [mem_insI, mem_sortI j r, List.mem_cons]
theorem pw_sortI : ∀ l : List Int, (sortI l).Pairwise (· < ·)
  | [] => by simp [sortI]
  | x :: r => pw_insI x _ (pw_sortI r)
theorem rising_eq : ∀ (a b : List Int), a.Pairwise (· < ·) → b.Pairwise (· < ·) → (∀ k, k ∈ a ↔ k ∈ b) → a = b
  | [], [], _, _, _ => rfl
  | [], y :: b, _, _, h => by have := (h y).mpr List.mem_cons_self; cases this
  | x :: a, [], _, _, h => by have := (h x).mp List.mem_cons_self; cases this
  | x :: a, y :: b, ha, hb, h => by
    obtain ⟨a1, a2⟩ := List.pairwise_cons.mp ha
    obtain ⟨b1, b2⟩ := List.pairwise_cons.mp hb
    have e : x = y := by
      have hx := (h x).mp List.mem_cons_self
      have hy := (h y).mpr List.mem_cons_self
      rcases List.mem_cons.mp hx with e | hx
      · exact e
      · rcases List.mem_cons.mp hy with e | hy
        · exact e.symm
        · have := a1 y hy; have := b1 x hx; omega
    subst e
    rw [rising_eq a b a2 b2 fun k => ?_]
    constructor
    · intro hk
      rcases List.mem_cons.mp ((h k).mp (List.mem_cons_of_mem _ hk)) with e | hk'
      · subst e; have := a1 k hk; omega
      · exact hk'
    · intro hk
      rcases List.mem_cons.mp ((h k).mpr (List.mem_cons_of_mem _ hk)) with e | hk'
      · subst e; have := b1 k hk; omega
      · exact hk'

theorem intsAre_of : ∀ {ns : List Int} {us : List Value}, Vals (ns.map V.int) us → IntsAre us ns
  | [], _, .nil => .nil
  | n :: _, _, .cons r t => by
    obtain ⟨tk, rfl⟩ := r
    exact .cons n tk (intsAre_of t)
section
variable {X : Cx}
/-- set(ints) -/
def rSetI (K : PySem.W.Frag) (w : World) : List V → Hp → VK → Prop := fun xs H Q => ∃ (l : Addr) (ns : List Int), xs = [.ref l] ∧ SqL K H l (ns.map V.int) ∧ ns.length ≤ 60 ∧
  ∀ a c, H a = none → c ≤ ns.length → Q (.ref a) (upd H a (SetO w a (fun j => decide (j ∈ ns)) c))
theorem cr_setI (hc : X.calm = true) : CallR X (.type "set") (rSetI X.K X.w) := by
  intro pins s σ H xs us Q I r h
  obtain ⟨l, ns, rfl, hl, hn, q⟩ := h
  rw [Vals.ref1 r]
  obtain ⟨its, rv, pl, hz⟩ := I.list hl
  have fr : H s.heap.objs.size = none := I.hok.fresh (Nat.le_refl _)
  refine set_ints (ns := ns) (I.ok.hd hc) pl.isList (by simpa using intsAre_of rv) (by unfold scanBound; omega) fun h' tk c R hcn k => ?_
  exact ⟨.ref s.heap.objs.size, upd H s.heap.objs.size (SetO X.w s.heap.objs.size _ c), I.laid (t' := tk) k (Nat.le_refl _) (setO_new R), rfl, q _ c fr hcn⟩
variable {K : PySem.W.Frag} {g g' : Gh} {s : L2.St} {H : Hp} {ro : Ro} {M : Ms}
def opSortSet : OpL := fun ro M ds => match ds with
  | [d] => (lookQ ro M d).bind fun xs => (intsD xs).bind fun ns => if ns.length ≤ 60 then some (.lst ((sortI ns).map D.int)) else none
  | _ => none
theorem opSortSet_isL {as : List E} : ∀ ro M r, evalE (.bi opSortSet as) ro M = some r → ∃ xs, r.1 = .lst xs := fun ro M r ev => by
  obtain ⟨rd, rr, rm⟩ := r
  obtain ⟨ds, e1, e2⟩ := evalBi ev
  unfold opSortSet at e2
  split at e2
  · obtain ⟨xs, e3, e2⟩ := bind_some e2
    obtain ⟨ns, e4, e2⟩ := bind_some e2
    split at e2
    · exact ⟨_, (Option.some.inj e2).symm⟩
    · cases e2
  · cases e2
theorem jl_sortSet {e : Expr} {es : List Expr} {as : List E} {p p2 q pos : Pos} (hg : Gl X "sorted") (hm : X.mg "sorted" = none) (hg2 : Gl X "set") (hm2 : X.mg "set" = none) (ha : PA X (e :: es) (tOfA X.K as)) (hc : X.calm = true := by rfl)
    (h1 : starEach (e :: es) X.env = (false, eval e X.env) :: starEach es X.env := by rfl) (h2 : (backTo q (starEach es X.env)).any (·.1) = false := by rfl)
    (h3 : starEach [.Call (.Name "set" p2) (e :: es) [] q] X.env = (false, eval (.Call (.Name "set" p2) (e :: es) [] q) X.env) :: starEach [] X.env := by rfl) :
    PE X (.Call (.Name "sorted" p) [.Call (.Name "set" p2) (e :: es) [] q] [] pos) (tOfL X.K (.bi opSortSet as)) :=
  pe_imp (pe_callB (cr_sortedSet hc) hg hm (by decide +kernel) (pa_cons (pe_callTy (cr_setI hc) hg2 hm2 (by decide +kernel) ha (by decide) (by decide) h1 h2) pa_nil h3) (by decide) (by decide) h3 (by rfl)) fun s H Q h => by
    obtain ⟨g, ro, M, d', ro', M', S, ev, k⟩ := h
    unfold evalE at ev
    obtain ⟨x, e1, ev⟩ := bind_some ev
    obtain ⟨d, e3, ev⟩ := map_some' ev
    cases ev
    refine ⟨g, ro, M, _, _, _, S, e1, fun g1 vs H1 S1 l1 r1 => ?_⟩
    unfold opSortSet at e3
    split at e3
    · rename_i d0 e0
      rw [e0] at r1
      obtain ⟨xs, e4, e3⟩ := bind_some e3
      obtain ⟨ns, e5, e3⟩ := bind_some e3
      split at e3
      · rename_i hn
        obtain ⟨v, eu, r1'⟩ := one_of r1 rfl
        obtain ⟨a, us, ev, rs, q⟩ := lookQ_ok S1 r1' e4
        rw [ints_eq e5] at rs
        have := rs.ints
        subst this; subst ev; subst eu
        refine ⟨a, ns, rfl, q, hn, fun b c hb hcn => ?_⟩
        refine ⟨b, _, c, rfl, upd_same, by omega, fun out p hp hmem hlen hpn => ?_⟩
        have eo : out = sortI ns := rising_eq _ _ hp (pw_sortI ns) fun k => by rw [hmem k, mem_sortI]; simp
        subst eo
        have hxs : d' = (sortI ns).map D.int := by injection e3 with e3; injection e3 with e3; exact e3.symm
        subst hxs
        have S2 := S1.newFrz (SetO X.w b (fun j => decide (j ∈ ns)) c) hb
        have l2 := g1.frz_le (o := SetO X.w b (fun j => decide (j ∈ ns)) c) (S1.hr.notZ hb)
        obtain ⟨S3, w, n⟩ := S2.fresh_own (xs := (sortI ns).map D.int) hpn (Reps.ofInts _)
        exact k _ p _ _ S3 (l1.trans l2) w n
      · cases e3
    · cases e3
end
end Sim
set_option Elab.async false
set_option linter.all false
set_option maxRecDepth 100000
set_option maxHeartbeats 4000000
namespace Sim
open PySem PySem.Spec PyProof.Rows L2
theorem hr_nil {K : PySem.W.Frag} {H : Hp} : HR K H [] [] H := ⟨Same.refl _, rfl, List.nodup_nil, fun a m => (nomatch m), fun k c a e _ => by simp at e⟩
theorem je_methK2 {X : Cx} {a : Expr} {C : Addr} {m : Str} {n q j : Nat} {f : Fn} {E' : XK} {eo : E} {all : List E} (en : (all.take n).length = n) (ek : (all.drop n).length = q) (ej : n + q + 1 = j)
    (h : PE X a (tMethK C m n q (spM X.K j f) E' (tOf X.K eo) (tOfA X.K (all.take n)) (tOfA X.K (all.drop n)))) : PE X a (tOf X.K (.meth C m f eo all)) := by
  have := je_methK en ek ej h
  rwa [List.take_append_drop] at this
end Sim
set_option Elab.async false
set_option linter.all false
set_option maxRecDepth 100000
set_option maxHeartbeats 4000000
/-! What a run of the interpreter must give: rules read from the root down. -/
namespace Sim
open PySem L2

def Wq {α : Type} (o : Option α) (Q : α → Prop) : Prop := ∃ a, o = some a ∧ Q a
section
variable {α β : Type}
theorem Wq.mono {o : Option α} {Q R : α → Prop} (h : Wq o Q) (k : ∀ a, Q a → R a) : Wq o R := by
  obtain ⟨a, e, q⟩ := h; exact ⟨a, e, k a q⟩
theorem Wq.eq {o : Option α} {a : α} (h : Wq o fun x => x = a) : o = some a := by
  obtain ⟨b, e, rfl⟩ := h; exact e
theorem Wq.of {o : Option α} {a : α} {Q : α → Prop} (e : o = some a) (h : Q a) : Wq o Q := ⟨a, e, h⟩
theorem Wq_some (a : α) (Q : α → Prop) : Wq (some a) Q ↔ Q a :=
  ⟨fun ⟨b, e, q⟩ => by cases e; exact q, fun q => ⟨a, rfl, q⟩⟩
theorem Wq_none (Q : α → Prop) : Wq (none : Option α) Q ↔ False := ⟨fun ⟨_, e, _⟩ => (by cases e), False.elim⟩
theorem Wq_bind (o : Option α) (f : α → Option β) (Q : β → Prop) : Wq (o.bind f) Q ↔ Wq o fun a => Wq (f a) Q := by
  cases o with
  | none => simp only [Option.bind_none, Wq_none]
  | some a => simp only [Option.bind_some, Wq_some]
theorem Wq_map (o : Option α) (f : α → β) (Q : β → Prop) : Wq (o.map f) Q ↔ Wq o fun a => Q (f a) := by
  cases o with
  | none => simp only [Option.map_none, Wq_none]
  | some a => simp only [Option.map_some, Wq_some]
theorem Wq_ite (c : Prop) [Decidable c] (p q : Option α) (Q : α → Prop) : Wq (if c then p else q) Q ↔ (c → Wq p Q) ∧ (¬c → Wq q Q) := by
  by_cases h : c
  · simp only [h, if_true, true_implies, not_true, false_implies, and_true]
  · simp only [h, if_false, not_false_eq_true, true_implies, false_implies, true_and]
end

section
variable {α β : Type}
/-- keeps what comes behind from being read ahead of its time -/
structure Tag {α : Type} (Q : α → Prop) : Type where
def Wp {α : Type} (o : Option α) (Q : α → Prop) (w : Tag Q) : Prop := Wq o Q
theorem Wp_eq {o : Option α} {Q : α → Prop} {w : Tag Q} : Wp o Q w = Wq o Q := rfl
theorem Wp.mono {o : Option α} {Q R : α → Prop} {w : Tag Q} (h : Wp o Q w) (k : ∀ a, Q a → R a) : Wp o R .mk := Wq.mono h k
theorem Wp.eq {o : Option α} {a : α} (h : Wp o (fun x => x = a) .mk) : o = some a := Wq.eq h
theorem Wp.of {o : Option α} {a : α} {Q : α → Prop} (e : o = some a) (h : Q a) : Wp o Q .mk := ⟨a, e, h⟩
theorem Wp.to {o : Option α} {a : α} (e : o = some a) : Wp o (fun x => x = a) .mk := ⟨a, e, rfl⟩
@[simp ↓] theorem Wp_some (a : α) (Q : α → Prop) : Wp (some a) Q .mk ↔ Q a := Wq_some a Q
@[simp ↓] theorem Wp_none (Q : α → Prop) : Wp (none : Option α) Q .mk ↔ False := Wq_none Q
@[simp ↓] theorem Wp_bind (o : Option α) (f : α → Option β) (Q : β → Prop) : Wp (o.bind f) Q .mk ↔ Wp o (fun a => Wp (f a) Q .mk) .mk := Wq_bind o f Q
@[simp ↓] theorem Wp_map (o : Option α) (f : α → β) (Q : β → Prop) : Wp (o.map f) Q .mk ↔ Wp o (fun a => Q (f a)) .mk := Wq_map o f Q
@[simp ↓] theorem Wp_ite (c : Prop) [Decidable c] (p q : Option α) (Q : α → Prop) : Wp (if c then p else q) Q .mk ↔ (c → Wp p Q .mk) ∧ (¬c → Wp q Q .mk) := Wq_ite c p q Q
end

/-- what stands in a slot -/
def rdVar (i : Nat) (x : Option (Option Sl)) (ro : Ro) (M : Ms) : Option (D × Ro × Ms) := match x with
  | some (some (.val d)) => some (d, ro, M)
  | some (some (.own xs)) => some (.lst xs, ro.set i (some (.val (.lst xs))), M)
  | _ => none
def rdBor (i : Nat) (x : Option (Option Sl)) (ro : Ro) (M : Ms) : Option (D × Ro × Ms) := match x with
  | some (some (.val d)) => some (d, ro, M)
  | some (some (.own _)) => some (.bor i, ro, M)
  | _ => none
def brD {α : Type} (d : D) (p q : Option α) : Option α := match d with
  | .bl true => p
  | .bl false => q
  | _ => none
@[simp ↓] theorem brD_bl {α : Type} (c : Bool) (p q : Option α) (Q : α → Prop) : Wp (brD (.bl c) p q) Q .mk ↔ (c = true → Wp p Q .mk) ∧ (c = false → Wp q Q .mk) := by
  cases c
  · simp only [Wp_eq, brD, Bool.false_eq_true, false_implies, true_implies, true_and]
  · simp only [Wp_eq, brD, Bool.true_eq_false, false_implies, true_implies, and_true]
@[simp] theorem rdVar_val (i : Nat) (d : D) (ro : Ro) (M : Ms) : rdVar i (some (some (.val d))) ro M = some (d, ro, M) := rfl
@[simp] theorem rdVar_own (i : Nat) (xs : List D) (ro : Ro) (M : Ms) : rdVar i (some (some (.own xs))) ro M = some (.lst xs, ro.set i (some (.val (.lst xs))), M) := rfl
@[simp] theorem rdBor_val (i : Nat) (d : D) (ro : Ro) (M : Ms) : rdBor i (some (some (.val d))) ro M = some (d, ro, M) := rfl
@[simp] theorem rdBor_own (i : Nat) (xs : List D) (ro : Ro) (M : Ms) : rdBor i (some (some (.own xs))) ro M = some (.bor i, ro, M) := rfl

section
variable {ro : Ro} {M : Ms} {Q : D × Ro × Ms → Prop} {Q' : List D × Ro × Ms → Prop} {R : Fl × Ro × Ms → Prop}
@[simp ↓] theorem w_var (i : Nat) : Wp (evalE (.var i) ro M) Q .mk ↔ Wp (rdVar i ro[i]? ro M) Q .mk := by
  simp only [Wp_eq]
  conv => lhs; unfold evalE
  unfold rdVar
  exact Iff.rfl
@[simp ↓] theorem w_bor (i : Nat) : Wp (evalE (.bor i) ro M) Q .mk ↔ Wp (rdBor i ro[i]? ro M) Q .mk := by
  simp only [Wp_eq]
  conv => lhs; unfold evalE
  unfold rdBor
  exact Iff.rfl
@[simp ↓] theorem w_c (d : D) : Wp (evalE (.c d) ro M) Q .mk ↔ Q (d, ro, M) := by unfold evalE; rw [Wp_eq, Wq_some]
@[simp ↓] theorem w_bin (f : Op2) (a b : E) : Wp (evalE (.bin f a b) ro M) Q .mk ↔ Wp (evalE a ro M) (fun x => Wp (evalE b x.2.1 x.2.2) (fun y => Wp (f y.2.1 y.2.2 x.1 y.1) (fun d => Q (d, y.2.1, y.2.2)) .mk) .mk) .mk := by
  conv => lhs; unfold evalE
  simp only [Wp_eq, Wq_bind, Wq_map]
@[simp ↓] theorem w_chain (f1 f2 : Op2) (a b c : E) : Wp (evalE (.chain f1 f2 a b c) ro M) Q .mk ↔ Wp (evalE a ro M) (fun x => Wp (evalE b x.2.1 x.2.2) (fun y => Wp (f1 y.2.1 y.2.2 x.1 y.1) (fun k => Wp (brD k ((evalE c y.2.1 y.2.2).bind fun z => (f2 z.2.1 z.2.2 y.1 z.1).map fun d => (d, z.2.1, z.2.2)) (some (.bl false, y.2.1, y.2.2))) Q .mk) .mk) .mk) .mk := by
  conv => lhs; unfold evalE
  simp only [Wp_eq, Wq_bind]
  exact Iff.rfl
@[simp ↓] theorem w_bi (f : OpL) (as : List E) : Wp (evalE (.bi f as) ro M) Q .mk ↔ Wp (evalA as ro M) (fun x => Wp (f x.2.1 x.2.2 x.1) (fun d => Q (d, x.2.1, x.2.2)) .mk) .mk := by
  conv => lhs; unfold evalE
  simp only [Wp_eq, Wq_bind, Wq_map]
@[simp ↓] theorem w_bm (ty : Ro → Ms → D → Bool) (f : OpM) (o : E) (as : List E) : Wp (evalE (.bm ty f o as) ro M) Q .mk ↔ Wp (evalE o ro M) (fun x => ty x.2.1 x.2.2 x.1 = true ∧ Wp (evalA as x.2.1 x.2.2) (fun y => Wp (f y.2.1 y.2.2 x.1 y.1) Q .mk) .mk) .mk := by
  conv => lhs; unfold evalE
  simp only [Wp_eq, Wq_bind, Wq_ite, Wq_none]
  constructor
  · intro h
    refine h.mono fun x hx => ?_
    by_cases e : ty x.2.1 x.2.2 x.1 = true
    · exact ⟨e, hx.1 e⟩
    · exact (hx.2 e).elim
  · intro h
    exact h.mono fun x hx => ⟨fun _ => hx.2, fun n => n hx.1⟩
@[simp ↓] theorem w_fld (C : Addr) (o : E) (nm : Str) : Wp (evalE (.fld C o nm) ro M) Q .mk ↔ Wp (evalE o ro M) (fun x => Wp (insAt C x.2.2 x.1) (fun fs => Wp (fs.lookup nm) (fun d => Q (d, x.2.1, x.2.2)) .mk) .mk) .mk := by
  conv => lhs; unfold evalE
  simp only [Wp_eq, Wq_bind, Wq_map]
@[simp ↓] theorem w_meth (C : Addr) (m : Str) (f : Fn) (o : E) (as : List E) : Wp (evalE (.meth C m f o as) ro M) Q .mk ↔ Wp (evalE o ro M) (fun x => Wp (insAt C x.2.2 x.1) (fun fs => (fs.lookup m).isNone = true ∧ Wp (evalA as x.2.1 x.2.2) (fun y => y.1.any isBor = false ∧ Wp (f (x.1 :: y.1) y.2.2) (fun r => Q (r.1, y.2.1, r.2)) .mk) .mk) .mk) .mk := by
  conv => lhs; unfold evalE
  simp only [Wp_eq, Wq_bind, Wq_ite, Wq_none, Wq_map]
  constructor
  · intro h
    refine h.mono fun x hx => hx.mono fun fs hf => ?_
    by_cases e : (fs.lookup m).isNone = true
    · refine ⟨e, (hf.1 e).mono fun y hy => ?_⟩
      by_cases e' : y.1.any isBor = true
      · exact (hy.1 e').elim
      · exact ⟨Bool.not_eq_true _ ▸ e', hy.2 e'⟩
    · exact (hf.2 e).elim
  · intro h
    exact h.mono fun x hx => hx.mono fun fs hf => ⟨fun _ => hf.2.mono fun y hy => ⟨fun n => (by rw [hy.1] at n; cases n), fun _ => hy.2⟩, fun n => n hf.1⟩
@[simp ↓] theorem w_make (C : Addr) (f : Fn) (as : List E) : Wp (evalE (.make C f as) ro M) Q .mk ↔ Wp (evalA as ro M) (fun x => x.1.any isBor = false ∧ Wp (f (.ref x.2.2.length :: x.1) (x.2.2 ++ [.ins C []])) (fun r => r.1 = .non ∧ Q (.ref x.2.2.length, x.2.1, r.2)) .mk) .mk := by
  conv => lhs; unfold evalE
  simp only [Wp_eq, Wq_bind, Wq_ite, Wq_none]
  constructor
  · intro h
    refine h.mono fun x hx => ?_
    by_cases e : x.1.any isBor = true
    · exact (hx.1 e).elim
    · refine ⟨Bool.not_eq_true _ ▸ e, (hx.2 e).mono fun r hr => ?_⟩
      split at hr
      · rename_i e0; exact ⟨e0, (Wq_some _ _).mp hr⟩
      · exact ((Wq_none _).mp hr).elim
  · intro h
    refine h.mono fun x hx => ⟨fun n => (by rw [hx.1] at n; cases n), fun _ => hx.2.mono fun r hr => ?_⟩
    rw [hr.1]
    exact (Wq_some _ _).mpr hr.2
@[simp ↓] theorem w_and (a b : E) : Wp (evalE (.and_ a b) ro M) Q .mk ↔ Wp (evalE a ro M) (fun x => Wp (brD x.1 (evalE b x.2.1 x.2.2) (some (.bl false, x.2.1, x.2.2))) Q .mk) .mk := by
  conv => lhs; unfold evalE
  simp only [Wp_eq, Wq_bind]
  exact Iff.rfl
@[simp ↓] theorem w_or (a b : E) : Wp (evalE (.or_ a b) ro M) Q .mk ↔ Wp (evalE a ro M) (fun x => Wp (brD x.1 (some (.bl true, x.2.1, x.2.2)) (evalE b x.2.1 x.2.2)) Q .mk) .mk := by
  conv => lhs; unfold evalE
  simp only [Wp_eq, Wq_bind]
  constructor
  · intro h
    refine h.mono fun x hx => ?_
    unfold brD
    split at hx <;> rename_i e <;> simp only [Wp_eq, e] <;> exact hx
  · intro h
    refine h.mono fun x hx => ?_
    unfold brD at hx
    split at hx <;> rename_i e <;> simp only [Wp_eq, e] <;> exact hx
def notD : D → Option D
  | .bl k => some (.bl (!k))
  | _ => none
@[simp] theorem notD_bl (k : Bool) : notD (.bl k) = some (.bl (!k)) := rfl
@[simp ↓] theorem w_not (a : E) : Wp (evalE (.not_ a) ro M) Q .mk ↔ Wp (evalE a ro M) (fun x => Wp (notD x.1) (fun d => Q (d, x.2.1, x.2.2)) .mk) .mk := by
  conv => lhs; unfold evalE
  simp only [Wp_eq, Wq_bind]
  constructor
  · intro h
    refine h.mono fun x hx => ?_
    unfold notD
    split at hx
    · rename_i e; simp only [Wp_eq, e, Wq_some] at hx ⊢; exact hx
    · exact ((Wq_none _).mp hx).elim
  · intro h
    refine h.mono fun x hx => ?_
    unfold notD at hx
    split at hx
    · rename_i e; simp only [Wp_eq, e, Wq_some] at hx ⊢; exact hx
    · exact ((Wq_none _).mp hx).elim
@[simp ↓] theorem w_ifx (t a b : E) : Wp (evalE (.ifx t a b) ro M) Q .mk ↔ Wp (evalE t ro M) (fun x => Wp (brD x.1 (evalE a x.2.1 x.2.2) (evalE b x.2.1 x.2.2)) Q .mk) .mk := by
  conv => lhs; unfold evalE
  simp only [Wp_eq, Wq_bind]
  exact Iff.rfl
@[simp ↓] theorem w_tup (as : List E) : Wp (evalE (.tup as) ro M) Q .mk ↔ Wp (evalA as ro M) (fun x => (x.1.any isBor = false ∧ x.1.length ≤ most) ∧ Q (.tup x.1, x.2.1, x.2.2)) .mk := by
  conv => lhs; unfold evalE
  simp only [Wp_eq, Wq_bind, Wq_ite, Wq_none, Wq_some]
  constructor <;> intro h <;> refine h.mono fun x hx => ?_
  · by_cases e : (x.1.any isBor || decide (most < x.1.length)) = true
    · exact (hx.1 e).elim
    · have e' := e
      rw [Bool.not_eq_true, Bool.or_eq_false_iff, decide_eq_false_iff_not, Nat.not_lt] at e'
      exact ⟨e', hx.2 e⟩
  · have e : (x.1.any isBor || decide (most < x.1.length)) = false := by
      rw [Bool.or_eq_false_iff, decide_eq_false_iff_not, Nat.not_lt]; exact hx.1
    exact ⟨fun n => (by rw [e] at n; cases n), fun _ => hx.2⟩
@[simp ↓] theorem w_lst (as : List E) : Wp (evalE (.lst as) ro M) Q .mk ↔ Wp (evalA as ro M) (fun x => (x.1.any isBor = false ∧ x.1.length ≤ most) ∧ Q (.lst x.1, x.2.1, x.2.2)) .mk := by
  conv => lhs; unfold evalE
  simp only [Wp_eq, Wq_bind, Wq_ite, Wq_none, Wq_some]
  constructor <;> intro h <;> refine h.mono fun x hx => ?_
  · by_cases e : (x.1.any isBor || decide (most < x.1.length)) = true
    · exact (hx.1 e).elim
    · have e' := e
      rw [Bool.not_eq_true, Bool.or_eq_false_iff, decide_eq_false_iff_not, Nat.not_lt] at e'
      exact ⟨e', hx.2 e⟩
  · have e : (x.1.any isBor || decide (most < x.1.length)) = false := by
      rw [Bool.or_eq_false_iff, decide_eq_false_iff_not, Nat.not_lt]; exact hx.1
    exact ⟨fun n => (by rw [e] at n; cases n), fun _ => hx.2⟩
def lstOf : D → Option (List D)
  | .lst xs => some xs
  | _ => none
@[simp] theorem lstOf_lst (xs : List D) : lstOf (.lst xs) = some xs := rfl
@[simp ↓] theorem w_cell (a : E) : Wp (evalE (.cell a) ro M) Q .mk ↔ Wp (evalE a ro M) (fun x => Wp (lstOf x.1) (fun xs => Q (.ref x.2.2.length, x.2.1, x.2.2 ++ [.lst xs])) .mk) .mk := by
  conv => lhs; unfold evalE
  simp only [Wp_eq, Wq_bind]
  constructor <;> intro h <;> refine h.mono fun x hx => ?_
  · unfold lstOf
    split at hx
    · rename_i e; simp only [Wp_eq, e, Wq_some] at hx ⊢; exact hx
    · exact ((Wq_none _).mp hx).elim
  · unfold lstOf at hx
    split at hx
    · rename_i e; simp only [Wp_eq, e, Wq_some] at hx ⊢; exact hx
    · exact ((Wq_none _).mp hx).elim
@[simp ↓] theorem w_fn (f : Fn) (as : List E) : Wp (evalE (.fn f as) ro M) Q .mk ↔ Wp (evalA as ro M) (fun x => x.1.any isBor = false ∧ Wp (f x.1 x.2.2) (fun r => Q (r.1, x.2.1, r.2)) .mk) .mk := by
  conv => lhs; unfold evalE
  simp only [Wp_eq, Wq_bind, Wq_ite, Wq_none, Wq_map]
  constructor <;> intro h <;> refine h.mono fun x hx => ?_
  · by_cases e : x.1.any isBor = true
    · exact (hx.1 e).elim
    · exact ⟨Bool.not_eq_true _ ▸ e, hx.2 e⟩
  · exact ⟨fun n => (by rw [hx.1] at n; cases n), fun _ => hx.2⟩
@[simp ↓] theorem w_comp (src : Src) (as : List E) (tg : T) (test elt : E) (vs : List Nat) : Wp (evalE (.comp src as tg test elt vs) ro M) Q .mk ↔ Wp (evalA as ro M) (fun x => Wp (src x.2.1 x.2.2 x.1) (fun all => blkFine vs tg x.1 = true ∧
    Wp (compGo src x.1 all tg (evalE test) (evalE elt) vs all [] (wipeR x.2.1 vs) x.2.2) (fun q => Q (.lst q.1, q.2.1, q.2.2)) .mk) .mk) .mk := by
  conv => lhs; unfold evalE
  simp only [Wp_eq, Wq_bind, Wq_ite, Wq_none, Wq_map]
  constructor <;> intro h <;> refine h.mono fun x hx => hx.mono fun all ha => ?_
  · by_cases e : blkFine vs tg x.1 = true
    · exact ⟨e, ha.1 e⟩
    · exact (ha.2 e).elim
  · exact ⟨fun _ => ha.2, fun n => n ha.1⟩
@[simp ↓] theorem w_dcomp (src : Src) (as : List E) (tg : T) (test key val : E) (vs : List Nat) : Wp (evalE (.dcomp src as tg test key val vs) ro M) Q .mk ↔ Wp (evalA as ro M) (fun x => Wp (src x.2.1 x.2.2 x.1) (fun all => blkFine vs tg x.1 = true ∧
    Wp (dcGo src x.1 all tg (evalE test) (evalE key) (evalE val) vs all [] (wipeR x.2.1 vs) x.2.2) (fun q => Q (.ref q.2.2.length, q.2.1, q.2.2 ++ [.dK q.1])) .mk) .mk) .mk := by
  conv => lhs; unfold evalE
  simp only [Wp_eq, Wq_bind, Wq_ite, Wq_none, Wq_map]
  constructor <;> intro h <;> refine h.mono fun x hx => hx.mono fun all ha => ?_
  · by_cases e : blkFine vs tg x.1 = true
    · exact ⟨e, ha.1 e⟩
    · exact (ha.2 e).elim
  · exact ⟨fun _ => ha.2, fun n => n ha.1⟩
@[simp ↓] theorem w_comp2 (src : Src) (as : List E) (tg : T) (test : E) (src2 : Src) (as2 : List E) (tg2 : T) (test2 elt : E) (vs vs2 : List Nat) : Wp (evalE (.comp2 src as tg test src2 as2 tg2 test2 elt vs vs2) ro M) Q .mk ↔ Wp (evalA as ro M) (fun x => Wp (src x.2.1 x.2.2 x.1) (fun all => (blkFine vs tg x.1 && vs2.all (fun i => vs.contains i)) = true ∧
    Wp (compGo2 src x.1 all tg (evalE test) (evalA as2) src2 tg2 (evalE test2) (evalE elt) vs vs2 all [] (wipeR x.2.1 vs) x.2.2) (fun q => Q (.lst q.1, q.2.1, q.2.2)) .mk) .mk) .mk := by
  conv => lhs; unfold evalE
  simp only [Wp_eq, Wq_bind, Wq_ite, Wq_none, Wq_map]
  constructor <;> intro h <;> refine h.mono fun x hx => hx.mono fun all ha => ?_
  · by_cases e : (blkFine vs tg x.1 && vs2.all (fun i => vs.contains i)) = true
    · exact ⟨e, ha.1 e⟩
    · exact (ha.2 e).elim
  · exact ⟨fun _ => ha.2, fun n => n ha.1⟩
@[simp ↓] theorem w_a0 : Wp (evalA [] ro M) Q' .mk ↔ Q' ([], ro, M) := by unfold evalA; rw [Wp_eq, Wq_some]
@[simp ↓] theorem w_a1 (e : E) (es : List E) : Wp (evalA (e :: es) ro M) Q' .mk ↔ Wp (evalE e ro M) (fun x => Wp (evalA es x.2.1 x.2.2) (fun y => Q' (x.1 :: y.1, y.2.1, y.2.2)) .mk) .mk := by
  conv => lhs; unfold evalA
  simp only [Wp_eq, Wq_bind, Wq_map]

/-! ### statements -/
@[simp ↓] theorem w_nil : Wp (execB [] ro M) R .mk ↔ R (.nx, ro, M) := by unfold execB; rw [Wp_eq, Wq_some]
/-- what comes behind a statement -/
def then_ (b : List S) : Fl × Ro × Ms → Option (Fl × Ro × Ms)
  | (.nx, r, m) => execB b r m
  | q => some q
@[simp ↓] theorem then_nx (b : List S) (ro : Ro) (M : Ms) : Wp (then_ b (.nx, ro, M)) R .mk ↔ Wp (execB b ro M) R .mk := Iff.rfl
@[simp ↓] theorem then_ret (b : List S) (d : D) (ro : Ro) (M : Ms) : Wp (then_ b (.ret d, ro, M)) R .mk ↔ R (.ret d, ro, M) := Wq_some _ _
@[simp ↓] theorem then_ct (b : List S) (ro : Ro) (M : Ms) : Wp (then_ b (.ct, ro, M)) R .mk ↔ R (.ct, ro, M) := Wq_some _ _
@[simp ↓] theorem then_bk (b : List S) (ro : Ro) (M : Ms) : Wp (then_ b (.bk, ro, M)) R .mk ↔ R (.bk, ro, M) := Wq_some _ _
@[simp ↓] theorem w_cons (s : S) (b : List S) : Wp (execB (s :: b) ro M) R .mk ↔ Wp (execS s ro M) (fun x => Wp (then_ b x) R .mk) .mk := by
  conv => lhs; unfold execB
  simp only [Wp_eq, Wq_bind]
  constructor <;> intro h <;> refine h.mono fun x hx => ?_
  · obtain ⟨fl, r, m⟩ := x
    cases fl <;> exact hx
  · obtain ⟨fl, r, m⟩ := x
    cases fl <;> exact hx
@[simp ↓] theorem w_expr (e : E) : Wp (execS (.expr e) ro M) R .mk ↔ Wp (evalE e ro M) (fun x => R (.nx, x.2.1, x.2.2)) .mk := by
  conv => lhs; unfold execS
  simp only [Wp_eq, Wq_map]
@[simp ↓] theorem w_asg (t : T) (e : E) : Wp (execS (.asg t e) ro M) R .mk ↔ Wp (evalE e ro M) (fun x => Wp (asgT t x.1 x.2.1) (fun r => R (.nx, r, x.2.2)) .mk) .mk := by
  conv => lhs; unfold execS
  simp only [Wp_eq, Wq_bind, Wq_map]
@[simp ↓] theorem w_own (i : Nat) (e : E) : Wp (execS (.own i e) ro M) R .mk ↔ Wp (evalE e ro M) (fun x => Wp (lstOf x.1) (fun xs => R (.nx, x.2.1.set i (some (.own xs)), x.2.2)) .mk) .mk := by
  conv => lhs; unfold execS
  simp only [Wp_eq, Wq_bind]
  constructor <;> intro h <;> refine h.mono fun x hx => ?_
  · unfold lstOf
    split at hx
    · rename_i e; simp only [Wp_eq, e, Wq_some] at hx ⊢; exact hx
    · exact ((Wq_none _).mp hx).elim
  · unfold lstOf at hx
    split at hx
    · rename_i e; simp only [Wp_eq, e, Wq_some] at hx ⊢; exact hx
    · exact ((Wq_none _).mp hx).elim
@[simp ↓] theorem w_if (t : E) (a b : List S) : Wp (execS (.if_ t a b) ro M) R .mk ↔ Wp (evalE t ro M) (fun x => Wp (brD x.1 (execB a x.2.1 x.2.2) (execB b x.2.1 x.2.2)) R .mk) .mk := by
  conv => lhs; unfold execS
  simp only [Wp_eq, Wq_bind]
  exact Iff.rfl
@[simp ↓] theorem w_for (src : Src) (as : List E) (tg : T) (body : List S) : Wp (execS (.for_ src as tg body) ro M) R .mk ↔ Wp (evalA as ro M) (fun x => x.1.any isBor = false ∧ Wp (src x.2.1 x.2.2 x.1) (fun all => Wp (forGo src x.1 all tg (execB body) all x.2.1 x.2.2) R .mk) .mk) .mk := by
  conv => lhs; unfold execS
  simp only [Wp_eq, Wq_bind, Wq_ite, Wq_none]
  constructor <;> intro h <;> refine h.mono fun x hx => ?_
  · by_cases e : x.1.any isBor = true
    · exact (hx.1 e).elim
    · exact ⟨Bool.not_eq_true _ ▸ e, hx.2 e⟩
  · exact ⟨fun n => (by rw [hx.1] at n; cases n), fun _ => hx.2⟩
@[simp ↓] theorem w_ret (e : E) : Wp (execS (.ret e) ro M) R .mk ↔ Wp (evalE e ro M) (fun x => isBor x.1 = false ∧ R (.ret x.1, x.2.1, x.2.2)) .mk := by
  conv => lhs; unfold execS
  simp only [Wp_eq, Wq_bind, Wq_ite, Wq_none, Wq_some]
  constructor <;> intro h <;> refine h.mono fun x hx => ?_
  · by_cases e : isBor x.1 = true
    · exact (hx.1 e).elim
    · exact ⟨Bool.not_eq_true _ ▸ e, hx.2 e⟩
  · exact ⟨fun n => (by rw [hx.1] at n; cases n), fun _ => hx.2⟩
@[simp ↓] theorem w_retN : Wp (execS .retN ro M) R .mk ↔ R (.ret .non, ro, M) := by unfold execS; rw [Wp_eq, Wq_some]
@[simp ↓] theorem w_brk : Wp (execS .brk ro M) R .mk ↔ R (.bk, ro, M) := by unfold execS; rw [Wp_eq, Wq_some]
@[simp ↓] theorem w_cont : Wp (execS .cont ro M) R .mk ↔ R (.ct, ro, M) := by unfold execS; rw [Wp_eq, Wq_some]
@[simp ↓] theorem w_pass : Wp (execS .pass ro M) R .mk ↔ R (.nx, ro, M) := by unfold execS; rw [Wp_eq, Wq_some]
def refOf : D → Option Nat
  | .ref k => some k
  | _ => none
@[simp] theorem refOf_ref (k : Nat) : refOf (.ref k) = some k := rfl
@[simp ↓] theorem w_setF (C : Addr) (o : E) (f : Str) (e : E) : Wp (execS (.setF C o f e) ro M) R .mk ↔ Wp (evalE e ro M) (fun y => isBor y.1 = false ∧ Wp (evalE o y.2.1 y.2.2) (fun x => Wp (refOf x.1) (fun k => Wp (insAt C x.2.2 (.ref k)) (fun fs => fs.length < 999 ∧ R (.nx, x.2.1, x.2.2.set k (.ins C (putD f y.1 fs)))) .mk) .mk) .mk) .mk := by
  conv => lhs; unfold execS
  simp only [Wp_eq, Wq_bind, Wq_ite, Wq_none]
  constructor <;> intro h <;> refine h.mono fun y hy => ?_
  · by_cases e : isBor y.1 = true
    · exact (hy.1 e).elim
    · refine ⟨Bool.not_eq_true _ ▸ e, (hy.2 e).mono fun x hx => ?_⟩
      unfold refOf
      split at hx
      · rename_i k e0
        simp only [Wp_eq, e0, Wq_some, Wq_bind, Wq_ite, Wq_none] at hx ⊢
        refine hx.mono fun fs hf => ?_
        by_cases e1 : fs.length < 999
        · exact ⟨e1, hf.1 e1⟩
        · exact (hf.2 e1).elim
      · exact ((Wq_none _).mp hx).elim
  · refine ⟨fun n => (by rw [hy.1] at n; cases n), fun _ => hy.2.mono fun x hx => ?_⟩
    unfold refOf at hx
    split at hx
    · rename_i k e0
      simp only [Wp_eq, e0, Wq_some, Wq_bind, Wq_ite, Wq_none] at hx ⊢
      exact hx.mono fun fs hf => ⟨fun _ => hf.2, fun n => n hf.1⟩
    · exact ((Wq_none _).mp hx).elim
@[simp ↓] theorem w_upd (f : Op3) (o i v : E) : Wp (execS (.upd f o i v) ro M) R .mk ↔ Wp (evalE v ro M) (fun z => isBor z.1 = false ∧ Wp (evalE o z.2.1 z.2.2) (fun x => Wp (evalE i x.2.1 x.2.2) (fun y => Wp (f y.2.1 y.2.2 x.1 y.1 z.1) (fun r => R (.nx, r.1, r.2)) .mk) .mk) .mk) .mk := by
  conv => lhs; unfold execS
  simp only [Wp_eq, Wq_bind, Wq_ite, Wq_none, Wq_map]
  constructor <;> intro h <;> refine h.mono fun y hy => ?_
  · by_cases e : isBor y.1 = true
    · exact (hy.1 e).elim
    · exact ⟨Bool.not_eq_true _ ▸ e, hy.2 e⟩
  · exact ⟨fun n => (by rw [hy.1] at n; cases n), fun _ => hy.2⟩
def valOf : Option (Option Sl) → Option D
  | some (some (.val d)) => some d
  | _ => none
@[simp] theorem valOf_val (d : D) : valOf (some (some (.val d))) = some d := rfl
@[simp ↓] theorem w_aug (i : Nat) (f : Op2) (e : E) : Wp (execS (.aug i f e) ro M) R .mk ↔ Wp (valOf ro[i]?) (fun d => Wp (evalE e ro M) (fun y => Wp (f y.2.1 y.2.2 d y.1) (fun z => isBor z = false ∧ R (.nx, y.2.1.set i (some (.val z)), y.2.2)) .mk) .mk) .mk := by
  conv => lhs; unfold execS
  rcases ro[i]? with _ | _ | ⟨d | xs⟩
  · simp only [Wp_eq, valOf, Wq_none]
  · simp only [Wp_eq, valOf, Wq_none]
  · simp only [Wp_eq, valOf, Wq_bind, Wq_ite, Wq_none, Wq_some]
    constructor <;> intro h <;> refine h.mono fun y hy => hy.mono fun z hz => ?_
    · by_cases e : isBor z = true
      · exact (hz.1 e).elim
      · exact ⟨Bool.not_eq_true _ ▸ e, hz.2 e⟩
    · exact ⟨fun n => (by rw [hz.1] at n; cases n), fun _ => hz.2⟩
  · simp only [Wp_eq, valOf, Wq_none]
@[simp ↓] theorem w_ownN (ix : List Nat) (bes : List (Bool × E)) : Wp (execS (.ownN ix bes) ro M) R .mk ↔ Wp (evM bes ro M) (fun x => Wp (setN ix x.1 x.2.1) (fun r => R (.nx, r, x.2.2)) .mk) .mk := by
  conv => lhs; unfold execS
  simp only [Wp_eq, Wq_bind, Wq_map]
@[simp ↓] theorem w_m0 {Q2 : List Sl × Ro × Ms → Prop} : Wp (evM [] ro M) Q2 .mk ↔ Q2 ([], ro, M) := by unfold evM; rw [Wp_eq, Wq_some]
@[simp ↓] theorem w_m1 {Q2 : List Sl × Ro × Ms → Prop} (b : Bool) (e : E) (es : List (Bool × E)) : Wp (evM ((b, e) :: es) ro M) Q2 .mk ↔ Wp (evalE e ro M) (fun x => Wp (slOf b x.1) (fun y => Wp (evM es x.2.1 x.2.2) (fun z => Q2 (y :: z.1, z.2.1, z.2.2)) .mk) .mk) .mk := by
  conv => lhs; unfold evM
  simp only [Wp_eq, Wq_bind, Wq_map]
@[simp ↓] theorem w_augF (C : Addr) (o : E) (nm : Str) (f : Op2) (e : E) : Wp (execS (.augF C o nm f e) ro M) R .mk ↔ Wp (evalE o ro M) (fun x => Wp (refOf x.1) (fun k => Wp (insAt C x.2.2 (.ref k)) (fun fs => Wp (fs.lookup nm) (fun d => Wp (evalE e x.2.1 x.2.2) (fun y => Wp (f y.2.1 y.2.2 d y.1) (fun z => isBor z = false ∧
    Wp (insAt C y.2.2 (.ref k)) (fun fs' => fs'.length < 999 ∧ R (.nx, y.2.1, y.2.2.set k (.ins C (putD nm z fs')))) .mk) .mk) .mk) .mk) .mk) .mk) .mk := by
  conv => lhs; unfold execS
  simp only [Wp_eq, Wq_bind]
  constructor <;> intro h <;> refine h.mono fun x hx => ?_
  · unfold refOf
    split at hx
    · rename_i k e0
      simp only [Wp_eq, e0, Wq_some, Wq_bind, Wq_ite, Wq_none] at hx ⊢
      refine hx.mono fun fs hf => hf.mono fun d hd => hd.mono fun y hy => hy.mono fun z hz => ?_
      by_cases e : isBor z = true
      · exact (hz.1 e).elim
      · refine ⟨Bool.not_eq_true _ ▸ e, (hz.2 e).mono fun fs' hf' => ?_⟩
        by_cases e1 : fs'.length < 999
        · exact ⟨e1, hf'.1 e1⟩
        · exact (hf'.2 e1).elim
    · exact ((Wq_none _).mp hx).elim
  · unfold refOf at hx
    split at hx
    · rename_i k e0
      simp only [Wp_eq, e0, Wq_some, Wq_bind, Wq_ite, Wq_none] at hx ⊢
      exact hx.mono fun fs hf => hf.mono fun d hd => hd.mono fun y hy => hy.mono fun z hz => ⟨fun n => (by rw [hz.1] at n; cases n), fun _ => hz.2.mono fun fs' hf' => ⟨fun _ => hf'.2, fun n => n hf'.1⟩⟩
    · exact ((Wq_none _).mp hx).elim
/-! ### a def -/
def endF : Fl × Ro × Ms → Option (D × Ms)
  | (.ret d, _, M') => some (d, M')
  | (.nx, _, M') => some (.non, M')
  | _ => none
@[simp] theorem endF_ret (d : D) (ro : Ro) (M : Ms) : endF (.ret d, ro, M) = some (d, M) := rfl
@[simp] theorem endF_nx (ro : Ro) (M : Ms) : endF (.nx, ro, M) = some (.non, M) := rfl
@[simp ↓] theorem w_runF (N : Nat) (b : List S) (ds : List D) {P : D × Ms → Prop} : Wp (runF N b ds M) P .mk ↔ Wp (execB b (startR N ds) M) (fun x => Wp (endF x) P .mk) .mk := by
  unfold runF
  cases h : execB b (startR N ds) M with
  | none => simp only [Wp_eq, Wq_none]
  | some x =>
    obtain ⟨fl, r, m⟩ := x
    cases fl <;> simp only [Wp_eq, Wq_some, endF]
end
end Sim
set_option Elab.async false
set_option linter.all false
set_option maxRecDepth 100000
set_option maxHeartbeats 4000000
/-! The operators, read from the root down. -/
namespace Sim
open PySem L2
section
variable {ro : Ro} {M : Ms} {Q : D → Prop} {Q2 : D × Ro × Ms → Prop} {Q3 : Ro × Ms → Prop} {QL : List D → Prop}

theorem Wp_of_eq {α : Type} {o o' : Option α} {P : α → Prop} (h : o = o') : Wp o P .mk ↔ Wp o' P .mk := by rw [h]
theorem Wp_iteN {α : Type} (c : Prop) [Decidable c] (p : Option α) (P : α → Prop) : Wp (if c then p else none) P .mk ↔ c ∧ Wp p P .mk := by
  by_cases h : c
  · rw [if_pos h]; exact ⟨fun q => ⟨h, q⟩, fun q => q.2⟩
  · rw [if_neg h, Wp_none]; exact ⟨False.elim, fun q => h q.1⟩
theorem Wp_iteF {α : Type} (c : Prop) [Decidable c] (p : Option α) (P : α → Prop) : Wp (if c then none else p) P .mk ↔ ¬c ∧ Wp p P .mk := by
  by_cases h : c
  · rw [if_pos h, Wp_none]; exact ⟨False.elim, fun q => q.1 h⟩
  · rw [if_neg h]; exact ⟨fun q => ⟨h, q⟩, fun q => q.2⟩
@[simp ↓ high] theorem Wp_iteN' {α : Type} (c : Prop) [Decidable c] (p : Option α) (P : α → Prop) : Wp (if c then p else none) P .mk ↔ c ∧ Wp p P .mk := Wp_iteN c p P
@[simp ↓ high] theorem Wp_iteF' {α : Type} (c : Prop) [Decidable c] (p : Option α) (P : α → Prop) : Wp (if c then none else p) P .mk ↔ ¬c ∧ Wp p P .mk := Wp_iteF c p P
/-! slots -/
@[simp] theorem asgT_name (i : Nat) (d : D) (ro : Ro) : asgT (.name i) d ro = if isBor d then none else some (ro.set i (some (.val d))) := by unfold asgT; rfl
@[simp] theorem asgT_tup (l : List T) (ds : List D) (ro : Ro) : asgT (.tup l) (.tup ds) ro = asgTs l ds ro := by rw [asgT]
@[simp] theorem asgTs_nil (ro : Ro) : asgTs [] [] ro = some ro := by rw [asgTs]
@[simp] theorem asgTs_cons (t : T) (ts : List T) (d : D) (ds : List D) (ro : Ro) : asgTs (t :: ts) (d :: ds) ro = (asgT t d ro).bind fun r => asgTs ts ds r := by rw [asgTs]
@[simp] theorem isBor_non : isBor .non = false := rfl
@[simp] theorem isBor_bl (b : Bool) : isBor (.bl b) = false := rfl
@[simp] theorem isBor_int (b : Int) : isBor (.int b) = false := rfl
@[simp] theorem isBor_str (b : Str) : isBor (.str b) = false := rfl
@[simp] theorem isBor_tup (b : List D) : isBor (.tup b) = false := rfl
@[simp] theorem isBor_lst (b : List D) : isBor (.lst b) = false := rfl
@[simp] theorem isBor_ref (b : Nat) : isBor (.ref b) = false := rfl
@[simp] theorem isBor_scr (b : List Int) : isBor (.scr b) = false := rfl
@[simp] theorem isBor_bor (b : Nat) : isBor (.bor b) = true := rfl
@[simp] theorem slOf_own (xs : List D) : slOf true (.lst xs) = some (.own xs) := rfl
@[simp] theorem slOf_val (d : D) : slOf false d = if isBor d then none else some (.val d) := by cases d <;> rfl
@[simp] theorem setN_nil (ro : Ro) : setN [] [] ro = some ro := rfl
@[simp] theorem setN_cons (i : Nat) (is : List Nat) (x : Sl) (xs : List Sl) (ro : Ro) : setN (i :: is) (x :: xs) ro = setN is xs (ro.set i (some x)) := rfl
@[simp] theorem wipeR_nil (ro : Ro) : wipeR ro [] = ro := rfl
@[simp] theorem wipeR_cons (ro : Ro) (v : Nat) (vs : List Nat) : wipeR ro (v :: vs) = (wipeR ro vs).set v none := rfl
/-! numbers -/
@[simp ↓] theorem w_add (i j : Int) : Wp (opAdd ro M (.int i) (.int j)) Q .mk ↔ Q (.int (i + j)) := Wp_some _ _
@[simp ↓] theorem w_addT (x y : List D) : Wp (opAdd ro M (.tup x) (.tup y)) Q .mk ↔ (x.length + y.length ≤ most ∧ Q (.tup (x ++ y))) := by
  show Wp (if x.length + y.length ≤ most then some (.tup (x ++ y)) else none) Q .mk ↔ _
  rw [Wp_iteN, Wp_some]
@[simp ↓] theorem w_addL (x y : List D) : Wp (opAdd ro M (.lst x) (.lst y)) Q .mk ↔ (x.length + y.length ≤ most ∧ Q (.lst (x ++ y))) := by
  show Wp (if x.length + y.length ≤ most then some (.lst (x ++ y)) else none) Q .mk ↔ _
  rw [Wp_iteN, Wp_some]
@[simp ↓] theorem w_sub (i j : Int) : Wp (opSub ro M (.int i) (.int j)) Q .mk ↔ Q (.int (i - j)) := Wp_some _ _
@[simp ↓] theorem w_addI (i j : Int) : Wp (opAddI ro M (.int i) (.int j)) Q .mk ↔ Q (.int (i + j)) := Wp_some _ _
@[simp ↓] theorem w_mul (i j : Int) : Wp (opMul ro M (.int i) (.int j)) Q .mk ↔ (((-lim < i ∧ i < lim) ∨ (-lim < j ∧ j < lim)) ∧ Q (.int (i * j))) := by
  show Wp (if _ then some (.int (i * j)) else none) Q .mk ↔ _
  rw [Wp_iteN, Wp_some]
@[simp ↓] theorem w_div (i j : Int) : Wp (opDiv ro M (.int i) (.int j)) Q .mk ↔ ((0 < j ∧ j < 1073741824) ∧ Q (.int (i / j))) := by
  show Wp (if _ then some (.int (i / j)) else none) Q .mk ↔ _
  rw [Wp_iteN, Wp_some]
@[simp ↓] theorem w_mod (i j : Int) : Wp (opMod ro M (.int i) (.int j)) Q .mk ↔ (0 < j ∧ Q (.int (i % j))) := by
  show Wp (if _ then some (.int (i % j)) else none) Q .mk ↔ _
  rw [Wp_iteN, Wp_some]
@[simp ↓] theorem w_pow (i j : Int) : Wp (opPow ro M (.int i) (.int j)) Q .mk ↔ ((0 ≤ j ∧ j ≤ 1000 ∧ i.natAbs < 1000) ∧ Q (.int (i ^ j.toNat))) := by
  show Wp (if _ then some (.int (i ^ j.toNat)) else none) Q .mk ↔ _
  rw [Wp_iteN, Wp_some]
@[simp ↓] theorem w_lt (i j : Int) : Wp (opLt ro M (.int i) (.int j)) Q .mk ↔ Q (.bl (decide (i < j))) := Wp_some _ _
@[simp ↓] theorem w_le (i j : Int) : Wp (opLe ro M (.int i) (.int j)) Q .mk ↔ Q (.bl (decide (i ≤ j))) := Wp_some _ _
@[simp ↓] theorem w_gt (i j : Int) : Wp (opGt ro M (.int i) (.int j)) Q .mk ↔ Q (.bl (decide (j < i))) := Wp_some _ _
@[simp ↓] theorem w_ge (i j : Int) : Wp (opGe ro M (.int i) (.int j)) Q .mk ↔ Q (.bl (decide (j ≤ i))) := Wp_some _ _
@[simp] theorem isNon_non : isNon .non = true := rfl
@[simp] theorem isNon_bl (b : Bool) : isNon (.bl b) = false := rfl
@[simp] theorem isNon_int (b : Int) : isNon (.int b) = false := rfl
@[simp] theorem isNon_str (b : Str) : isNon (.str b) = false := rfl
@[simp] theorem isNon_tup (b : List D) : isNon (.tup b) = false := rfl
@[simp] theorem isNon_lst (b : List D) : isNon (.lst b) = false := rfl
@[simp] theorem isNon_ref (b : Nat) : isNon (.ref b) = false := rfl
@[simp ↓] theorem w_is (d : D) : Wp (opIs ro M d .non) Q .mk ↔ (isBor d = false ∧ Q (.bl (isNon d))) := by
  show Wp (if isBor d then none else some (.bl (isNon d))) Q .mk ↔ _
  cases isBor d <;> simp
@[simp ↓] theorem w_isNot (d : D) : Wp (opIsNot ro M d .non) Q .mk ↔ (isBor d = false ∧ Q (.bl (!isNon d))) := by
  show Wp (if isBor d then none else some (.bl (!isNon d))) Q .mk ↔ _
  cases isBor d <;> simp
@[simp ↓] theorem w_eqI (i j : Int) : Wp (opEq ro M (.int i) (.int j)) Q .mk ↔ Q (.bl (decide (i = j))) := Wp_some _ _
@[simp ↓] theorem w_eqS (i j : Str) : Wp (opEq ro M (.str i) (.str j)) Q .mk ↔ Q (.bl (decide (i = j))) := Wp_some _ _
@[simp ↓] theorem w_neI (i j : Int) : Wp (opNe ro M (.int i) (.int j)) Q .mk ↔ Q (.bl (!decide (i = j))) := Wp_some _ _
@[simp ↓] theorem w_neS (i j : Str) : Wp (opNe ro M (.str i) (.str j)) Q .mk ↔ Q (.bl (!decide (i = j))) := Wp_some _ _
@[simp ↓] theorem w_neg (i : Int) : Wp (opNeg ro M [.int i]) Q .mk ↔ Q (.int (-i)) := Wp_some _ _
@[simp ↓] theorem w_min2 (i j : Int) : Wp (opMin2 ro M [.int i, .int j]) Q .mk ↔ Q (.int (min i j)) := by
  show Wp (some (D.int (if j < i then j else i))) Q .mk ↔ _
  rw [Wp_some]
  have : (if j < i then j else i) = min i j := by split <;> omega
  rw [this]
@[simp ↓] theorem w_max2 (i j : Int) : Wp (opMax2 ro M [.int i, .int j]) Q .mk ↔ Q (.int (max i j)) := by
  show Wp (some (D.int (if j > i then j else i))) Q .mk ↔ _
  rw [Wp_some]
  have : (if j > i then j else i) = max i j := by split <;> omega
  rw [this]
/-! lists and tuples -/
def lookB : Option (Option Sl) → Option (List D)
  | some (some (.own xs)) => some xs
  | some (some (.val (.lst xs))) => some xs
  | _ => none
@[simp] theorem lookB_own (xs : List D) : lookB (some (some (.own xs))) = some xs := rfl
@[simp] theorem lookB_val (xs : List D) : lookB (some (some (.val (.lst xs)))) = some xs := rfl
@[simp] theorem lookC_lst (xs : List D) : lookC (some (.lst xs)) = some xs := rfl
@[simp] theorem look_lst (xs : List D) : look ro M (.lst xs) = some xs := rfl
@[simp] theorem look_tup (xs : List D) : look ro M (.tup xs) = some xs := rfl
@[simp] theorem look_scr (ns : List Int) : look ro M (.scr ns) = some (ns.map D.int) := rfl
@[simp] theorem look_bor (i : Nat) : look ro M (.bor i) = lookB ro[i]? := rfl
@[simp] theorem look_ref (k : Nat) : look ro M (.ref k) = lookC M[k]? := rfl
@[simp] theorem lookL_lst (xs : List D) : lookL ro M (.lst xs) = some xs := rfl
@[simp] theorem lookL_bor (i : Nat) : lookL ro M (.bor i) = lookB ro[i]? := rfl
@[simp] theorem lookL_ref (k : Nat) : lookL ro M (.ref k) = lookC M[k]? := rfl
@[simp] theorem lookQ_lst (xs : List D) : lookQ ro M (.lst xs) = some xs := rfl
@[simp] theorem lookQ_bor (i : Nat) : lookQ ro M (.bor i) = lookB ro[i]? := rfl
@[simp] theorem lookQ_ref (k : Nat) : lookQ ro M (.ref k) = lookC M[k]? := rfl
@[simp] theorem tyL_def (d : D) : tyL ro M d = (lookL ro M d).isSome := rfl
@[simp ↓] theorem w_ixT (xs : List D) (i : Int) : Wp (opIx ro M (.tup xs) (.int i)) Q .mk ↔ Wp (atI xs i) Q .mk := Iff.rfl
@[simp ↓] theorem w_ixL (xs : List D) (i : Int) : Wp (opIx ro M (.lst xs) (.int i)) Q .mk ↔ Wp (atI xs i) Q .mk := Iff.rfl
@[simp ↓] theorem w_ixN (xs : List Int) (i : Int) : Wp (opIx ro M (.scr xs) (.int i)) Q .mk ↔ Wp (atI (xs.map D.int) i) Q .mk := Iff.rfl
@[simp ↓] theorem w_ixB (j : Nat) (i : Int) : Wp (opIx ro M (.bor j) (.int i)) Q .mk ↔ Wp (lookB ro[j]?) (fun xs => Wp (atI xs i) Q .mk) .mk := Wp_bind _ _ _
@[simp ↓] theorem w_ixR (j : Nat) (i : Int) : Wp (opIx ro M (.ref j) (.int i)) Q .mk ↔ Wp (lookC M[j]?) (fun xs => Wp (atI xs i) Q .mk) .mk := Wp_bind _ _ _
@[simp ↓] theorem w_ixS (x : Str) (i : Int) : Wp (opIx ro M (.str x) (.int i)) Q .mk ↔ (x.length ≤ most ∧ Wp (atI x.cps.toList i) (fun c => Q (.str ⟨#[c]⟩)) .mk) := by
  show Wp (if x.length ≤ most then (atI x.cps.toList i).map fun c => D.str ⟨#[c]⟩ else none) Q .mk ↔ _
  rw [Wp_iteN, Wp_map]
theorem atI_nat {α : Type} (xs : List α) (n : Nat) : atI xs (n : Int) = xs[n]? := by
  unfold atI ixN
  rw [if_pos (by omega)]
  by_cases h : n < xs.length
  · rw [if_pos (by omega)]; simp
  · rw [if_neg (by omega), List.getElem?_eq_none (by omega)]; rfl
@[simp] theorem atI_lit {α : Type} (xs : List α) (n : Nat) : atI xs (OfNat.ofNat n : Int) = xs[n]? := atI_nat xs n
@[simp] theorem atI_last {α : Type} (xs : List α) : atI xs (-1) = xs.getLast? := by
  unfold atI ixN
  rw [if_neg (by omega)]
  cases xs with
  | nil => simp
  | cons x xs =>
    rw [if_pos (by simp; omega)]
    rw [List.getLast?_eq_getElem?]
    simp only [Option.bind_some]
    congr 1
    simp
    omega
theorem atI_get {α : Type} (xs : List α) (i : Int) (h0 : 0 ≤ i) : atI xs i = xs[i.toNat]? := by
  obtain ⟨n, rfl⟩ := Int.eq_ofNat_of_zero_le h0
  rw [atI_nat]; rfl
@[simp ↓] theorem w_lenT (xs : List D) : Wp (opLen ro M [.tup xs]) Q .mk ↔ Q (.int xs.length) := Wp_some _ _
@[simp ↓] theorem w_lenL (xs : List D) : Wp (opLen ro M [.lst xs]) Q .mk ↔ Q (.int xs.length) := Wp_some _ _
@[simp ↓] theorem w_lenN (xs : List Int) : Wp (opLen ro M [.scr xs]) Q .mk ↔ Q (.int xs.length) := by
  show Wp (some (D.int (xs.map D.int).length)) Q .mk ↔ _
  rw [Wp_some, List.length_map]
@[simp ↓] theorem w_lenB (i : Nat) : Wp (opLen ro M [.bor i]) Q .mk ↔ Wp (lookB ro[i]?) (fun xs => Q (.int xs.length)) .mk := Wp_map _ _ _
@[simp ↓] theorem w_lenR (i : Nat) : Wp (opLen ro M [.ref i]) Q .mk ↔ Wp (lookC M[i]?) (fun xs => Q (.int xs.length)) .mk := Wp_map _ _ _
@[simp ↓] theorem w_lenS (x : Str) : Wp (opLen ro M [.str x]) Q .mk ↔ (x.length ≤ most ∧ Q (.int x.length)) := by
  show Wp (if x.length ≤ most then some (.int x.length) else none) Q .mk ↔ _
  rw [Wp_iteN, Wp_some]
@[simp ↓] theorem w_sum (d : D) : Wp (opSum ro M [d]) Q .mk ↔ Wp (lookQ ro M d) (fun xs => Wp (intsD xs) (fun ns => Q (.int ns.sum)) .mk) .mk := by
  show Wp ((lookQ ro M d).bind fun xs => (intsD xs).map fun ns => .int ns.sum) Q .mk ↔ _
  simp only [Wp_eq, Wq_bind, Wq_map]
theorem intsD_map : ∀ ns : List Int, intsD (ns.map D.int) = some ns
  | [] => rfl
  | n :: ns => by show (intsD (ns.map D.int)).map _ = _; rw [intsD_map ns]; rfl
theorem intsD_mapF {α : Type} (f : α → Int) (l : List α) : intsD (l.map fun x => D.int (f x)) = some (l.map f) := by
  have := intsD_map (l.map f)
  rwa [List.map_map] at this
@[simp ↓] theorem w_all (d : D) : Wp (opAll ro M [d]) Q .mk ↔ Wp (lookQ ro M d) (fun xs => Wp (boolsD xs) (fun ns => Q (.bl (ns.all id))) .mk) .mk := by
  show Wp ((lookQ ro M d).bind fun xs => (boolsD xs).map fun ns => .bl (ns.all id)) Q .mk ↔ _
  simp only [Wp_eq, Wq_bind, Wq_map]
theorem boolsD_map : ∀ ns : List Bool, boolsD (ns.map D.bl) = some ns
  | [] => rfl
  | n :: ns => by show (boolsD (ns.map D.bl)).map _ = _; rw [boolsD_map ns]; rfl
theorem boolsD_mapF {α : Type} (f : α → Bool) (l : List α) : boolsD (l.map fun x => D.bl (f x)) = some (l.map f) := by
  have := boolsD_map (l.map f)
  rwa [List.map_map] at this
@[simp ↓] theorem w_tuple (d : D) : Wp (opTuple ro M [d]) Q .mk ↔ Wp (look ro M d) (fun xs => Q (.tup xs)) .mk := Wp_map _ _ _
@[simp ↓] theorem w_list (d : D) : Wp (opList ro M [d]) Q .mk ↔ Wp (look ro M d) (fun xs => Q (.lst xs)) .mk := Wp_map _ _ _
@[simp] theorem srcSeq_def (d : D) : srcSeq ro M [d] = look ro M d := rfl
@[simp] theorem srcEnum_def (d : D) : srcEnum ro M [d] = (look ro M d).map (enumFrom 0) := rfl
@[simp] theorem srcStr_def (x : Str) : srcStr ro M [.str x] = some (signs x) := rfl
@[simp] theorem srcRng1_def (n : Int) : srcRng1 ro M [.int n] = if n < 100000 ∧ -100000 < n then some (rangeD 0 n.toNat) else none := rfl
@[simp] theorem srcRng2_def (a b : Int) : srcRng2 ro M [.int a, .int b] = if a < 100000 ∧ -100000 < a ∧ b < 100000 ∧ -100000 < b then some (rangeD a (b - a).toNat) else none := rfl
/-! types -/
@[simp] theorem tyD_non : tyD ro M .non = some "NoneType" := rfl
@[simp] theorem tyD_bl (b : Bool) : tyD ro M (.bl b) = some "bool" := rfl
@[simp] theorem tyD_int (b : Int) : tyD ro M (.int b) = some "int" := rfl
@[simp] theorem tyD_str (b : Str) : tyD ro M (.str b) = some "str" := rfl
@[simp] theorem tyD_tup (b : List D) : tyD ro M (.tup b) = some "tuple" := rfl
@[simp] theorem tyD_lst (b : List D) : tyD ro M (.lst b) = some "list" := rfl
@[simp ↓] theorem w_isi (n : String) (d : D) : Wp (opIsi n ro M [d]) Q .mk ↔ Wp (tyD ro M d) (fun t => Q (.bl (isiT t n))) .mk := Wp_map _ _ _
@[simp] theorem isi_ii : isiT "int" "int" = true := by decide +kernel
@[simp] theorem isi_ib : isiT "int" "bool" = false := by decide +kernel
@[simp] theorem isi_is : isiT "int" "str" = false := by decide +kernel
@[simp] theorem isi_it : isiT "int" "tuple" = false := by decide +kernel
@[simp] theorem isi_il : isiT "int" "list" = false := by decide +kernel
@[simp] theorem isi_bi : isiT "bool" "int" = true := by decide +kernel
@[simp] theorem isi_bb : isiT "bool" "bool" = true := by decide +kernel
@[simp] theorem isi_bs : isiT "bool" "str" = false := by decide +kernel
@[simp] theorem isi_si : isiT "str" "int" = false := by decide +kernel
@[simp] theorem isi_ss : isiT "str" "str" = true := by decide +kernel
@[simp] theorem isi_sb : isiT "str" "bool" = false := by decide +kernel
@[simp] theorem isi_st : isiT "str" "tuple" = false := by decide +kernel
@[simp] theorem isi_tt : isiT "tuple" "tuple" = true := by decide +kernel
@[simp] theorem isi_tl : isiT "tuple" "list" = false := by decide +kernel
@[simp] theorem isi_ti : isiT "tuple" "int" = false := by decide +kernel
@[simp] theorem isi_ts : isiT "tuple" "str" = false := by decide +kernel
@[simp] theorem isi_ll : isiT "list" "list" = true := by decide +kernel
@[simp] theorem isi_lt : isiT "list" "tuple" = false := by decide +kernel
@[simp] theorem isi_ni : isiT "NoneType" "int" = false := by decide +kernel
@[simp] theorem isi_ns : isiT "NoneType" "str" = false := by decide +kernel
@[simp] theorem isi_nt : isiT "NoneType" "tuple" = false := by decide +kernel
/-! changes of lists -/
@[simp ↓] theorem w_appB (i : Nat) (x : D) : Wp (opApp ro M (.bor i) [x]) Q2 .mk ↔ Wp (lookB ro[i]?) (fun xs => (isBor x = false ∧ xs.length < most) ∧ Wp (putL ro M (.bor i) (xs ++ [x])) (fun r => Q2 (.non, r.1, r.2)) .mk) .mk := by
  show Wp ((lookB ro[i]?).bind fun xs => if isBor x || decide (most ≤ xs.length) then none else (putL ro M (.bor i) (xs ++ [x])).map fun r => (.non, r.1, r.2)) Q2 .mk ↔ _
  simp only [Wp_eq, Wq_bind, Wq_ite, Wq_none, Wq_map]
  constructor <;> intro h <;> refine h.mono fun xs hx => ?_
  · by_cases e : (isBor x || decide (most ≤ xs.length)) = true
    · exact (hx.1 e).elim
    · have e' := e
      rw [Bool.not_eq_true, Bool.or_eq_false_iff, decide_eq_false_iff_not, Nat.not_le] at e'
      exact ⟨e', hx.2 e⟩
  · have e : (isBor x || decide (most ≤ xs.length)) = false := by
      rw [Bool.or_eq_false_iff, decide_eq_false_iff_not, Nat.not_le]; exact hx.1
    exact ⟨fun n => (by rw [e] at n; cases n), fun _ => hx.2⟩
@[simp ↓] theorem w_appR (i : Nat) (x : D) : Wp (opApp ro M (.ref i) [x]) Q2 .mk ↔ Wp (lookC M[i]?) (fun xs => (isBor x = false ∧ xs.length < most) ∧ Q2 (.non, ro, M.set i (.lst (xs ++ [x])))) .mk := by
  show Wp ((lookC M[i]?).bind fun xs => if isBor x || decide (most ≤ xs.length) then none else (putL ro M (.ref i) (xs ++ [x])).map fun r => (.non, r.1, r.2)) Q2 .mk ↔ _
  simp only [Wp_eq, Wq_bind, Wq_ite, Wq_none, Wq_map]
  constructor <;> intro h
  · obtain ⟨xs, e0, hx⟩ := h
    refine ⟨xs, e0, ?_⟩
    by_cases e : (isBor x || decide (most ≤ xs.length)) = true
    · exact (hx.1 e).elim
    · have e' := e
      rw [Bool.not_eq_true, Bool.or_eq_false_iff, decide_eq_false_iff_not, Nat.not_le] at e'
      refine ⟨e', ?_⟩
      obtain ⟨r, er, hr⟩ := hx.2 e
      unfold lookC at e0
      split at e0
      · rename_i ys ey
        simp only [putL, ey] at er
        cases er; exact hr
      · cases e0
  · obtain ⟨xs, e0, hx⟩ := h
    refine ⟨xs, e0, ?_⟩
    have e : (isBor x || decide (most ≤ xs.length)) = false := by
      rw [Bool.or_eq_false_iff, decide_eq_false_iff_not, Nat.not_le]; exact hx.1
    refine ⟨fun n => (by rw [e] at n; cases n), fun _ => ?_⟩
    unfold lookC at e0
    split at e0
    · rename_i ys ey
      exact ⟨(ro, M.set i (.lst (xs ++ [x]))), by simp only [putL, ey], hx.2⟩
    · cases e0
def putB (i : Nat) (x : Option (Option Sl)) (ro : Ro) (M : Ms) (ys : List D) : Option (Ro × Ms) := match x with
  | some (some (.own _)) => some (ro.set i (some (.own ys)), M)
  | _ => none
@[simp] theorem putB_own (i : Nat) (xs : List D) (ro : Ro) (M : Ms) (ys : List D) : putB i (some (some (.own xs))) ro M ys = some (ro.set i (some (.own ys)), M) := rfl
@[simp] theorem putL_bor (i : Nat) (ys : List D) : putL ro M (.bor i) ys = putB i ro[i]? ro M ys := rfl
def putC (k : Nat) (x : Option Cell) (ro : Ro) (M : Ms) (ys : List D) : Option (Ro × Ms) := match x with
  | some (.lst _) => some (ro, M.set k (.lst ys))
  | _ => none
@[simp] theorem putC_lst (k : Nat) (xs : List D) (ro : Ro) (M : Ms) (ys : List D) : putC k (some (.lst xs)) ro M ys = some (ro, M.set k (.lst ys)) := rfl
@[simp] theorem putL_ref (k : Nat) (ys : List D) : putL ro M (.ref k) ys = putC k M[k]? ro M ys := rfl
@[simp ↓] theorem w_setL (o v : D) (j : Int) : Wp (setL ro M o (.int j) v) Q3 .mk ↔ Wp (lookL ro M o) (fun xs => Wp (ixN xs.length j) (fun n => Wp (putL ro M o (xs.set n v)) Q3 .mk) .mk) .mk := by
  show Wp ((lookL ro M o).bind fun xs => (ixN xs.length j).bind fun n => putL ro M o (xs.set n v)) Q3 .mk ↔ _
  simp only [Wp_eq, Wq_bind]
/-! objects -/
def insC (C : Addr) : Option Cell → Option (List (Str × D))
  | some (.ins C' fs) => if C' = C then some fs else none
  | _ => none
@[simp] theorem insAt_ref (C : Addr) (k : Nat) : insAt C M (.ref k) = insC C M[k]? := rfl
@[simp] theorem insC_ins (C : Addr) (fs : List (Str × D)) : insC C (some (.ins C fs)) = some fs := by show (if C = C then some fs else none) = _; rw [if_pos rfl]
/-! dicts -/
def dGet : Option Cell → D → Option (Option D)
  | some (.dK kvs), b => (keyK b).map fun q => getD kvs q
  | some (.dT kvs), b => (keyT b).map fun q => getD kvs q
  | _, _ => none
@[simp] theorem dictGet_ref (k : Nat) (b : D) : dictGet M (.ref k) b = dGet M[k]? b := by
  simp only [dictGet]
  rcases M[k]? with _ | c
  · rfl
  · cases c <;> rfl
@[simp] theorem dGet_K (kvs : List (Key × D)) (b : D) : dGet (some (.dK kvs)) b = (keyK b).map fun q => getD kvs q := rfl
@[simp] theorem dGet_T (kvs : List (List Key × D)) (b : D) : dGet (some (.dT kvs)) b = (keyT b).map fun q => getD kvs q := rfl
@[simp] theorem keyK_int (i : Int) : keyK (.int i) = some (.inl i) := rfl
@[simp] theorem keyK_str (i : Str) : keyK (.str i) = some (.inr i) := rfl
@[simp] theorem keysK_nil : keysK [] = some [] := rfl
@[simp] theorem keysK_cons (d : D) (r : List D) : keysK (d :: r) = (keyK d).bind fun k => (keysK r).map fun q => k :: q := rfl
@[simp] theorem keyT_tup (l : List D) : keyT (.tup l) = keysK l := rfl
@[simp ↓] theorem w_dIx (a b : D) : Wp (opDIx ro M a b) Q .mk ↔ Wp (dictGet M a b) (fun o => Wp o Q .mk) .mk := Wp_bind _ _ _
@[simp ↓] theorem w_dIn (a b : D) : Wp (opDIn ro M b a) Q .mk ↔ Wp (dictGet M a b) (fun o => Q (.bl o.isSome)) .mk := Wp_map _ _ _
@[simp ↓] theorem w_dNotIn (a b : D) : Wp (opDNotIn ro M b a) Q .mk ↔ Wp (dictGet M a b) (fun o => Q (.bl (!o.isSome))) .mk := Wp_map _ _ _
@[simp ↓] theorem w_dGet2 (o k x : D) : Wp (opDGet2 ro M o [k, x]) Q2 .mk ↔ Wp (dictGet M o k) (fun z => (z = none → isBor x = false) ∧ Q2 (z.getD x, ro, M)) .mk := by
  show Wp ((dictGet M o k).bind fun o => match o with
    | some z => some (z, ro, M)
    | none => if isBor x then none else some (x, ro, M)) Q2 .mk ↔ _
  simp only [Wp_eq, Wq_bind]
  constructor <;> intro h <;> refine h.mono fun z hz => ?_
  · cases z with
    | none =>
      simp only [Wq_ite, Wq_none, Wq_some] at hz
      by_cases e : isBor x = true
      · exact (hz.1 e).elim
      · exact ⟨fun _ => Bool.not_eq_true _ ▸ e, hz.2 e⟩
    | some z => exact ⟨fun n => (by cases n), (Wq_some _ _).mp hz⟩
  · cases z with
    | none =>
      simp only [Wq_ite, Wq_none, Wq_some]
      exact ⟨fun n => (by rw [hz.1 rfl] at n; cases n), fun _ => hz.2⟩
    | some z => exact (Wq_some _ _).mpr hz.2
def tyC : Option Cell → Bool
  | some (.dK _) => true
  | some (.dT _) => true
  | _ => false
@[simp] theorem tyC_K (kvs : List (Key × D)) : tyC (some (.dK kvs)) = true := rfl
@[simp] theorem tyC_T (kvs : List (List Key × D)) : tyC (some (.dT kvs)) = true := rfl
@[simp] theorem tyDct_ref (k : Nat) : tyDct ro M (.ref k) = tyC M[k]? := by
  simp only [tyDct]
  rcases M[k]? with _ | c
  · rfl
  · cases c <;> rfl
@[simp ↓] theorem w_newK : Wp (evalE eNewK ro M) Q2 .mk ↔ Q2 (.ref M.length, ro, M ++ [.dK []]) := by
  unfold eNewK
  simp
  exact Wp_some _ _
@[simp ↓] theorem w_newT : Wp (evalE eNewT ro M) Q2 .mk ↔ Q2 (.ref M.length, ro, M ++ [.dT []]) := by
  unfold eNewT
  simp
  exact Wp_some _ _
def dSet (k : Nat) (M : Ms) : Option Cell → D → D → Option Ms
  | some (.dK kvs), b, v => (keyK b).bind fun q => if most ≤ kvs.length then none else some (M.set k (.dK (setD kvs q v)))
  | some (.dT kvs), b, v => (keyT b).bind fun q => if most ≤ kvs.length then none else some (M.set k (.dT (setD kvs q v)))
  | _, _, _ => none
@[simp] theorem dSet_K (k : Nat) (kvs : List (Key × D)) (b v : D) : dSet k M (some (.dK kvs)) b v = (keyK b).bind fun q => if most ≤ kvs.length then none else some (M.set k (.dK (setD kvs q v))) := rfl
@[simp] theorem dSet_T (k : Nat) (kvs : List (List Key × D)) (b v : D) : dSet k M (some (.dT kvs)) b v = (keyT b).bind fun q => if most ≤ kvs.length then none else some (M.set k (.dT (setD kvs q v))) := rfl
@[simp ↓] theorem w_setDict (k : Nat) (b v : D) : Wp (setDict ro M (.ref k) b v) Q3 .mk ↔ Wp (dSet k M M[k]? b v) (fun m => Q3 (ro, m)) .mk := by
  have e : setDict ro M (.ref k) b v = (dSet k M M[k]? b v).map fun m => (ro, m) := by
    simp only [setDict, dictSet]
    rcases M[k]? with _ | c
    · rfl
    · cases c <;> rfl
  rw [e, Wp_map]
@[simp ↓] theorem w_sortSet (d : D) : Wp (opSortSet ro M [d]) Q .mk ↔ Wp (lookQ ro M d) (fun xs => Wp (intsD xs) (fun ns => ns.length ≤ 60 ∧ Q (.lst ((sortI ns).map D.int))) .mk) .mk := by
  show Wp ((lookQ ro M d).bind fun xs => (intsD xs).bind fun ns => if ns.length ≤ 60 then some (.lst ((sortI ns).map D.int)) else none) Q .mk ↔ _
  simp only [Wp_eq, Wq_bind, Wq_ite, Wq_none, Wq_some]
  constructor <;> intro h <;> refine h.mono fun xs hx => hx.mono fun ns hn => ?_
  · by_cases e : ns.length ≤ 60
    · exact ⟨e, hn.1 e⟩
    · exact (hn.2 e).elim
  · exact ⟨fun _ => hn.2, fun n => n hn.1⟩
theorem blkFine_nil (vs : List Nat) (tg : T) (d : D) (h : (tg.slots.all fun i => vs.contains i) = true) (hd : isBor d = false) : blkFine vs tg [d] = true := by
  unfold blkFine
  rw [h]
  cases d <;> first | rfl | cases hd
end
end Sim
set_option Elab.async false
set_option linter.all false
set_option maxRecDepth 100000
set_option maxHeartbeats 4000000
/-! Loops and comprehensions over typed lists. -/
namespace Sim
open PySem L2
@[simp] theorem atI_0 {α : Type} (xs : List α) : atI xs 0 = xs[0]? := atI_nat xs 0
@[simp] theorem atI_1 {α : Type} (xs : List α) : atI xs 1 = xs[1]? := atI_nat xs 1
@[simp] theorem atI_2 {α : Type} (xs : List α) : atI xs 2 = xs[2]? := atI_nat xs 2
@[simp] theorem atI_3 {α : Type} (xs : List α) : atI xs 3 = xs[3]? := atI_nat xs 3
@[simp] theorem atI_4 {α : Type} (xs : List α) : atI xs 4 = xs[4]? := atI_nat xs 4
@[simp] theorem atI_5 {α : Type} (xs : List α) : atI xs 5 = xs[5]? := atI_nat xs 5
@[simp] theorem atI_6 {α : Type} (xs : List α) : atI xs 6 = xs[6]? := atI_nat xs 6
@[simp] theorem atI_7 {α : Type} (xs : List α) : atI xs 7 = xs[7]? := atI_nat xs 7
theorem ixN_nat (n j : Nat) : ixN n (j : Int) = if j < n then some j else none := by
  unfold ixN
  rw [if_pos (by omega)]
  by_cases h : j < n
  · rw [if_pos (by omega), if_pos h]; simp
  · rw [if_neg (by omega), if_neg h]
@[simp] theorem ixN_0 (n : Nat) : ixN n 0 = if 0 < n then some 0 else none := ixN_nat n 0
@[simp] theorem ixN_1 (n : Nat) : ixN n 1 = if 1 < n then some 1 else none := ixN_nat n 1
@[simp] theorem ixN_2 (n : Nat) : ixN n 2 = if 2 < n then some 2 else none := ixN_nat n 2
@[simp] theorem ixN_3 (n : Nat) : ixN n 3 = if 3 < n then some 3 else none := ixN_nat n 3
@[simp] theorem ixN_last (n : Nat) : ixN n (-1) = if 0 < n then some (n - 1) else none := by
  unfold ixN
  rw [if_neg (by omega)]
  by_cases h : 0 < n
  · rw [if_pos (by omega), if_pos h]; congr 1; omega
  · rw [if_neg (by omega), if_neg h]
@[simp] theorem startR_eq (N : Nat) (ds : List D) : startR N ds = ds.map (fun d => some (Sl.val d)) ++ List.replicate (N - ds.length) none := rfl

/-- how a turn goes on -/
def contK (r : Fl × Ro × Ms) (I : Ro → Ms → Prop) (R : Fl × Ro × Ms → Prop) : Prop := match r with
  | (.nx, ro, M) => I ro M
  | (.ct, ro, M) => I ro M
  | (.bk, ro, M) => R (.nx, ro, M)
  | (.ret d, ro, M) => R (.ret d, ro, M)
@[simp] theorem contK_nx (ro : Ro) (M : Ms) (I : Ro → Ms → Prop) (R : Fl × Ro × Ms → Prop) : contK (.nx, ro, M) I R = I ro M := rfl
@[simp] theorem contK_ct (ro : Ro) (M : Ms) (I : Ro → Ms → Prop) (R : Fl × Ro × Ms → Prop) : contK (.ct, ro, M) I R = I ro M := rfl
@[simp] theorem contK_bk (ro : Ro) (M : Ms) (I : Ro → Ms → Prop) (R : Fl × Ro × Ms → Prop) : contK (.bk, ro, M) I R = R (.nx, ro, M) := rfl
@[simp] theorem contK_ret (d : D) (ro : Ro) (M : Ms) (I : Ro → Ms → Prop) (R : Fl × Ro × Ms → Prop) : contK (.ret d, ro, M) I R = R (.ret d, ro, M) := rfl
def encFrom {α : Type} (enc : Nat → α → D) : Nat → List α → List D
  | _, [] => []
  | n, a :: l => enc n a :: encFrom enc (n + 1) l
theorem encFrom_map {α : Type} (f : α → D) : ∀ (n : Nat) (l : List α), encFrom (fun _ a => f a) n l = l.map f
  | _, [] => rfl
  | n, a :: l => by show f a :: _ = _; rw [encFrom_map f (n + 1) l]; rfl
theorem encFrom_enum {α : Type} (f : α → D) : ∀ (n : Nat) (l : List α), encFrom (fun n a => .tup [.int n, f a]) n l = enumFrom n (l.map f)
  | _, [] => rfl
  | n, a :: l => by show D.tup _ :: _ = _; rw [encFrom_enum f (n + 1) l]; rfl
theorem encFrom_range : ∀ (k n : Nat), encFrom (fun n (_ : Unit) => .int n) n (List.replicate k ()) = rangeD n k
  | 0, _ => rfl
  | k + 1, n => by
    show D.int n :: encFrom _ (n + 1) (List.replicate k ()) = .int n :: rangeD ((n : Int) + 1) k
    rw [encFrom_range k (n + 1)]; rfl
theorem forGo_nil {src : Src} {ds all : List D} {tg : T} {body : Ex} {ro : Ro} {M : Ms} (h : src ro M ds = some all) : forGo src ds all tg body [] ro M = some (.nx, ro, M) := by
  unfold forGo; rw [if_pos h]
theorem forGo_cons {src : Src} {ds all : List D} {tg : T} {body : Ex} {x : D} {xs : List D} {ro : Ro} {M : Ms} {R : Fl × Ro × Ms → Prop} (h : src ro M ds = some all) :
    Wp (asgT tg x ro) (fun r1 => Wp (body r1 M) (fun r => contK r (fun ro' M' => Wp (forGo src ds all tg body xs ro' M') R .mk) R) .mk) .mk → Wp (forGo src ds all tg body (x :: xs) ro M) R .mk := by
  intro w
  unfold forGo
  rw [if_pos h]
  simp only [Wp_eq, Wq_bind]
  refine Wq.mono w fun r1 w1 => Wq.mono w1 fun r w2 => ?_
  obtain ⟨fl, r2, M2⟩ := r
  cases fl with
  | nx => exact w2
  | ct => exact w2
  | bk => exact (Wq_some _ _).mpr w2
  | ret d => exact (Wq_some _ _).mpr w2
/-- a loop by what is left of a typed list -/
theorem for_ind {α : Type} {enc : Nat → α → D} {src : Src} {ds all : List D} {tg : T} {body : Ex} {R : Fl × Ro × Ms → Prop} (I : Nat → List α → Ro → Ms → Prop)
    (hs : ∀ n l ro M, I n l ro M → src ro M ds = some all)
    (step : ∀ n a l ro M, I n (a :: l) ro M → Wp (asgT tg (enc n a) ro) (fun r1 => Wp (body r1 M) (fun r => contK r (I (n + 1) l) R) .mk) .mk)
    (fin : ∀ n ro M, I n [] ro M → R (.nx, ro, M)) : ∀ (l : List α) (n : Nat) (ro : Ro) (M : Ms), I n l ro M → Wp (forGo src ds all tg body (encFrom enc n l) ro M) R .mk
  | [], n, ro, M, h => Wp.of (forGo_nil (hs _ _ _ _ h)) (fin _ _ _ h)
  | a :: l, n, ro, M, h => forGo_cons (hs _ _ _ _ h) ((step _ _ _ _ _ h).mono fun r1 h1 => h1.mono fun r h2 => by
    obtain ⟨fl, r2, M2⟩ := r
    cases fl with
    | nx => exact for_ind I hs step fin l (n + 1) r2 M2 h2
    | ct => exact for_ind I hs step fin l (n + 1) r2 M2 h2
    | bk => exact h2
    | ret d => exact h2)
/-- over a list or tuple of one kind -/
theorem for_map {α : Type} {f : α → D} {src : Src} {ds all : List D} {tg : T} {body : Ex} {R : Fl × Ro × Ms → Prop} (I : List α → Ro → Ms → Prop) {l : List α} {ro : Ro} {M : Ms} (h0 : I l ro M)
    (hs : ∀ l ro M, I l ro M → src ro M ds = some all)
    (step : ∀ a l ro M, I (a :: l) ro M → Wp (asgT tg (f a) ro) (fun r1 => Wp (body r1 M) (fun r => contK r (I l) R) .mk) .mk)
    (fin : ∀ ro M, I [] ro M → R (.nx, ro, M)) : Wp (forGo src ds all tg body (l.map f) ro M) R .mk := by
  rw [← encFrom_map f 0 l]
  exact for_ind (fun _ l ro M => I l ro M) (fun _ => hs) (fun _ => step) (fun _ => fin) l 0 ro M h0
theorem for_enum {α : Type} {f : α → D} {src : Src} {ds all : List D} {tg : T} {body : Ex} {R : Fl × Ro × Ms → Prop} (I : Nat → List α → Ro → Ms → Prop) {l : List α} {n : Nat} {ro : Ro} {M : Ms} (h0 : I n l ro M)
    (hs : ∀ n l ro M, I n l ro M → src ro M ds = some all)
    (step : ∀ n a l ro M, I n (a :: l) ro M → Wp (asgT tg (.tup [.int n, f a]) ro) (fun r1 => Wp (body r1 M) (fun r => contK r (I (n + 1) l) R) .mk) .mk)
    (fin : ∀ n ro M, I n [] ro M → R (.nx, ro, M)) : Wp (forGo src ds all tg body (enumFrom n (l.map f)) ro M) R .mk := by
  rw [← encFrom_enum f n l]
  exact for_ind I hs step fin l n ro M h0
theorem for_rng {src : Src} {ds all : List D} {tg : T} {body : Ex} {R : Fl × Ro × Ms → Prop} (I : Nat → Ro → Ms → Prop) {k : Nat} {ro : Ro} {M : Ms} (h0 : I 0 ro M)
    (hs : ∀ n ro M, n ≤ k → I n ro M → src ro M ds = some all)
    (step : ∀ n ro M, n < k → I n ro M → Wp (asgT tg (.int n) ro) (fun r1 => Wp (body r1 M) (fun r => contK r (I (n + 1)) R) .mk) .mk)
    (fin : ∀ ro M, I k ro M → R (.nx, ro, M)) : Wp (forGo src ds all tg body (rangeD 0 k) ro M) R .mk := by
  have := encFrom_range k 0
  rw [show ((0 : Nat) : Int) = 0 from rfl] at this
  rw [← this]
  refine for_ind (fun n l ro M => n + l.length = k ∧ I n ro M) (fun n l ro M h => hs n ro M (by omega) h.2) (fun n a l ro M h => ?_) (fun n ro M h => fin ro M (by have := h.1; simp at this; subst this; exact h.2)) _ 0 ro M ⟨by simp, h0⟩
  have hl := h.1
  rw [List.length_cons] at hl
  refine (step n ro M (by omega) h.2).mono fun r1 h1 => h1.mono fun r h2 => ?_
  obtain ⟨fl, r2, M2⟩ := r
  cases fl with
  | nx => exact ⟨by omega, h2⟩
  | ct => exact ⟨by omega, h2⟩
  | bk => exact h2
  | ret d => exact h2
/-- a comprehension whose parts change nothing -/
theorem comp_pure {α : Type} {f : α → D} {src : Src} {ds all : List D} {tg : T} {test elt : Ev} {vs : List Nat} (t : α → Bool) (e : α → D) {ro : Ro} {M : Ms} (hs : src ro M ds = some all) :
    ∀ (l : List α) (acc : List D), acc.length + l.length ≤ most → (∀ a ∈ l, isBor (e a) = false ∧ Wp (asgT tg (f a) ro) (fun r1 => Wp (test r1 M) (fun y => y.1 = .bl (t a) ∧ y.2.2 = M ∧
      if t a then Wp (elt y.2.1 M) (fun z => z.1 = e a ∧ z.2.2 = M ∧ wipeR z.2.1 vs = ro) .mk else wipeR y.2.1 vs = ro) .mk) .mk) →
    compGo src ds all tg test elt vs (l.map f) acc ro M = some (acc ++ (l.filter t).map e, ro, M)
  | [], acc, _, _ => by
    show compGo src ds all tg test elt vs [] acc ro M = _
    unfold compGo; rw [if_pos hs]; simp
  | a :: l, acc, hl, h => by
    rw [List.length_cons] at hl
    obtain ⟨hb, r1, e1, ⟨yd, yr, ym⟩, e2, q1, q2, q3⟩ := h a List.mem_cons_self
    have q1' : yd = .bl (t a) := q1
    have q2' : ym = M := q2
    subst q1' q2'
    show compGo src ds all tg test elt vs (f a :: l.map f) acc ro ym = _
    unfold compGo
    rw [if_pos hs, e1, Option.bind_some, e2, Option.bind_some]
    cases ht : t a with
    | false =>
      rw [ht] at q3
      have q3' : wipeR yr vs = ro := q3
      show compGo src ds all tg test elt vs (l.map f) acc (wipeR yr vs) ym = _
      rw [q3', comp_pure t e hs l acc (by omega) fun b hb => h b (List.mem_cons_of_mem _ hb), List.filter_cons, ht]
      rfl
    | true =>
      rw [ht] at q3
      obtain ⟨⟨zd, zr, zm⟩, e3, z1, z2, z3⟩ := q3
      have z1' : zd = e a := z1
      have z2' : zm = ym := z2
      have z3' : wipeR zr vs = ro := z3
      subst z2'
      show ((elt yr zm).bind fun x => if isBor x.1 || decide (most < acc.length) then none else compGo src ds all tg test elt vs (l.map f) (acc ++ [x.1]) (wipeR x.2.1 vs) x.2.2) = _
      rw [e3, Option.bind_some]
      show (if isBor zd || decide (most < acc.length) then none else compGo src ds all tg test elt vs (l.map f) (acc ++ [zd]) (wipeR zr vs) zm) = _
      rw [z1', hb, if_neg (by simp; omega), z3', comp_pure t e hs l (acc ++ [e a]) (by rw [List.length_append, List.length_singleton]; omega) fun b hb => h b (List.mem_cons_of_mem _ hb), List.filter_cons, ht]
      simp
def borOk (vs : List Nat) : D → Bool
  | .bor i => !vs.contains i
  | _ => true
@[simp] theorem blkFine_eq (vs : List Nat) (tg : T) (ds : List D) : blkFine vs tg ds = ((tg.slots.all fun i => vs.contains i) && ds.all (borOk vs)) := by
  unfold blkFine
  congr 1
@[simp] theorem borOk_non (vs : List Nat) : borOk vs .non = true := rfl
@[simp] theorem borOk_bl (vs : List Nat) (b : Bool) : borOk vs (.bl b) = true := rfl
@[simp] theorem borOk_int (vs : List Nat) (b : Int) : borOk vs (.int b) = true := rfl
@[simp] theorem borOk_str (vs : List Nat) (b : Str) : borOk vs (.str b) = true := rfl
@[simp] theorem borOk_tup (vs : List Nat) (b : List D) : borOk vs (.tup b) = true := rfl
@[simp] theorem borOk_lst (vs : List Nat) (b : List D) : borOk vs (.lst b) = true := rfl
@[simp] theorem borOk_ref (vs : List Nat) (b : Nat) : borOk vs (.ref b) = true := rfl
@[simp] theorem borOk_scr (vs : List Nat) (b : List Int) : borOk vs (.scr b) = true := rfl
@[simp] theorem borOk_bor (vs : List Nat) (i : Nat) : borOk vs (.bor i) = !vs.contains i := rfl
@[simp] theorem slots_name (i : Nat) : T.slots (.name i) = [i] := by rw [T.slots]
@[simp] theorem slots_tup (l : List T) : T.slots (.tup l) = Ts.slots l := by rw [T.slots]
@[simp] theorem slots_nil : Ts.slots [] = [] := by rw [Ts.slots]
@[simp] theorem slots_cons (t : T) (l : List T) : Ts.slots (t :: l) = T.slots t ++ Ts.slots l := by rw [Ts.slots]
theorem filter_tt {α : Type} (l : List α) : l.filter (fun _ => true) = l := by simp
theorem comp_all {α : Type} {f : α → D} {src : Src} {ds all : List D} {tg : T} {test elt : Ev} {vs : List Nat} (e : α → D) {ro : Ro} {M : Ms} (hs : src ro M ds = some all) (l : List α) (acc : List D) (hl : acc.length + l.length ≤ most)
    (h : ∀ a ∈ l, isBor (e a) = false ∧ Wp (asgT tg (f a) ro) (fun r1 => Wp (test r1 M) (fun y => y.1 = .bl true ∧ y.2.2 = M ∧ Wp (elt y.2.1 M) (fun z => z.1 = e a ∧ z.2.2 = M ∧ wipeR z.2.1 vs = ro) .mk) .mk) .mk) :
    compGo src ds all tg test elt vs (l.map f) acc ro M = some (acc ++ l.map e, ro, M) := by
  have := comp_pure (fun _ => true) e hs l acc hl fun a ha => ⟨(h a ha).1, (h a ha).2.mono fun r1 h1 => h1.mono fun y h2 => ⟨h2.1, h2.2.1, by rw [if_pos rfl]; exact h2.2.2⟩⟩
  rw [this, filter_tt]
theorem lim_eq : lim = 18446744073709551616 := rfl
theorem most_eq : most = 100000 := rfl
end Sim
set_option Elab.async false
set_option linter.all false
set_option maxRecDepth 100000
set_option maxHeartbeats 4000000
/-! Equality of plain data. -/
namespace Sim
open PySem L2
mutual
def plainD : Nat → D → Bool
  | _, .non => true
  | _, .int _ => true
  | _, .str x => PyData.strOk x
  | n, .tup l => plainL n l
  | n, .lst l => plainL n l
  | _, _ => false
def plainL : Nat → List D → Bool
  | _, [] => true
  | 0, _ :: _ => false
  | n + 1, d :: l => plainD n d && plainL (n + 1) l
end
mutual
def pyD : D → PyData
  | .int i => .int i
  | .str x => .str x
  | .tup l => .tuple (pyL l)
  | .lst l => .list (pyL l)
  | _ => .none
def pyL : List D → List PyData
  | [] => []
  | d :: l => pyD d :: pyL l
end
mutual
theorem plain_py : ∀ (n : Nat) (d : D), plainD n d = true → toPy d = some (pyD d) ∧ (pyD d).canLay0 = true ∧ (pyD d).depth ≤ n + 1
  | _, .non, _ => ⟨rfl, rfl, by simp [pyD, PyData.depth]⟩
  | _, .int _, _ => ⟨rfl, rfl, by simp [pyD, PyData.depth]⟩
  | _, .str x, h => ⟨rfl, by simpa [pyD, PyData.canLay0, plainD] using h, by simp [pyD, PyData.depth]⟩
  | n, .tup l, h => by
    have h' : plainL n l = true := by simpa [plainD] using h
    obtain ⟨a, b, c⟩ := plain_pys n l h'
    exact ⟨by simp [toPy, a, pyD], by simpa [pyD, PyData.canLay0] using b, by simp [pyD, PyData.depth]; omega⟩
  | n, .lst l, h => by
    have h' : plainL n l = true := by simpa [plainD] using h
    obtain ⟨a, b, c⟩ := plain_pys n l h'
    exact ⟨by simp [toPy, a, pyD], by simpa [pyD, PyData.canLay0] using b, by simp [pyD, PyData.depth]; omega⟩
  | _, .bl _, h => by simp [plainD] at h
  | _, .ref _, h => by simp [plainD] at h
  | _, .scr _, h => by simp [plainD] at h
  | _, .bor _, h => by simp [plainD] at h
theorem plain_pys : ∀ (n : Nat) (l : List D), plainL n l = true → toPys l = some (pyL l) ∧ PyData.canLayAll0 (pyL l) = true ∧ PyData.depthAll (pyL l) ≤ n
  | n, [], _ => ⟨by simp [toPys, pyL], by simp [pyL, PyData.canLayAll0], by simp [pyL, PyData.depthAll]⟩
  | 0, _ :: _, h => by simp [plainL] at h
  | n + 1, d :: l, h => by
    have h' : plainD n d = true ∧ plainL (n + 1) l = true := by simpa [plainL] using h
    obtain ⟨a1, b1, c1⟩ := plain_py n d h'.1
    obtain ⟨a2, b2, c2⟩ := plain_pys (n + 1) l h'.2
    exact ⟨by simp [toPys, a1, a2, pyL], by simp [pyL, PyData.canLayAll0, b1, b2], by simp [pyL, PyData.depthAll]; omega⟩
end
mutual
theorem plain_eqv : ∀ (n m : Nat) (d e : D), plainD n d = true → plainD m e = true → PyData.eqv (pyD d) (pyD e) = decide (d = e)
  | n, m, d, e, hd, he => by
    cases d <;> cases e <;> first
      | (simp [plainD] at hd; done)
      | (simp [plainD] at he; done)
      | (rename_i a b; simp only [pyD, PyData.eqv, D.tup.injEq, D.lst.injEq]; exact plain_eqvs n m a b (by simpa [plainD] using hd) (by simpa [plainD] using he))
      | (simp [pyD, PyData.eqv]; done)
      | (rename_i a b; simp only [pyD, PyData.eqv, D.int.injEq, D.str.injEq]; rw [Bool.eq_iff_iff]; simp)
theorem plain_eqvs : ∀ (n m : Nat) (a b : List D), plainL n a = true → plainL m b = true → PyData.eqvAll (pyL a) (pyL b) = decide (a = b)
  | _, _, [], [], _, _ => by simp [pyL, PyData.eqvAll]
  | _, _, [], _ :: _, _, _ => by simp [pyL, PyData.eqvAll]
  | _, _, _ :: _, [], _, _ => by simp [pyL, PyData.eqvAll]
  | 0, _, _ :: _, _ :: _, h, _ => by simp [plainL] at h
  | n + 1, 0, _ :: _, _ :: _, _, h => by simp [plainL] at h
  | n + 1, m + 1, x :: a, y :: b, h1, h2 => by
    have h1' : plainD n x = true ∧ plainL (n + 1) a = true := by simpa [plainL] using h1
    have h2' : plainD m y = true ∧ plainL (m + 1) b = true := by simpa [plainL] using h2
    simp only [pyL, PyData.eqvAll, plain_eqv n m x y h1'.1 h2'.1, plain_eqvs (n + 1) (m + 1) a b h1'.2 h2'.2, List.cons.injEq, Bool.decide_and]
end
theorem shaped_py {n : Nat} {d : D} (hn : n ≤ 63) (h : plainD n d = true) : SeqAt.shaped (pyD d) = true := by
  obtain ⟨_, b, c⟩ := plain_py n d h
  unfold SeqAt.shaped
  rw [b, decide_eq_true (by omega)]; rfl
theorem eqD_plain {ro : Ro} {M : Ms} {a b : D} (ha : plainD 60 a = true) (hb : plainD 60 b = true) : eqD ro M a b = some (decide (a = b)) := by
  have pa : ∀ d, plainD 60 d = true → pyO ro M d = some (pyD d) := fun d h => by
    cases d <;> first
      | (simp [plainD] at h; done)
      | exact (plain_py 60 _ h).1
  have ga := shaped_py (by decide) ha
  have gb := shaped_py (by decide) hb
  have e := plain_eqv 60 60 a b ha hb
  have key : ((pyO ro M a).bind fun x => (pyO ro M b).bind fun y => if SeqAt.shaped x = true ∧ SeqAt.shaped y = true then some (PyData.eqv x y) else none) = some (decide (a = b)) := by
    rw [pa a ha, pa b hb, Option.bind_some, Option.bind_some, if_pos ⟨ga, gb⟩, e]
  cases a <;> cases b <;> first
    | exact key
    | (simp [plainD] at ha; done)
    | (simp [plainD] at hb; done)
    | (simp [eqD]; done)
theorem eqD_own {ro : Ro} {M : Ms} {i : Nat} {xs ys : List D} (hi : lookB ro[i]? = some xs) (ha : plainL 60 xs = true) (hb : plainL 60 ys = true) : eqD ro M (.bor i) (.lst ys) = some (decide (xs = ys)) := by
  have hx : plainD 60 (.lst xs) = true := by simpa [plainD] using ha
  have hy : plainD 60 (.lst ys) = true := by simpa [plainD] using hb
  have p1 : pyO ro M (.bor i) = some (pyD (.lst xs)) := by
    show ((lookL ro M (.bor i)).bind fun xs => (toPys xs).map PyData.list) = _
    rw [lookL_bor, hi, Option.bind_some, (plain_pys 60 xs ha).1]
    simp [pyD]
  have p2 : pyO ro M (.lst ys) = some (pyD (.lst ys)) := (plain_py 60 _ hy).1
  have e := plain_eqv 60 60 _ _ hx hy
  show ((pyO ro M (.bor i)).bind fun x => (pyO ro M (.lst ys)).bind fun y => if SeqAt.shaped x = true ∧ SeqAt.shaped y = true then some (PyData.eqv x y) else none) = _
  rw [p1, p2, Option.bind_some, Option.bind_some, if_pos ⟨shaped_py (by decide) hx, shaped_py (by decide) hy⟩, e]
  simp
section
variable {ro : Ro} {M : Ms} {Q : D → Prop}
theorem w_eqP {a b : D} (ha : plainD 60 a = true) (hb : plainD 60 b = true) : Wp (opEq ro M a b) Q .mk ↔ Q (.bl (decide (a = b))) := by
  unfold opEq; rw [eqD_plain ha hb, Option.map_some, Wp_some]
theorem w_neP {a b : D} (ha : plainD 60 a = true) (hb : plainD 60 b = true) : Wp (opNe ro M a b) Q .mk ↔ Q (.bl (!decide (a = b))) := by
  unfold opNe; rw [eqD_plain ha hb, Option.map_some, Wp_some]
theorem w_eqO {i : Nat} {xs ys : List D} (hi : lookB ro[i]? = some xs) (ha : plainL 60 xs = true) (hb : plainL 60 ys = true) : Wp (opEq ro M (.bor i) (.lst ys)) Q .mk ↔ Q (.bl (decide (xs = ys))) := by
  unfold opEq; rw [eqD_own hi ha hb, Option.map_some, Wp_some]
theorem w_neO {i : Nat} {xs ys : List D} (hi : lookB ro[i]? = some xs) (ha : plainL 60 xs = true) (hb : plainL 60 ys = true) : Wp (opNe ro M (.bor i) (.lst ys)) Q .mk ↔ Q (.bl (!decide (xs = ys))) := by
  unfold opNe; rw [eqD_own hi ha hb, Option.map_some, Wp_some]
end
theorem plainL_map {α : Type} {n : Nat} {f : α → D} : ∀ {l : List α}, (∀ a ∈ l, plainD n (f a) = true) → plainL (n + 1) (l.map f) = true
  | [], _ => by simp [plainL]
  | a :: l, h => by simp [plainL, h a List.mem_cons_self]; exact plainL_map fun b hb => h b (List.mem_cons_of_mem _ hb)
/-- the statements in two parts -/
theorem w_append {b : List S} {R : Fl × Ro × Ms → Prop} : ∀ (a : List S) (ro : Ro) (M : Ms), Wp (execB (a ++ b) ro M) R .mk ↔ Wp (execB a ro M) (fun x => Wp (then_ b x) R .mk) .mk
  | [], ro, M => by rw [w_nil]; exact Iff.rfl
  | s :: a, ro, M => by
    rw [List.cons_append, w_cons, w_cons]
    constructor <;> intro h <;> refine h.mono fun x hx => ?_
    · obtain ⟨fl, r, m⟩ := x
      cases fl with
      | nx => exact (w_append a r m).mp hx
      | bk => exact (then_bk _ _ _).mpr ((then_bk _ _ _).mpr ((then_bk _ _ _).mp hx))
      | ct => exact (then_ct _ _ _).mpr ((then_ct _ _ _).mpr ((then_ct _ _ _).mp hx))
      | ret d => exact (then_ret _ _ _ _).mpr ((then_ret _ _ _ _).mpr ((then_ret _ _ _ _).mp hx))
    · obtain ⟨fl, r, m⟩ := x
      cases fl with
      | nx => exact (w_append a r m).mpr hx
      | bk => exact (then_bk _ _ _).mpr ((then_bk _ _ _).mp ((then_bk _ _ _).mp hx))
      | ct => exact (then_ct _ _ _).mpr ((then_ct _ _ _).mp ((then_ct _ _ _).mp hx))
      | ret d => exact (then_ret _ _ _ _).mpr ((then_ret _ _ _ _).mp ((then_ret _ _ _ _).mp hx))
theorem w_split (n : Nat) (b : List S) {R : Fl × Ro × Ms → Prop} {ro : Ro} {M : Ms} (h : Wp (execB (b.take n) ro M) (fun x => Wp (then_ (b.drop n) x) R .mk) .mk) : Wp (execB b ro M) R .mk := by
  rw [← List.take_append_drop n b]
  exact (w_append _ _ _).mpr h
end Sim
set_option Elab.async false
set_option linter.all false
set_option maxRecDepth 100000
set_option maxHeartbeats 4000000
/-! Slices; two clauses; dict comprehensions. -/
namespace Sim
open PySem L2
section
variable {ro : Ro} {M : Ms} {Q : D → Prop}
theorem cut_to (xs : List D) (n : Nat) : cutD xs none (some (n : Int)) = xs.take n := by
  unfold cutD
  rw [HT.sIx_nat, HT.sIx_none, List.drop_zero, Nat.sub_zero]
  by_cases h : n ≤ xs.length
  · rw [Nat.min_eq_left h]
  · rw [Nat.min_eq_right (by omega), List.take_length, List.take_of_length_le (by omega)]
theorem cut_from (xs : List D) (n : Nat) : cutD xs (some (n : Int)) none = xs.drop n := by
  unfold cutD
  rw [HT.sIx_nat, HT.sIx_none]
  by_cases h : n ≤ xs.length
  · rw [Nat.min_eq_left h, List.take_of_length_le (by rw [List.length_drop]; omega)]
  · rw [Nat.min_eq_right (by omega), List.drop_of_length_le (Nat.le_refl _), List.drop_of_length_le (by omega)]; simp
@[simp] theorem cut_to1 (xs : List D) : cutD xs none (some 1) = xs.take 1 := cut_to xs 1
@[simp] theorem cut_to2 (xs : List D) : cutD xs none (some 2) = xs.take 2 := cut_to xs 2
@[simp] theorem cut_to3 (xs : List D) : cutD xs none (some 3) = xs.take 3 := cut_to xs 3
@[simp] theorem cut_from1 (xs : List D) : cutD xs (some 1) none = xs.drop 1 := cut_from xs 1
@[simp] theorem cut_from2 (xs : List D) : cutD xs (some 2) none = xs.drop 2 := cut_from xs 2
@[simp] theorem cut_from3 (xs : List D) : cutD xs (some 3) none = xs.drop 3 := cut_from xs 3
@[simp ↓] theorem w_sl01T (xs : List D) (i : Int) : Wp (opSl01 ro M [.tup xs, .int i]) Q .mk ↔ Q (.tup (cutD xs none (some i))) := Wp_some _ _
@[simp ↓] theorem w_sl10T (xs : List D) (i : Int) : Wp (opSl10 ro M [.tup xs, .int i]) Q .mk ↔ Q (.tup (cutD xs (some i) none)) := Wp_some _ _
@[simp ↓] theorem w_sl01L (xs : List D) (i : Int) : Wp (opSl01 ro M [.lst xs, .int i]) Q .mk ↔ Q (.lst (cutD xs none (some i))) := Wp_some _ _
@[simp ↓] theorem w_sl10L (xs : List D) (i : Int) : Wp (opSl10 ro M [.lst xs, .int i]) Q .mk ↔ Q (.lst (cutD xs (some i) none)) := Wp_some _ _
theorem mapD_set_last {α : Type} (f : α → D) (F : List α) (y : α) (d : D) : (F.map f ++ [f y]).set F.length d = F.map f ++ [d] := by
  rw [List.set_append_right _ _ (by simp)]; simp
theorem compGo2_nil {src src2 : Src} {ds all : List D} {tg tg2 : T} {test test2 elt : Ev} {args2 : Ro → Ms → Option (List D × Ro × Ms)} {vs vs2 : List Nat} {acc : List D} (hs : src ro M ds = some all) :
    compGo2 src ds all tg test args2 src2 tg2 test2 elt vs vs2 [] acc ro M = some (acc, ro, M) := by
  unfold compGo2; rw [if_pos hs]
/-- two clauses whose parts change nothing: what each of the first gives -/
theorem comp2_pure {α : Type} {f : α → D} {src src2 : Src} {ds all : List D} {tg tg2 : T} {test test2 elt : Ev} {args2 : Ro → Ms → Option (List D × Ro × Ms)} {vs vs2 : List Nat} (g : α → List D) {ro : Ro} {M : Ms} (hs : src ro M ds = some all) :
    ∀ (l : List α) (acc : List D), (∀ a ∈ l, ∀ acc : List D, acc.length + (g a).length ≤ most → Wp (asgT tg (f a) ro) (fun r1 => Wp (test r1 M) (fun y => y.1 = .bl true ∧ y.2.2 = M ∧ Wp (args2 y.2.1 M) (fun z => z.2.2 = M ∧ Wp (src2 z.2.1 M z.1) (fun items => blkFine vs2 tg2 z.1 = true ∧
        Wp (compGo src2 z.1 items tg2 test2 elt vs2 items acc (wipeR z.2.1 vs2) M) (fun q => q.1 = acc ++ g a ∧ q.2.2 = M ∧ wipeR q.2.1 vs = ro) .mk) .mk) .mk) .mk) .mk) → acc.length + (l.flatMap g).length ≤ most →
    compGo2 src ds all tg test args2 src2 tg2 test2 elt vs vs2 (l.map f) acc ro M = some (acc ++ l.flatMap g, ro, M)
  | [], acc, _, _ => by
    show compGo2 src ds all tg test args2 src2 tg2 test2 elt vs vs2 [] acc ro M = _
    rw [compGo2_nil hs]; simp
  | a :: l, acc, h, hl => by
    rw [List.flatMap_cons, List.length_append] at hl
    obtain ⟨r1, e1, ⟨yd, yr, ym⟩, e2, q1, q2, ⟨zd, zr, zm⟩, e3, q3, items, e4, q4, ⟨wd, wr, wm⟩, e5, q5, q6, q7⟩ := h a List.mem_cons_self acc (by omega)
    have q1' : yd = .bl true := q1
    have q2' : ym = M := q2
    have q3' : zm = M := q3
    have q5' : wd = acc ++ g a := q5
    have q6' : wm = M := q6
    have q7' : wipeR wr vs = ro := q7
    subst q1'
    subst q2'
    subst q3'
    subst q5'
    subst q6'
    have e4' : src2 zr wm zd = some items := e4
    have e5' : compGo src2 zd items tg2 test2 elt vs2 items acc (wipeR zr vs2) wm = some (acc ++ g a, wr, wm) := e5
    show compGo2 src ds all tg test args2 src2 tg2 test2 elt vs vs2 (f a :: l.map f) acc ro wm = _
    unfold compGo2
    rw [if_pos hs, e1, Option.bind_some, e2, Option.bind_some]
    show ((args2 yr wm).bind fun a_1 => (src2 a_1.2.1 a_1.2.2 a_1.1).bind fun items => if blkFine vs2 tg2 a_1.1 = true then (compGo src2 a_1.1 items tg2 test2 elt vs2 items acc (wipeR a_1.2.1 vs2) a_1.2.2).bind fun q => compGo2 src ds all tg test args2 src2 tg2 test2 elt vs vs2 (l.map f) q.1 (wipeR q.2.1 vs) q.2.2 else none) = _
    rw [e3, Option.bind_some]
    show ((src2 zr wm zd).bind fun items => if blkFine vs2 tg2 zd = true then (compGo src2 zd items tg2 test2 elt vs2 items acc (wipeR zr vs2) wm).bind fun q => compGo2 src ds all tg test args2 src2 tg2 test2 elt vs vs2 (l.map f) q.1 (wipeR q.2.1 vs) q.2.2 else none) = _
    rw [e4', Option.bind_some, if_pos q4, e5', Option.bind_some]
    show compGo2 src ds all tg test args2 src2 tg2 test2 elt vs vs2 (l.map f) (acc ++ g a) (wipeR wr vs) wm = _
    rw [q7', comp2_pure g hs l (acc ++ g a) (fun b hb => h b (List.mem_cons_of_mem _ hb)) (by rw [List.length_append]; omega), List.flatMap_cons, List.append_assoc]
end
end Sim
set_option Elab.async false
set_option linter.all false
set_option maxRecDepth 100000
set_option maxHeartbeats 4000000
namespace Sim
open PySem PySem.Spec PyProof.Rows L2
def s_law_taken : List S := [.if_ (.bin opGt (.bin opIx (.bor 0) (.c (.int 3))) (.c (.int 0))) [.asg (.name 2) (.bin opMod (.bin opIx (.bor 0) (.c (.int 3))) (.bor 1)),
    .upd setL (.bor 0) (.c (.int 3)) (.bin opDiv (.bin opIx (.bor 0) (.c (.int 3))) (.bor 1)),
    .ret (.var 2)] [],
    .upd setL (.bor 0) (.c (.int 1)) (.bin opAdd (.bin opIx (.bor 0) (.c (.int 1))) (.c (.int 1))),
    .if_ (.bin opGt (.bin opIx (.bor 0) (.c (.int 1))) (.bi opLen [(.bin opIx (.bor 0) (.c (.int 0)))])) [.upd setL (.bor 0) (.c (.int 2)) (.bin opMod (.bin opAdd (.bin opMul (.bin opIx (.bor 0) (.c (.int 2))) (.c (.int 48271))) (.c (.int 11))) (.c (.int 2147483647))),
    .ret (.bin opMod (.bin opDiv (.bin opIx (.bor 0) (.c (.int 2))) (.c (.int 7))) (.bor 1))] [],
    .asg (.name 3) (.bin opIx (.bin opIx (.bor 0) (.c (.int 0))) (.bin opSub (.bin opIx (.bor 0) (.c (.int 1))) (.c (.int 1)))),
    .upd setL (.bor 0) (.c (.int 2)) (.bin opMod (.bin opAdd (.bin opAdd (.bin opMul (.bin opIx (.bor 0) (.c (.int 2))) (.c (.int 48271))) (.bor 3)) (.c (.int 11))) (.c (.int 2147483647))),
    .if_ (.bin opGe (.bor 3) (.bin opPow (.c (.int 10)) (.c (.int 18)))) [.upd setL (.bor 0) (.c (.int 3)) (.bin opDiv (.bor 3) (.bor 1))] [],
    .ret (.bin opMod (.bor 3) (.bor 1))]
def phi_law_taken : Fn := runF 4 (s_law_taken)
theorem phi_law_taken_ok : ∀ ds M r, ds.length = 2 → phi_law_taken ds M = some r → runF 4 (s_law_taken) ds M = some r := fun _ _ _ _ h => h
def s_is_number : List S := [.ret (.and_ (.bi (opIsi "int") [(.bor 0)]) (.and_ (.not_ (.bi (opIsi "bool") [(.bor 0)])) (.chain opLe opLe (.bor 1) (.bor 0) (.bor 2))))]
def phi_is_number : Fn := runF 3 (s_is_number)
theorem phi_is_number_ok : ∀ ds M r, ds.length = 3 → phi_is_number ds M = some r → runF 3 (s_is_number) ds M = some r := fun _ _ _ _ h => h
def s_is_name : List S := [.ret (.and_ (.bi (opIsi "str") [(.bor 0)]) (.and_ (.chain opLe opLe (.c (.int 1)) (.bi opLen [(.bor 0)]) (.c (.int 6))) (.bi opAll [(.comp srcStr [(.bor 0)] (.name 1) (.c (.bl true)) (.bin opInS (.bor 1) (.c (.str "abcdefghijklmnopqrstuvwxyz"))) [1])])))]
def phi_is_name : Fn := runF 2 (s_is_name)
theorem phi_is_name_ok : ∀ ds M r, ds.length = 1 → phi_is_name ds M = some r → runF 2 (s_is_name) ds M = some r := fun _ _ _ _ h => h
def s_are_steps : List S := [.if_ (.or_ (.not_ (.bi (opIsi "tuple") [(.bor 0)])) (.not_ (.chain opLe opLe (.c (.int 1)) (.bi opLen [(.bor 0)]) (.c (.int 5))))) [.ret (.c (.bl false))] [],
    .asg (.name 1) (.c (.int 0)),
    .for_ srcEnum [(.var 0)] (.tup [(.name 2), (.name 3)]) [.if_ (.or_ (.not_ (.bi (opIsi "tuple") [(.bor 3)])) (.or_ (.bin opNe (.bi opLen [(.bor 3)]) (.c (.int 2))) (.not_ (.fn phi_is_number [(.bin opIx (.bor 3) (.c (.int 1))), (.c (.int 0)), (.c (.int 999))])))) [.ret (.c (.bl false))] [],
    .if_ (.bin opEq (.bor 2) (.bin opSub (.bi opLen [(.bor 0)]) (.c (.int 1)))) [.ret (.bin opIs (.bin opIx (.bor 3) (.c (.int 0))) (.c .non))] [],
    .if_ (.not_ (.fn phi_is_number [(.bin opIx (.bor 3) (.c (.int 0))), (.bin opAdd (.bor 1) (.c (.int 1))), (.c (.int 9999))])) [.ret (.c (.bl false))] [],
    .asg (.name 1) (.bin opIx (.bor 3) (.c (.int 0)))],
    .ret (.c (.bl true))]
def phi_are_steps : Fn := runF 4 (s_are_steps)
theorem phi_are_steps_ok : ∀ ds M r, ds.length = 1 → phi_are_steps ds M = some r → runF 4 (s_are_steps) ds M = some r := fun _ _ _ _ h => h
def s_is_plan : List S := [.if_ (.or_ (.not_ (.bi (opIsi "tuple") [(.bor 0)])) (.or_ (.bin opNe (.bi opLen [(.bor 0)]) (.c (.int 4))) (.or_ (.not_ (.fn phi_is_name [(.bin opIx (.bor 0) (.c (.int 0)))])) (.bin opDIn (.bin opIx (.bor 0) (.c (.int 0))) (.bor 1))))) [.ret (.c (.bl false))] [],
    .if_ (.or_ (.not_ (.fn phi_are_steps [(.bin opIx (.bor 0) (.c (.int 1)))])) (.not_ (.fn phi_is_number [(.bin opIx (.bor 0) (.c (.int 2))), (.c (.int 0)), (.c (.int 9999))]))) [.ret (.c (.bl false))] [],
    .ret (.or_ (.bin opIs (.bin opIx (.bor 0) (.c (.int 3))) (.c .non)) (.fn phi_is_number [(.bin opIx (.bor 0) (.c (.int 3))), (.c (.int 0)), (.c (.int 999999))]))]
def phi_is_plan : Fn := runF 2 (s_is_plan)
theorem phi_is_plan_ok : ∀ ds M r, ds.length = 2 → phi_is_plan ds M = some r → runF 2 (s_is_plan) ds M = some r := fun _ _ _ _ h => h
def s_need_plans : List S := [.if_ (.or_ (.not_ (.bi (opIsi "tuple") [(.bor 0)])) (.bin opEq (.bor 0) (.tup []))) [sNever] [],
    .asg (.name 1) eNewK,
    .for_ srcEnum [(.var 0)] (.tup [(.name 2), (.name 3)]) [.if_ (.or_ (.bin opEq (.bor 2) (.c (.int 8))) (.not_ (.fn phi_is_plan [(.var 3), (.var 1)]))) [sNever] [],
    .upd setDict (.bor 1) (.bin opIx (.bor 3) (.c (.int 0))) (.var 2)]]
def phi_need_plans : Fn := runF 4 (s_need_plans)
theorem phi_need_plans_ok : ∀ ds M r, ds.length = 1 → phi_need_plans ds M = some r → runF 4 (s_need_plans) ds M = some r := fun _ _ _ _ h => h
def s_House_init (cH : Addr) : List S := [.expr (.fn phi_need_plans [(.var 1)]),
    .if_ (.not_ (.fn phi_is_number [(.var 2), (.c (.int 0)), (.c (.int 29))])) [sNever] [],
    .setF cH (.bor 0) "plans" (.dcomp srcSeq [(.bor 1)] (.name 3) (.c (.bl true)) (.bin opIx (.bor 3) (.c (.int 0))) (.var 3) [3]),
    .setF cH (.bor 0) "grace" (.var 2),
    .setF cH (.bor 0) "today" (.c (.int 0)),
    .setF cH (.bor 0) "takes" eNewT,
    .setF cH (.bor 0) "measures" (.cell (.lst [])),
    .setF cH (.bor 0) "credits" (.cell (.lst [])),
    .setF cH (.bor 0) "bills" (.cell (.lst [])),
    .setF cH (.bor 0) "rows" (.cell (.lst [])),
    .setF cH (.bor 0) "many" (.c (.int 0)),
    .setF cH (.bor 0) "book" (.cell (.lst [])),
    .setF cH (.bor 0) "underway" (.c (.int 0))]
def phi_House_init (cH : Addr) : Fn := runF 4 (s_House_init cH)
theorem phi_House_init_ok (cH : Addr) : ∀ ds M r, ds.length = 3 → phi_House_init cH ds M = some r → runF 4 (s_House_init cH) ds M = some r := fun _ _ _ _ h => h
def s_House_need_day (cH : Addr) : List S := [.if_ (.not_ (.fn phi_is_number [(.var 1), (.fld cH (.bor 0) "today"), (.bin opAdd (.c (.int 360)) (.bin opMul (.c (.int 30)) (.c (.int 2))))])) [sNever] []]
def phi_House_need_day (cH : Addr) : Fn := runF 2 (s_House_need_day cH)
theorem phi_House_need_day_ok (cH : Addr) : ∀ ds M r, ds.length = 2 → phi_House_need_day cH ds M = some r → runF 2 (s_House_need_day cH) ds M = some r := fun _ _ _ _ h => h
def s_House_need_names : List S := [.if_ (.not_ (.bi opAll [(.comp srcSeq [(.bor 1)] (.name 2) (.c (.bl true)) (.fn phi_is_name [(.var 2)]) [2])])) [sNever] []]
def phi_House_need_names : Fn := runF 3 (s_House_need_names)
theorem phi_House_need_names_ok : ∀ ds M r, ds.length = 2 → phi_House_need_names ds M = some r → runF 3 (s_House_need_names) ds M = some r := fun _ _ _ _ h => h
def s_House_done (cH : Addr) : List S := [.setF cH (.bor 0) "today" (.var 1),
    .expr (.bm tyL opApp (.fld cH (.bor 0) "rows") [(.var 2)]),
    .augF cH (.bor 0) "many" opAddI (.c (.int 1))]
def phi_House_done (cH : Addr) : Fn := runF 3 (s_House_done cH)
theorem phi_House_done_ok (cH : Addr) : ∀ ds M r, ds.length = 3 → phi_House_done cH ds M = some r → runF 3 (s_House_done cH) ds M = some r := fun _ _ _ _ h => h
def s_House_take (cH : Addr) : List S := [.expr (.meth cH "need_day" (phi_House_need_day cH) (.bor 0) [(.var 1)]),
    .if_ (.bin opGe (.bor 1) (.c (.int 360))) [sNever] [],
    .expr (.meth cH "need_names" phi_House_need_names (.bor 0) [(.lst [(.var 2), (.var 3)])]),
    .if_ (.or_ (.not_ (.bi (opIsi "str") [(.bor 4)])) (.bin opDNotIn (.var 4) (.fld cH (.bor 0) "plans"))) [sNever] [],
    .own 5 (.comp srcSeq [(.bm tyDct opDGet2 (.fld cH (.bor 0) "takes") [(.tup [(.var 2), (.var 3)]), (.lst [])])] (.name 6) (.bin opLt (.bin opIx (.bor 6) (.c (.int 0))) (.bor 1)) (.var 6) [6]),
    .if_ (.or_ (.bin opEq (.bor 5) (.lst [])) (.bin opNe (.bin opIx (.bin opIx (.bor 5) (.bi opNeg [(.c (.int 1))])) (.c (.int 1))) (.bor 4))) [.expr (.bm tyL opApp (.bor 5) [(.tup [(.var 1), (.var 4)])])] [],
    .upd setDict (.fld cH (.bor 0) "takes") (.tup [(.var 2), (.var 3)]) (.var 5),
    .expr (.meth cH "done" (phi_House_done cH) (.bor 0) [(.var 1), (.tup [(.c (.str "take")), (.var 1), (.var 2), (.var 3), (.var 4)])])]
def phi_House_take (cH : Addr) : Fn := runF 7 (s_House_take cH)
theorem phi_House_take_ok (cH : Addr) : ∀ ds M r, ds.length = 5 → phi_House_take cH ds M = some r → runF 7 (s_House_take cH) ds M = some r := fun _ _ _ _ h => h
def s_Measure_init (cM : Addr) : List S := [.setF cM (.bor 0) "client" (.var 1),
    .setF cM (.bor 0) "thing" (.var 2),
    .setF cM (.bor 0) "day" (.var 3),
    .setF cM (.bor 0) "units" (.var 4),
    .setF cM (.bor 0) "told_on" (.var 5),
    .setF cM (.bor 0) "gone" (.c .non)]
def phi_Measure_init (cM : Addr) : Fn := runF 6 (s_Measure_init cM)
theorem phi_Measure_init_ok (cM : Addr) : ∀ ds M r, ds.length = 6 → phi_Measure_init cM ds M = some r → runF 6 (s_Measure_init cM) ds M = some r := fun _ _ _ _ h => h
def s_House_plan_on (cH : Addr) : List S := [.own 4 (.comp srcSeq [(.bm tyDct opDGet2 (.fld cH (.bor 0) "takes") [(.tup [(.var 1), (.var 2)]), (.lst [])])] (.tup [(.name 5), (.name 6)]) (.bin opLe (.bor 5) (.bor 3)) (.var 6) [5, 6]),
    .ret (.ifx (.bin opNe (.bor 4) (.lst [])) (.bin opIx (.bor 4) (.bi opNeg [(.c (.int 1))])) (.c .non))]
def phi_House_plan_on (cH : Addr) : Fn := runF 7 (s_House_plan_on cH)
theorem phi_House_plan_on_ok (cH : Addr) : ∀ ds M r, ds.length = 4 → phi_House_plan_on cH ds M = some r → runF 7 (s_House_plan_on cH) ds M = some r := fun _ _ _ _ h => h
def s_House_use (cH : Addr) (cM : Addr) : List S := [.expr (.meth cH "need_day" (phi_House_need_day cH) (.bor 0) [(.var 1)]),
    .expr (.meth cH "need_names" phi_House_need_names (.bor 0) [(.lst [(.var 2), (.var 3)])]),
    .if_ (.or_ (.not_ (.fn phi_is_number [(.var 4), (.c (.int 0)), (.bi opMin2 [(.bor 1), (.bin opSub (.c (.int 360)) (.c (.int 1)))])])) (.bin opIs (.meth cH "plan_on" (phi_House_plan_on cH) (.bor 0) [(.var 2), (.var 3), (.var 4)]) (.c .non))) [sNever] [],
    .if_ (.not_ (.fn phi_is_number [(.var 5), (.c (.int 0)), (.c (.int 9999))])) [sNever] [],
    .expr (.bm tyL opApp (.fld cH (.bor 0) "measures") [(.make cM (phi_Measure_init cM) [(.var 2), (.var 3), (.var 4), (.var 5), (.var 1)])]),
    .expr (.meth cH "done" (phi_House_done cH) (.bor 0) [(.var 1), (.tup [(.c (.str "use")), (.var 1), (.var 2), (.var 3), (.var 4), (.var 5)])]),
    .ret (.bin opSub (.bi opLen [(.fld cH (.bor 0) "measures")]) (.c (.int 1)))]
def phi_House_use (cH : Addr) (cM : Addr) : Fn := runF 6 (s_House_use cH cM)
theorem phi_House_use_ok (cH : Addr) (cM : Addr) : ∀ ds M r, ds.length = 6 → phi_House_use cH cM ds M = some r → runF 6 (s_House_use cH cM) ds M = some r := fun _ _ _ _ h => h
def s_House_need_pair (cH : Addr) : List S := [.if_ (.or_ (.not_ (.bi (opIsi "str") [(.bor 1)])) (.or_ (.not_ (.bi (opIsi "str") [(.bor 2)])) (.bin opDNotIn (.tup [(.var 1), (.var 2)]) (.fld cH (.bor 0) "takes")))) [sNever] []]
def phi_House_need_pair (cH : Addr) : Fn := runF 3 (s_House_need_pair cH)
theorem phi_House_need_pair_ok (cH : Addr) : ∀ ds M r, ds.length = 3 → phi_House_need_pair cH ds M = some r → runF 3 (s_House_need_pair cH) ds M = some r := fun _ _ _ _ h => h
def s_House_stretches (cH : Addr) : List S := [.asg (.name 5) (.bin opMul (.bor 3) (.c (.int 30))),
    .own 6 (.lst []),
    .for_ srcSeq [(.bm tyDct opDGet2 (.fld cH (.bor 0) "takes") [(.tup [(.var 1), (.var 2)]), (.lst [])])] (.tup [(.name 7), (.name 8)]) [.if_ (.and_ (.bin opLt (.bor 7) (.bin opAdd (.bor 5) (.c (.int 30)))) (.bin opLe (.bor 7) (.bor 4))) [.if_ (.bin opNe (.bor 6) (.lst [])) [.upd setL (.bor 6) (.bi opNeg [(.c (.int 1))]) (.bin opAdd (.bi opSl01 [(.bin opIx (.bor 6) (.bi opNeg [(.c (.int 1))])), (.c (.int 2))]) (.tup [(.bi opMax2 [(.bor 5), (.bor 7)])]))] [],
    .expr (.bm tyL opApp (.bor 6) [(.tup [(.var 8), (.bi opMax2 [(.bor 5), (.bor 7)]), (.bin opAdd (.bor 5) (.c (.int 30)))])])] []],
    .ret (.comp srcSeq [(.bor 6)] (.name 9) (.bin opLt (.bin opIx (.bor 9) (.c (.int 1))) (.bin opIx (.bor 9) (.c (.int 2)))) (.var 9) [9])]
def phi_House_stretches (cH : Addr) : Fn := runF 10 (s_House_stretches cH)
theorem phi_House_stretches_ok (cH : Addr) : ∀ ds M r, ds.length = 5 → phi_House_stretches cH ds M = some r → runF 10 (s_House_stretches cH) ds M = some r := fun _ _ _ _ h => h
def s_House_counts (cM : Addr) : List S := [.ret (.and_ (.bin opLe (.fld cM (.bor 1) "told_on") (.bor 2)) (.or_ (.bin opIs (.fld cM (.bor 1) "gone") (.c .non)) (.bin opGt (.fld cM (.bor 1) "gone") (.bor 2))))]
def phi_House_counts (cM : Addr) : Fn := runF 3 (s_House_counts cM)
theorem phi_House_counts_ok (cM : Addr) : ∀ ds M r, ds.length = 3 → phi_House_counts cM ds M = some r → runF 3 (s_House_counts cM) ds M = some r := fun _ _ _ _ h => h
def s_share : List S := [.ret (.bin opSub (.bin opDiv (.bin opMul (.bor 0) (.bor 2)) (.c (.int 30))) (.bin opDiv (.bin opMul (.bor 0) (.bor 1)) (.c (.int 30))))]
def phi_share : Fn := runF 3 (s_share)
theorem phi_share_ok : ∀ ds M r, ds.length = 3 → phi_share ds M = some r → runF 3 (s_share) ds M = some r := fun _ _ _ _ h => h
def s_by_steps : List S := [.own 2 (.lst []),
    .asg (.name 3) (.c (.int 0)),
    .for_ srcEnum [(.var 0)] (.tup [(.name 4), (.tup [(.name 5), (.name 6)])]) [.asg (.name 7) (.ifx (.bin opIs (.bor 5) (.c .non)) (.bin opSub (.bor 1) (.bor 3)) (.bin opSub (.bi opMin2 [(.bor 1), (.bor 5)]) (.bor 3))),
    .if_ (.bin opGt (.bor 7) (.c (.int 0))) [.expr (.bm tyL opApp (.bor 2) [(.tup [(.var 4), (.var 7), (.var 6), (.bin opMul (.bor 7) (.bor 6))])])] [],
    .asg (.name 3) (.ifx (.bin opIs (.bor 5) (.c .non)) (.var 1) (.var 5))],
    .ret (.var 2)]
def phi_by_steps : Fn := runF 8 (s_by_steps)
theorem phi_by_steps_ok : ∀ ds M r, ds.length = 2 → phi_by_steps ds M = some r → runF 8 (s_by_steps) ds M = some r := fun _ _ _ _ h => h
def s_lines_by : List S := [.asg (.tup [(.name 4), (.name 5), (.name 6), (.name 7)]) (.var 0),
    .own 8 (.comp srcSeq [(.fn phi_by_steps [(.var 5), (.var 3)])] (.name 9) (.c (.bl true)) (.bin opAdd (.tup [(.c (.str "use")), (.var 4), (.var 1), (.var 2)]) (.bor 9)) [9]),
    .asg (.name 10) (.bin opMul (.bin opDiv (.bor 1) (.c (.int 30))) (.c (.int 30))),
    .asg (.name 11) (.fn phi_share [(.var 6), (.bin opSub (.bor 1) (.bor 10)), (.bin opSub (.bor 2) (.bor 10))]),
    .if_ (.bin opGt (.bor 11) (.c (.int 0))) [.expr (.bm tyL opApp (.bor 8) [(.tup [(.c (.str "fee")), (.var 4), (.var 1), (.var 2), (.var 11)])])] [],
    .asg (.name 12) (.bi opSum [(.comp srcSeq [(.bor 8)] (.name 13) (.c (.bl true)) (.bin opIx (.bor 13) (.bi opNeg [(.c (.int 1))])) [13])]),
    .if_ (.and_ (.bin opIsNot (.bor 7) (.c .non)) (.bin opGt (.bor 12) (.bor 7))) [.expr (.bm tyL opApp (.bor 8) [(.tup [(.c (.str "cap")), (.var 4), (.var 1), (.var 2), (.bin opSub (.bor 7) (.bor 12))])])] [],
    .ret (.var 8)]
def phi_lines_by : Fn := runF 14 (s_lines_by)
theorem phi_lines_by_ok : ∀ ds M r, ds.length = 4 → phi_lines_by ds M = some r → runF 14 (s_lines_by) ds M = some r := fun _ _ _ _ h => h
def s_House_parts_in (cH : Addr) (cM : Addr) : List S := [.own 5 (.lst []),
    .for_ srcSeq [(.meth cH "stretches" (phi_House_stretches cH) (.bor 0) [(.var 1), (.var 2), (.var 3), (.var 4)])] (.tup [(.name 6), (.name 7), (.name 8)]) [.own 9 (.lst []),
    .for_ srcEnum [(.fld cH (.bor 0) "measures")] (.tup [(.name 10), (.name 11)]) [.if_ (.and_ (.bin opEq (.tup [(.fld cM (.bor 11) "client"), (.fld cM (.bor 11) "thing")]) (.tup [(.var 1), (.var 2)])) (.and_ (.chain opLe opLt (.bor 7) (.fld cM (.bor 11) "day") (.bor 8)) (.meth cH "counts" (phi_House_counts cM) (.bor 0) [(.var 11), (.var 4)]))) [.expr (.bm tyL opApp (.bor 9) [(.var 10)])] []],
    .asg (.name 12) (.bi opSum [(.comp srcSeq [(.bor 9)] (.name 10) (.c (.bl true)) (.fld cM (.bin opIx (.fld cH (.bor 0) "measures") (.bor 10)) "units") [10])]),
    .expr (.bm tyL opApp (.bor 5) [(.tup [(.tup [(.var 6), (.var 7), (.var 8)]), (.var 9), (.fn phi_lines_by [(.bin opDIx (.fld cH (.bor 0) "plans") (.var 6)), (.var 7), (.var 8), (.var 12)])])])],
    .ret (.var 5)]
def phi_House_parts_in (cH : Addr) (cM : Addr) : Fn := runF 13 (s_House_parts_in cH cM)
theorem phi_House_parts_in_ok (cH : Addr) (cM : Addr) : ∀ ds M r, ds.length = 5 → phi_House_parts_in cH cM ds M = some r → runF 13 (s_House_parts_in cH cM) ds M = some r := fun _ _ _ _ h => h
def s_House_lines_in (cH : Addr) (cM : Addr) : List S := [.ret (.comp2 srcSeq [(.meth cH "parts_in" (phi_House_parts_in cH cM) (.bor 0) [(.var 1), (.var 2), (.var 3), (.var 4)])] (.tup [(.name 5), (.name 6), (.name 7)]) (.c (.bl true)) srcSeq [(.bor 7)] (.name 8) (.c (.bl true)) (.var 8) [5, 6, 7, 8] [8])]
def phi_House_lines_in (cH : Addr) (cM : Addr) : Fn := runF 9 (s_House_lines_in cH cM)
theorem phi_House_lines_in_ok (cH : Addr) (cM : Addr) : ∀ ds M r, ds.length = 5 → phi_House_lines_in cH cM ds M = some r → runF 9 (s_House_lines_in cH cM) ds M = some r := fun _ _ _ _ h => h
def s_House_charge_in (cH : Addr) (cM : Addr) : List S := [.ret (.bi opSum [(.comp srcSeq [(.meth cH "lines_in" (phi_House_lines_in cH cM) (.bor 0) [(.var 1), (.var 2), (.var 3), (.var 4)])] (.name 5) (.c (.bl true)) (.bin opIx (.bor 5) (.bi opNeg [(.c (.int 1))])) [5])])]
def phi_House_charge_in (cH : Addr) (cM : Addr) : Fn := runF 6 (s_House_charge_in cH cM)
theorem phi_House_charge_in_ok (cH : Addr) (cM : Addr) : ∀ ds M r, ds.length = 5 → phi_House_charge_in cH cM ds M = some r → runF 6 (s_House_charge_in cH cM) ds M = some r := fun _ _ _ _ h => h
def s_House_charge (cH : Addr) (cM : Addr) : List S := [.expr (.meth cH "need_pair" (phi_House_need_pair cH) (.bor 0) [(.var 1), (.var 2)]),
    .if_ (.not_ (.fn phi_is_number [(.var 3), (.c (.int 0)), (.bin opSub (.bin opDiv (.c (.int 360)) (.c (.int 30))) (.c (.int 1)))])) [sNever] [],
    .ret (.meth cH "charge_in" (phi_House_charge_in cH cM) (.bor 0) [(.var 1), (.var 2), (.var 3), (.fld cH (.bor 0) "today")])]
def phi_House_charge (cH : Addr) (cM : Addr) : Fn := runF 4 (s_House_charge cH cM)
theorem phi_House_charge_ok (cH : Addr) (cM : Addr) : ∀ ds M r, ds.length = 4 → phi_House_charge cH cM ds M = some r → runF 4 (s_House_charge cH cM) ds M = some r := fun _ _ _ _ h => h
def s_law_charge (cH : Addr) (cM : Addr) : List S := [.asg (.name 3) (.make cH (phi_House_init cH) [(.tup [(.var 0)]), (.c (.int 0))]),
    .expr (.meth cH "take" (phi_House_take cH) (.bor 3) [(.var 2), (.c (.str "ann")), (.c (.str "air")), (.bin opIx (.bor 0) (.c (.int 0)))]),
    .expr (.meth cH "use" (phi_House_use cH cM) (.bor 3) [(.c (.int 29)), (.c (.str "ann")), (.c (.str "air")), (.c (.int 29)), (.var 1)]),
    .ret (.meth cH "charge" (phi_House_charge cH cM) (.bor 3) [(.c (.str "ann")), (.c (.str "air")), (.c (.int 0))])]
def phi_law_charge (cH : Addr) (cM : Addr) : Fn := runF 4 (s_law_charge cH cM)
theorem phi_law_charge_ok (cH : Addr) (cM : Addr) : ∀ ds M r, ds.length = 3 → phi_law_charge cH cM ds M = some r → runF 4 (s_law_charge cH cM) ds M = some r := fun _ _ _ _ h => h
def s_law_plans : List S := [.own 1 (.lst []),
    .for_ srcRng1 [(.bin opAdd (.c (.int 1)) (.fn phi_law_taken [(.var 0), (.c (.int 4))]))] (.name 2) [.ownN [3, 4] [(true, (.lst [])), (false, (.c (.int 0)))],
    .for_ srcRng1 [(.fn phi_law_taken [(.var 0), (.c (.int 4))])] (.name 5) [.asg (.name 4) (.bin opAdd (.bin opAdd (.bor 4) (.c (.int 1))) (.fn phi_law_taken [(.var 0), (.bin opIx (.lst [(.c (.int 5)), (.c (.int 40))]) (.fn phi_law_taken [(.var 0), (.c (.int 2))]))])),
    .expr (.bm tyL opApp (.bor 3) [(.tup [(.var 4), (.fn phi_law_taken [(.var 0), (.c (.int 12))])])])],
    .expr (.bm tyL opApp (.bor 3) [(.tup [(.c .non), (.fn phi_law_taken [(.var 0), (.c (.int 12))])])]),
    .asg (.name 6) (.bin opIx (.lst [(.c (.int 0)), (.fn phi_law_taken [(.var 0), (.c (.int 100))]), (.bin opMul (.c (.int 30)) (.fn phi_law_taken [(.var 0), (.c (.int 9))])), (.fn phi_law_taken [(.var 0), (.c (.int 4))])]) (.fn phi_law_taken [(.var 0), (.c (.int 4))])),
    .asg (.name 7) (.bin opIx (.lst [(.c .non), (.c .non), (.fn phi_law_taken [(.var 0), (.c (.int 60))]), (.fn phi_law_taken [(.var 0), (.c (.int 600))])]) (.fn phi_law_taken [(.var 0), (.c (.int 4))])),
    .expr (.bm tyL opApp (.bor 1) [(.tup [(.bin opMulS (.bin opIx (.c (.str "pqrs")) (.bor 2)) (.bin opAdd (.c (.int 1)) (.fn phi_law_taken [(.var 0), (.c (.int 2))]))), (.bi opTuple [(.bor 3)]), (.var 6), (.var 7)])])],
    .ret (.bi opTuple [(.bor 1)])]
def phi_law_plans : Fn := runF 8 (s_law_plans)
theorem phi_law_plans_ok : ∀ ds M r, ds.length = 1 → phi_law_plans ds M = some r → runF 8 (s_law_plans) ds M = some r := fun _ _ _ _ h => h
def s_law (cH : Addr) (cM : Addr) : List S := [.asg (.name 1) (.cell (.lst [(.var 0), (.c (.int 0)), (.c (.int 0)), (.c (.int 0))])),
    .for_ srcRng1 [(.c (.int 3))] (.name 2) [.asg (.tup [.name 3, .name 4]) (.tup [(.bin opIx (.fn phi_law_plans [(.var 1)]) (.c (.int 0))), (.bin opIx (.lst [(.c (.int 0)), (.fn phi_law_taken [(.var 1), (.c (.int 30))])]) (.fn phi_law_taken [(.var 1), (.c (.int 2))]))]),
    .asg (.tup [(.name 5), (.name 6), (.name 7), (.name 8)]) (.var 3),
    .asg (.name 9) (.fn phi_law_taken [(.var 1), (.c (.int 300))]),
    .asg (.name 10) (.fn (phi_law_charge cH cM) [(.var 3), (.var 9), (.var 4)]),
    .if_ (.bin opLt (.fn (phi_law_charge cH cM) [(.var 3), (.bin opAdd (.bin opAdd (.bor 9) (.c (.int 1))) (.fn phi_law_taken [(.var 1), (.c (.int 9))])), (.var 4)]) (.bor 10)) [.ret (.c (.bl false))] [],
    .if_ (.bin opLt (.bi opLen [(.bor 6)]) (.c (.int 5))) [.asg (.name 11) (.bin opIx (.bor 6) (.bin opSub (.bi opLen [(.bor 6)]) (.c (.int 1)))),
    .asg (.name 12) (.ifx (.bin opGt (.bi opLen [(.bor 6)]) (.c (.int 1))) (.bin opIx (.bin opIx (.bor 6) (.bin opSub (.bi opLen [(.bor 6)]) (.c (.int 2)))) (.c (.int 0))) (.c (.int 0))),
    .asg (.name 13) (.bin opAdd (.bi opSl01 [(.bor 6), (.bin opSub (.bi opLen [(.bor 6)]) (.c (.int 1)))]) (.tup [(.tup [(.bin opAdd (.bin opAdd (.bor 12) (.c (.int 1))) (.fn phi_law_taken [(.var 1), (.c (.int 300))])), (.bin opIx (.bor 11) (.c (.int 1)))]), (.var 11)])),
    .if_ (.bin opNe (.fn (phi_law_charge cH cM) [(.tup [(.var 5), (.var 13), (.var 7), (.var 8)]), (.var 9), (.var 4)]) (.bor 10)) [.ret (.c (.bl false))] []] [],
    .asg (.name 14) (.fn (phi_law_charge cH cM) [(.tup [(.var 5), (.var 6), (.var 7), (.c .non)]), (.var 9), (.var 4)]),
    .if_ (.bin opNe (.fn (phi_law_charge cH cM) [(.tup [(.var 5), (.var 6), (.var 7), (.bi opMin2 [(.bor 14), (.c (.int 999999))])]), (.var 9), (.var 4)]) (.bor 14)) [.ret (.c (.bl false))] [],
    .if_ (.bin opNe (.bor 10) (.ifx (.bin opIs (.bor 8) (.c .non)) (.var 14) (.bi opMin2 [(.bor 14), (.bor 8)]))) [.ret (.c (.bl false))] [],
    .asg (.name 15) (.bi opTuple [(.comp srcSeq [(.bor 6)] (.tup [(.name 16), (.name 17)]) (.c (.bl true)) (.tup [(.var 16), (.bin opMul (.c (.int 2)) (.bor 17))]) [16, 17])]),
    .asg (.name 18) (.bin opSub (.fn (phi_law_charge cH cM) [(.tup [(.var 5), (.var 15), (.bin opMul (.c (.int 2)) (.bor 7)), (.c .non)]), (.var 9), (.var 4)]) (.bin opMul (.c (.int 2)) (.bor 14))),
    .if_ (.not_ (.chain opLt opLt (.bin opSub (.c (.int 0)) (.c (.int 2))) (.bor 18) (.c (.int 2)))) [.ret (.c (.bl false))] [],
    .asg (.name 19) (.make cH (phi_House_init cH) [(.tup [(.var 3), (.tup [(.c (.str "zz")), (.var 6), (.var 7), (.c .non)])]), (.c (.int 0))]),
    .for_ srcSeq [(.bi opSortSet [(.lst [(.var 4), (.bi opMin2 [(.c (.int 29)), (.bin opAdd (.bor 4) (.fn phi_law_taken [(.var 1), (.c (.int 30))]))])])])] (.name 20) [.expr (.meth cH "take" (phi_House_take cH) (.bor 19) [(.var 20), (.c (.str "ann")), (.c (.str "air")), (.var 5)])],
    .expr (.meth cH "use" (phi_House_use cH cM) (.bor 19) [(.c (.int 29)), (.c (.str "ann")), (.c (.str "air")), (.c (.int 29)), (.var 9)]),
    .if_ (.bin opNe (.meth cH "charge" (phi_House_charge cH cM) (.bor 19) [(.c (.str "ann")), (.c (.str "air")), (.c (.int 0))]) (.bor 10)) [.ret (.c (.bl false))] []],
    .ret (.c (.bl true))]
def phi_law (cH : Addr) (cM : Addr) : Fn := runF 21 (s_law cH cM)
theorem phi_law_ok (cH : Addr) (cM : Addr) : ∀ ds M r, ds.length = 1 → phi_law cH cM ds M = some r → runF 21 (s_law cH cM) ds M = some r := fun _ _ _ _ h => h
end Sim
set_option Elab.async false
set_option linter.all false
set_option maxRecDepth 100000
set_option maxHeartbeats 4000000
/-! The program's own numbers, in plain words: plans and their lines. -/
namespace Sim
open PySem L2

abbrev Step := Option Int × Int
def encO : Option Int → D
  | none => .non
  | some i => .int i
@[simp] theorem encO_none : encO none = .non := rfl
@[simp] theorem encO_some (i : Int) : encO (some i) = .int i := rfl
@[simp] theorem isBor_encO (o : Option Int) : isBor (encO o) = false := by cases o <;> rfl
@[simp] theorem isNon_encO (o : Option Int) : isNon (encO o) = o.isNone := by cases o <;> rfl
def encStep (s : Step) : D := .tup [encO s.1, .int s.2]
structure Plan where
  name : Str
  steps : List Step
  fee : Int
  cap : Option Int
def Plan.enc (p : Plan) : D := .tup [.str p.name, .tup (p.steps.map encStep), .int p.fee, encO p.cap]

theorem is_number_ok (a b c : Int) (M : Ms) : phi_is_number [.int a, .int b, .int c] M = some (.bl (decide (b ≤ a) && decide (a ≤ c)), M) := by
  refine Wp.eq ?_
  unfold phi_is_number s_is_number
  simp [List.replicate]
  by_cases h1 : b ≤ a <;> by_cases h2 : a ≤ c <;> simp [h1, h2] <;> omega
theorem share_ok (f b e : Int) (M : Ms) (hb : 0 ≤ b ∧ b ≤ 30) (he : 0 ≤ e ∧ e ≤ 30) : phi_share [.int f, .int b, .int e] M = some (.int (f * e / 30 - f * b / 30), M) := by
  refine Wp.eq ?_
  unfold phi_share s_share
  simp [List.replicate, lim_eq]
  omega
def upTo (units : Int) : Option Int → Int
  | none => units
  | some u => min units u
def aheadTo (units : Int) : Option Int → Int
  | none => units
  | some u => u
/-- (number, units, price, amount) of each step met -/
def bySteps (units : Int) : Nat → Int → List Step → List (Nat × Int × Int × Int)
  | _, _, [] => []
  | n, a, s :: r => (if a < upTo units s.1 then [(n, upTo units s.1 - a, s.2, (upTo units s.1 - a) * s.2)] else []) ++ bySteps units (n + 1) (aheadTo units s.1) r
theorem bySteps_cons (units : Int) (n : Nat) (a : Int) (s : Step) (r : List Step) : bySteps units n a (s :: r) = (if a < upTo units s.1 then [(n, upTo units s.1 - a, s.2, (upTo units s.1 - a) * s.2)] else []) ++ bySteps units (n + 1) (aheadTo units s.1) r := rfl
def encBy (x : Nat × Int × Int × Int) : D := .tup [.int x.1, .int x.2.1, .int x.2.2.1, .int x.2.2.2]
theorem by_steps_ok (steps : List Step) (units : Int) (M : Ms) (hl : steps.length ≤ 100) (hp : ∀ s ∈ steps, 0 ≤ s.2 ∧ s.2 ≤ 100000) :
    phi_by_steps [.tup (steps.map encStep), .int units] M = some (.lst ((bySteps units 0 0 steps).map encBy), M) := by
  refine Wp.eq ?_
  unfold phi_by_steps s_by_steps
  simp [List.replicate]
  refine for_enum (fun n l ro M' => M' = M ∧ (∃ acc a x4 x5 x6 x7, ro = [some (.val (.tup (steps.map encStep))), some (.val (.int units)), some (.own (acc.map encBy)), some (.val (.int a)), x4, x5, x6, x7] ∧ acc ++ bySteps units n a l = bySteps units 0 0 steps ∧ acc.length + l.length ≤ 100) ∧ ∀ s ∈ l, 0 ≤ s.2 ∧ s.2 ≤ 100000) ?_ ?_ ?_ ?_
  · exact ⟨rfl, ⟨[], 0, none, none, none, none, rfl, rfl, by simpa using hl⟩, hp⟩
  · rintro n l ro M' ⟨rfl, ⟨acc, a, x4, x5, x6, x7, rfl, _⟩, _⟩; simp
  · rintro n ⟨up, pr⟩ l ro M' ⟨rfl, ⟨acc, a, x4, x5, x6, x7, rfl, e, hl'⟩, hq⟩
    have hpr : 0 ≤ pr ∧ pr ≤ 100000 := hq (up, pr) List.mem_cons_self
    have hq' : ∀ s ∈ l, 0 ≤ s.2 ∧ s.2 ≤ 100000 := fun s hs => hq s (List.mem_cons_of_mem _ hs)
    rw [List.length_cons] at hl'
    rw [← e]
    have key : (∃ acc' a', (if a < upTo units up then acc.map encBy ++ [D.tup [.int n, .int (upTo units up - a), .int pr, .int ((upTo units up - a) * pr)]] else acc.map encBy) = acc'.map encBy ∧ a' = aheadTo units up ∧ acc' ++ bySteps units (n + 1) a' l = acc ++ bySteps units n a ((up, pr) :: l) ∧ acc'.length + l.length ≤ 100) := by
      rw [bySteps_cons]
      by_cases h : a < upTo units up
      · exact ⟨acc ++ [(n, upTo units up - a, pr, (upTo units up - a) * pr)], _, by rw [if_pos h]; simp [encBy], rfl, by rw [if_pos h]; simp, by simp; omega⟩
      · exact ⟨acc, _, by rw [if_neg h], rfl, by rw [if_neg h]; simp, by omega⟩
    cases up with
    | none =>
      obtain ⟨acc', a', e1, e2, e3, e4⟩ := key
      simp [encStep, lim_eq, most_eq]
      refine ⟨fun h => ⟨by omega, by omega, ⟨acc', a', ⟨?_, ?_⟩, e3, e4⟩, ?_⟩, fun h => ⟨⟨acc', a', ⟨?_, ?_⟩, e3, e4⟩, ?_⟩⟩
      · rw [← e1]; simp [upTo, h]
      · exact e2.symm
      · exact fun a b hb => hq' (a, b) hb
      · rw [← e1, if_neg (by simp only [upTo]; omega)]
      · exact e2.symm
      · exact fun a b hb => hq' (a, b) hb
    | some u =>
      obtain ⟨acc', a', e1, e2, e3, e4⟩ := key
      simp [encStep, lim_eq, most_eq]
      refine ⟨fun h => ⟨by omega, by omega, ⟨acc', a', ⟨?_, ?_⟩, e3, e4⟩, ?_⟩, fun h => ⟨⟨acc', a', ⟨?_, ?_⟩, e3, e4⟩, ?_⟩⟩
      · rw [← e1, if_pos (by simp only [upTo]; omega)]; simp only [upTo]
      · exact e2.symm
      · exact fun a b hb => hq' (a, b) hb
      · rw [← e1, if_neg (by simp only [upTo]; omega)]
      · exact e2.symm
      · exact fun a b hb => hq' (a, b) hb
  · rintro n ro M' ⟨rfl, ⟨acc, a, x4, x5, x6, x7, rfl, e, _⟩, _⟩
    simp
    rw [← e]; simp [bySteps]
/-- a line of a charge: amounts last -/
inductive Ln where
  | use (name : Str) (b e : Int) (x : Nat × Int × Int × Int)
  | fee (name : Str) (b e due : Int)
  | cap (name : Str) (b e due : Int)
def Ln.enc : Ln → D
  | .use n b e x => .tup [.str "use", .str n, .int b, .int e, .int x.1, .int x.2.1, .int x.2.2.1, .int x.2.2.2]
  | .fee n b e d => .tup [.str "fee", .str n, .int b, .int e, .int d]
  | .cap n b e d => .tup [.str "cap", .str n, .int b, .int e, .int d]
def Ln.amt : Ln → Int
  | .use _ _ _ x => x.2.2.2
  | .fee _ _ _ d => d
  | .cap _ _ _ d => d
def share (f b e : Int) : Int := f * e / 30 - f * b / 30
def first30 (b : Int) : Int := b / 30 * 30
def linesUse (p : Plan) (b e units : Int) : List Ln :=
  (bySteps units 0 0 p.steps).map (Ln.use p.name b e) ++ (if 0 < share p.fee (b - first30 b) (e - first30 b) then [.fee p.name b e (share p.fee (b - first30 b) (e - first30 b))] else [])
def amts (l : List Ln) : Int := (l.map Ln.amt).sum
def capOf (p : Plan) (b e w : Int) : List Ln := match p.cap with
  | none => []
  | some c => if c < w then [.cap p.name b e (c - w)] else []
def linesBy (p : Plan) (b e units : Int) : List Ln := linesUse p b e units ++ capOf p b e (amts (linesUse p b e units))
structure Plan.Ok (p : Plan) : Prop where
  steps : p.steps.length ≤ 100
  price : ∀ s ∈ p.steps, 0 ≤ s.2 ∧ s.2 ≤ 100000
theorem bySteps_len (units : Int) : ∀ (l : List Step) (n : Nat) (a : Int), (bySteps units n a l).length ≤ l.length
  | [], _, _ => by simp [bySteps]
  | s :: l, n, a => by
    have := bySteps_len units l (n + 1) (aheadTo units s.1)
    unfold bySteps
    split <;> simp <;> omega
theorem lines_by_ok (p : Plan) (b e units : Int) (M : Ms) (hp : p.Ok) (hb : 0 ≤ b) (he : first30 b ≤ e ∧ e ≤ first30 b + 30) :
    phi_lines_by [p.enc, .int b, .int e, .int units] M = some (.lst ((linesBy p b e units).map Ln.enc), M) := by
  have hf : first30 b ≤ b ∧ b ≤ first30 b + 30 := by unfold first30; omega
  refine Wp.eq ?_
  unfold phi_lines_by s_lines_by
  simp [List.replicate, Plan.enc, by_steps_ok _ _ _ hp.steps hp.price]
  have hl := bySteps_len units p.steps 0 0
  have hs := hp.steps
  refine Wp.of (comp_all (fun x => (Ln.use p.name b e x).enc) rfl _ [] (by simp [most_eq]; omega) fun x _ => ⟨rfl, by simp [encBy, most_eq, Ln.enc]⟩) ?_
  simp [lim_eq, most_eq]
  refine Wp.of (share_ok _ _ _ M (by unfold first30 at hf; omega) (by unfold first30 at he; omega)) ?_
  have hlu : (linesUse p b e units).length ≤ 102 := by
    unfold linesUse; split <;> simp <;> omega
  by_cases hsh : 0 < share p.fee (b - first30 b) (e - first30 b)
  · have hu : List.map (fun x => (Ln.use p.name b e x).enc) (bySteps units 0 0 p.steps) ++ [D.tup [.str "fee", .str p.name, .int b, .int e, .int (share p.fee (b - first30 b) (e - first30 b))]] = (linesUse p b e units).map Ln.enc := by
      unfold linesUse; rw [if_pos hsh]; simp [Ln.enc]
    simp [share, first30] at hsh hu
    simp [hsh, hu, most_eq]
    have hcl : (bySteps units 0 0 p.steps).length < 100000 := by omega
    refine ⟨by simpa using hcl, ?_⟩
    refine Wp.of (comp_all (f := Ln.enc) (fun x => .int x.amt) (by simp) _ [] (by simp [most_eq]; omega) fun x _ => ⟨rfl, by cases x <;> simp [Ln.enc, Ln.amt]⟩) ?_
    simp [intsD_mapF]
    cases hcap : p.cap with
    | none => simp [linesBy, capOf, hcap]
    | some c =>
      simp [linesBy, capOf, hcap, amts]
      intro h
      exact ⟨by simp [most_eq], by rw [most_eq]; omega, by rw [if_pos h]; rfl⟩
  · have hu : List.map (fun x => (Ln.use p.name b e x).enc) (bySteps units 0 0 p.steps) = (linesUse p b e units).map Ln.enc := by
      unfold linesUse; rw [if_neg hsh]; simp [Ln.enc]
    simp [share, first30] at hsh
    simp [Int.not_lt.mpr hsh, hu]
    refine Wp.of (comp_all (f := Ln.enc) (fun x => .int x.amt) (by simp) _ [] (by simp [most_eq]; omega) fun x _ => ⟨rfl, by cases x <;> simp [Ln.enc, Ln.amt]⟩) ?_
    simp [intsD_mapF]
    cases hcap : p.cap with
    | none => simp [linesBy, capOf, hcap]
    | some c =>
      simp [linesBy, capOf, hcap, amts]
      intro h
      exact ⟨by simp [most_eq], by rw [most_eq]; omega, by rw [if_pos h]; rfl⟩

/-! ### what may be a plan -/
def letters : Str := "abcdefghijklmnopqrstuvwxyz"
def isName (s : Str) : Bool := decide (1 ≤ s.length) && decide (s.length ≤ 6) && s.cps.toList.all fun c => decide (c ∈ letters.cps.toList)
theorem w_inS {ro : Ro} {M : Ms} {Q : D → Prop} (c : Nat) (z : Str) : Wp (opInS ro M (.str ⟨#[c]⟩) (.str z)) Q .mk ↔ Q (.bl (decide (c ∈ z.cps.toList))) := by
  show Wp (if (#[c] : Array Nat).size = 1 then some (D.bl (decide ((#[c] : Array Nat).getD 0 0 ∈ z.cps.toList))) else none) Q .mk ↔ _
  have e : (#[c] : Array Nat).size = 1 := rfl
  rw [if_pos e, Wp_some]; exact Iff.rfl
theorem is_name_ok (s : Str) (M : Ms) (hs : s.length ≤ 1000) : phi_is_name [.str s] M = some (.bl (isName s), M) := by
  have hc : s.cps.size = s.length := rfl
  refine Wp.eq ?_
  unfold phi_is_name s_is_name
  simp [List.replicate, most_eq]
  unfold isName
  refine ⟨by omega, ?_⟩
  by_cases h1 : 1 ≤ s.length
  · by_cases h2 : s.length ≤ 6
    · have h1' : (1 : Int) ≤ s.length := by omega
      have h2' : (s.length : Int) ≤ 6 := by omega
      simp [h1', h2', h1, h2]
      rw [show signs s = s.cps.toList.map (fun c => D.str ⟨#[c]⟩) from rfl]
      refine ⟨⟨?_, fun h => by omega⟩, fun h => by omega⟩
      refine Wp.of (comp_all (f := fun c => D.str ⟨#[c]⟩) (fun c => .bl (decide (c ∈ letters.cps.toList))) rfl _ [] (by rw [most_eq]; simp; omega) fun c _ => ⟨rfl, by simp [w_inS, letters]⟩) ?_
      simp [boolsD_mapF]
      exact fun _ => ⟨h1, h2⟩
    · have h2' : ¬ (s.length : Int) ≤ 6 := by omega
      simp [h2, h2']
  · have h1' : ¬ (1 : Int) ≤ s.length := by omega
    simp [h1, h1']
/-- steps behind the limit a -/
def stepsOk (a : Int) : List Step → Prop
  | [] => False
  | [s] => s.1 = none ∧ 0 ≤ s.2 ∧ s.2 ≤ 999
  | s :: r => (∃ u, s.1 = some u ∧ a + 1 ≤ u ∧ u ≤ 9999 ∧ stepsOk u r) ∧ 0 ≤ s.2 ∧ s.2 ≤ 999
theorem are_steps_ok (l : List Step) (M : Ms) (h5 : l.length ≤ 5) (h : stepsOk 0 l) : phi_are_steps [.tup (l.map encStep)] M = some (.bl true, M) := by
  have h1 : 1 ≤ l.length := by cases l with | nil => exact h.elim | cons _ _ => simp
  have h1' : (1 : Int) ≤ l.length := by omega
  have h5' : (l.length : Int) ≤ 5 := by omega
  refine Wp.eq ?_
  unfold phi_are_steps s_are_steps
  simp [List.replicate, h1', h5']
  refine for_enum (fun n r ro M' => M' = M ∧ n + r.length = l.length ∧ ∃ a x2 x3, ro = [some (.val (.tup (l.map encStep))), some (.val (.int a)), x2, x3] ∧ stepsOk a r) ?_ ?_ ?_ ?_
  · exact ⟨rfl, by simp, 0, none, none, rfl, h⟩
  · rintro n r ro M' ⟨rfl, _, a, x2, x3, rfl, _⟩; simp
  · rintro n ⟨up, pr⟩ r ro M' ⟨rfl, hn, a, x2, x3, rfl, hr⟩
    rw [List.length_cons] at hn
    cases r with
    | nil =>
      obtain ⟨e1, e2, e3⟩ := hr
      have e1' : up = none := e1
      have e2' : 0 ≤ pr := e2
      have e3' : pr ≤ 999 := e3
      subst e1'
      have hl : (n : Int) = (l.length : Int) - 1 := by simp at hn; omega
      simp [encStep, is_number_ok, e2', e3', hl]
    | cons s r =>
      obtain ⟨⟨u, e1, e2, e3, e4⟩, e5, e6⟩ := hr
      have e1' : up = some u := e1
      have e5' : 0 ≤ pr := e5
      have e6' : pr ≤ 999 := e6
      subst e1'
      have hl : ¬ (n : Int) = (l.length : Int) - 1 := by simp at hn; omega
      simp [encStep, is_number_ok, e5', e6', hl, e2, e3]
      exact ⟨by simp at hn; omega, e4⟩
  · rintro n ro M' ⟨rfl, _, a, x2, x3, rfl, hr⟩
    exact hr.elim
/-! dicts -/
theorem getD_none {κ : Type} [DecidableEq κ] : ∀ (kvs : List (κ × D)) (k : κ), (∀ x ∈ kvs, x.1 ≠ k) → getD kvs k = none
  | [], _, _ => rfl
  | x :: r, k, h => by
    have h1 := h x List.mem_cons_self
    have h2 := getD_none r k fun y hy => h y (List.mem_cons_of_mem _ hy)
    unfold getD at h2 ⊢
    rw [List.find?_cons_of_neg (by simpa using h1)]
    exact h2
theorem setD_new {κ : Type} [DecidableEq κ] (kvs : List (κ × D)) (k : κ) (v : D) (h : ∀ x ∈ kvs, x.1 ≠ k) : setD kvs k v = kvs ++ [(k, v)] := by
  unfold setD
  rw [if_neg]
  rw [List.any_eq_true]
  rintro ⟨x, hx, e⟩
  exact h x hx (by simpa using e)
structure Plan.Good (p : Plan) : Prop where
  name : isName p.name = true
  five : p.steps.length ≤ 5
  steps : stepsOk 0 p.steps
  fee : 0 ≤ p.fee ∧ p.fee ≤ 9999
  cap : ∀ c, p.cap = some c → 0 ≤ c ∧ c ≤ 999999
theorem isName_len {s : Str} (h : isName s = true) : s.length ≤ 6 := by
  unfold isName at h
  simp at h
  omega
theorem is_plan_ok (p : Plan) (M : Ms) (j : Nat) (kvs : List (Key × D)) (hp : p.Good) (hj : M[j]? = some (.dK kvs)) (hn : ∀ x ∈ kvs, x.1 ≠ .inr p.name) : phi_is_plan [p.enc, .ref j] M = some (.bl true, M) := by
  have := isName_len hp.name
  refine Wp.eq ?_
  unfold phi_is_plan s_is_plan
  simp [List.replicate, Plan.enc, is_name_ok _ _ (Nat.le_trans this (by decide)), hp.name, hj, getD_none _ _ hn, are_steps_ok _ _ hp.five hp.steps, is_number_ok, hp.fee.1, hp.fee.2]
  cases hc : p.cap with
  | none => simp
  | some c => simp [hp.cap c hc, is_number_ok]
mutual
theorem plain_mono : ∀ {n m : Nat} {d : D}, n ≤ m → plainD n d = true → plainD m d = true
  | _, _, .non, _, _ => by simp [plainD]
  | _, _, .int _, _, _ => by simp [plainD]
  | _, _, .str x, _, h => by simpa [plainD] using h
  | n, m, .tup l, hl, h => by simp only [plainD] at h ⊢; exact plainL_mono hl h
  | n, m, .lst l, hl, h => by simp only [plainD] at h ⊢; exact plainL_mono hl h
  | _, _, .bl _, _, h => by simp [plainD] at h
  | _, _, .ref _, _, h => by simp [plainD] at h
  | _, _, .scr _, _, h => by simp [plainD] at h
  | _, _, .bor _, _, h => by simp [plainD] at h
theorem plainL_mono : ∀ {n m : Nat} {l : List D}, n ≤ m → plainL n l = true → plainL m l = true
  | _, _, [], _, _ => by simp [plainL]
  | 0, _, _ :: _, _, h => by simp [plainL] at h
  | n + 1, 0, _ :: _, hl, _ => by omega
  | n + 1, m + 1, d :: l, hl, h => by
    have h' : plainD n d = true ∧ plainL (n + 1) l = true := by simpa [plainL] using h
    simp only [plainL, Bool.and_eq_true]
    exact ⟨plain_mono (by omega) h'.1, plainL_mono hl h'.2⟩
end
theorem isName_str {s : Str} (h : isName s = true) : PyData.strOk s = true := by
  unfold isName at h
  rw [Bool.and_eq_true, List.all_eq_true] at h
  unfold PyData.strOk
  rw [← Array.all_toList, List.all_eq_true]
  intro c hc
  have hm : c ∈ letters.cps.toList := by simpa using h.2 c hc
  have hall : (letters.cps.toList.all fun c => decide (c < 0x110000)) = true := by decide +kernel
  simpa using List.all_eq_true.mp hall c hm
theorem encO_plain (n : Nat) (o : Option Int) : plainD n (encO o) = true := by cases o <;> simp [encO, plainD]
theorem Plan.Good.plain {p : Plan} (h : p.Good) : plainD 50 p.enc = true := by
  have hs : plainL 49 (p.steps.map encStep) = true := plainL_map fun s _ => by simp [encStep, plainD, plainL, encO_plain]
  simp [Plan.enc, plainD, plainL, isName_str h.name, hs, encO_plain]
theorem need_plans_ok (l : List Plan) (M : Ms) (h1 : 1 ≤ l.length) (h8 : l.length ≤ 8) (hg : ∀ p ∈ l, p.Good) (hd : (l.map (·.name)).Nodup) :
    ∃ c, phi_need_plans [.tup (l.map Plan.enc)] M = some (.non, M ++ [c]) := by
  suffices Wp (phi_need_plans [.tup (l.map Plan.enc)] M) (fun r => ∃ c, r = (.non, M ++ [c])) .mk by
    obtain ⟨r, e, c, rfl⟩ := this; exact ⟨c, e⟩
  have hp : plainD 60 (.tup (l.map Plan.enc)) = true := by
    simp only [plainD]; exact plainL_map (n := 59) fun p h => plain_mono (n := 50) (by decide) (hg p h).plain
  have hne : l ≠ [] := by rintro rfl; simp at h1
  unfold phi_need_plans s_need_plans
  simp [List.replicate]
  refine (w_eqP hp (by simp [plainD, plainL])).mpr ?_
  simp [hne]
  refine for_enum (fun n r ro M' => n + r.length = l.length ∧ ∃ kvs x2 x3, ro = [some (.val (.tup (l.map Plan.enc))), some (.val (.ref M.length)), x2, x3] ∧ M' = M ++ [.dK kvs] ∧ (∀ x ∈ kvs, ∀ p ∈ r, x.1 ≠ .inr p.name) ∧ kvs.length = n ∧ (r.map (·.name)).Nodup ∧ ∀ p ∈ r, p.Good) ?_ ?_ ?_ ?_
  · exact ⟨by simp, [], none, none, rfl, rfl, by simp, rfl, hd, hg⟩
  · rintro n r ro M' ⟨hn, kvs, x2, x3, rfl, rfl, h⟩; simp
  · rintro n p r ro M' ⟨hn, kvs, x2, x3, rfl, rfl, hx, hk, hnd, hgood⟩
    rw [List.length_cons] at hn
    have hlt : ¬ (n : Int) = 8 := by omega
    have hnew : ∀ x ∈ kvs, x.1 ≠ .inr p.name := fun x h => hx x h p List.mem_cons_self
    have hb : isBor p.enc = false := rfl
    simp [hlt, hb]
    refine Wp.of (is_plan_ok p _ M.length kvs (hgood p List.mem_cons_self) (by simp) hnew) ?_
    simp [Plan.enc, setD_new _ _ _ hnew]
    rw [List.map_cons, List.nodup_cons] at hnd
    refine ⟨by rw [most_eq]; omega, by omega, ?_, hk, hnd.2, fun q hq => hgood q (List.mem_cons_of_mem _ hq)⟩
    rintro a b (h | ⟨rfl, rfl⟩) q hq
    · exact hx (a, b) h q (List.mem_cons_of_mem _ hq)
    · intro e
      have e' : p.name = q.name := by injection e
      exact hnd.1 (List.mem_map.mpr ⟨q, hq, e'.symm⟩)
  · rintro n ro M' ⟨hn, kvs, x2, x3, rfl, rfl, h⟩
    simp
end Sim
set_option Elab.async false
set_option linter.all false
set_option maxRecDepth 100000
set_option maxHeartbeats 4000000
/-! A house as plain data, and where it stands. -/
namespace Sim
open PySem L2

structure Meas where
  client : Str
  thing : Str
  day : Int
  units : Int
  told : Int
  gone : Option Int
abbrev Pair := Str × Str
structure Hs where
  plans : List Plan
  grace : Int
  today : Int
  takes : List (Pair × List (Int × Str))
  meas : List Meas
  credits : List (Str × Int × Int)
  bills : List (Int × List (Str × List D))
  rows : List D
  many : Int
  book : List D
  under : Int
/-- where the parts stand -/
structure Lay where
  pl : Nat
  ta : Nat
  me : Nat
  cr : Nat
  bi : Nat
  ro : Nat
  bk : Nat
  ms : List Nat
  cs : List Nat
  bs : List (Nat × List Nat)
def Lay.own (L : Lay) : List Nat := L.ms ++ L.cs ++ L.bs.flatMap fun b => b.1 :: b.2
def Lay.all (k : Nat) (L : Lay) : List Nat := k :: L.pl :: L.ta :: L.me :: L.cr :: L.bi :: L.ro :: L.bk :: L.own
def Hs.flds (L : Lay) (h : Hs) : List (Str × D) :=
  [("plans", .ref L.pl), ("grace", .int h.grace), ("today", .int h.today), ("takes", .ref L.ta), ("measures", .ref L.me), ("credits", .ref L.cr), ("bills", .ref L.bi), ("rows", .ref L.ro), ("many", .int h.many), ("book", .ref L.bk), ("underway", .int h.under)]
def encTk (x : Int × Str) : D := .tup [.int x.1, .str x.2]
def encTake (t : Pair × List (Int × Str)) : List Key × D := ([.inr t.1.1, .inr t.1.2], .lst (t.2.map encTk))
def encPl (p : Plan) : Key × D := (.inr p.name, p.enc)
def Meas.cell (cM : Addr) (m : Meas) : Cell := .ins cM [("client", .str m.client), ("thing", .str m.thing), ("day", .int m.day), ("units", .int m.units), ("told_on", .int m.told), ("gone", encO m.gone)]
def encBill (x : (Int × List (Str × List D)) × Nat) : D := .tup [.int x.1.1, .ref x.2]
structure HAt (cH cM : Addr) (M : Ms) (k : Nat) (L : Lay) (h : Hs) : Prop where
  nd : (L.all k).Nodup
  o : M[k]? = some (.ins cH (h.flds L))
  pl : M[L.pl]? = some (.dK (h.plans.map encPl))
  ta : M[L.ta]? = some (.dT (h.takes.map encTake))
  me : M[L.me]? = some (.lst (L.ms.map D.ref))
  mz : L.ms.length = h.meas.length
  mc : ∀ (i : Nat) (r : Nat) (m : Meas), L.ms[i]? = some r → h.meas[i]? = some m → M[r]? = some (m.cell cM)
  cr : M[L.cr]? = some (.lst (L.cs.map D.ref))
  cz : L.cs.length = h.credits.length
  cc : ∀ (i : Nat) (r : Nat) (c : Str × Int × Int), L.cs[i]? = some r → h.credits[i]? = some c → M[r]? = some (.lst [.str c.1, .int c.2.1, .int c.2.2])
  bi : M[L.bi]? = some (.lst ((h.bills.zip (L.bs.map (·.1))).map encBill))
  bz : L.bs.length = h.bills.length
  bd : ∀ (i : Nat) (r : Nat × List Nat) (b : Int × List (Str × List D)), L.bs[i]? = some r → h.bills[i]? = some b → M[r.1]? = some (.dK ((b.2.zip r.2).map fun x => (.inr x.1.1, .ref x.2))) ∧ r.2.length = b.2.length ∧
    ∀ (j : Nat) (q : Nat) (c : Str × List D), r.2[j]? = some q → b.2[j]? = some c → M[q]? = some (.lst c.2)
  ro : M[L.ro]? = some (.lst h.rows)
  bk : M[L.bk]? = some (.lst h.book)
/-- what stood stands, but for the places named -/
def Fr (M M' : Ms) (fp : List Nat) : Prop := M.length ≤ M'.length ∧ ∀ j, j < M.length → j ∉ fp → M'[j]? = M[j]?
theorem Fr.refl (M : Ms) (fp : List Nat) : Fr M M fp := ⟨Nat.le_refl _, fun _ _ _ => rfl⟩
theorem lt_of_get {M : Ms} {j : Nat} {c : Cell} (h : M[j]? = some c) : j < M.length := (List.getElem?_eq_some_iff.mp h).1
theorem get_app {M X : Ms} {j : Nat} {c : Cell} (h : M[j]? = some c) : (M ++ X)[j]? = some c := by
  rw [List.getElem?_append_left (lt_of_get h)]; exact h
theorem HAt.app {cH cM : Addr} {M : Ms} {k : Nat} {L : Lay} {h : Hs} (H : HAt cH cM M k L h) (X : Ms) : HAt cH cM (M ++ X) k L h :=
  ⟨H.nd, get_app H.o, get_app H.pl, get_app H.ta, get_app H.me, H.mz, fun i r m a b => get_app (H.mc i r m a b), get_app H.cr, H.cz, fun i r c a b => get_app (H.cc i r c a b), get_app H.bi, H.bz,
    fun i r b x y => ⟨get_app (H.bd i r b x y).1, (H.bd i r b x y).2.1, fun j q c u v => get_app ((H.bd i r b x y).2.2 j q c u v)⟩, get_app H.ro, get_app H.bk⟩
end Sim
set_option Elab.async false
set_option linter.all false
set_option maxRecDepth 100000
set_option maxHeartbeats 4000000
/-! Changes of a house where it stands. -/
namespace Sim
open PySem L2
section
variable {cH cM : Addr} {M : Ms} {k : Nat} {L : Lay} {h : Hs}
theorem own_ms {i r : Nat} (e : L.ms[i]? = some r) : r ∈ L.own := by
  unfold Lay.own; simp; exact .inl (List.mem_of_getElem? e)
theorem own_cs {i r : Nat} (e : L.cs[i]? = some r) : r ∈ L.own := by
  unfold Lay.own; simp; exact .inr (.inl (List.mem_of_getElem? e))
theorem own_b {i : Nat} {r : Nat × List Nat} (e : L.bs[i]? = some r) : r.1 ∈ L.own := by
  unfold Lay.own; simp; exact .inr (.inr ⟨r.1, r.2, List.mem_of_getElem? e, .inl rfl⟩)
theorem own_bl {i j q : Nat} {r : Nat × List Nat} (e : L.bs[i]? = some r) (e2 : r.2[j]? = some q) : q ∈ L.own := by
  unfold Lay.own; simp; exact .inr (.inr ⟨r.1, r.2, List.mem_of_getElem? e, .inr (List.mem_of_getElem? e2)⟩)
structure Apart (k : Nat) (L : Lay) : Prop where
  k1 : k ≠ L.pl ∧ k ≠ L.ta ∧ k ≠ L.me ∧ k ≠ L.cr ∧ k ≠ L.bi ∧ k ≠ L.ro ∧ k ≠ L.bk ∧ k ∉ L.own
  k2 : L.pl ≠ L.ta ∧ L.pl ≠ L.me ∧ L.pl ≠ L.cr ∧ L.pl ≠ L.bi ∧ L.pl ≠ L.ro ∧ L.pl ≠ L.bk ∧ L.pl ∉ L.own
  k3 : L.ta ≠ L.me ∧ L.ta ≠ L.cr ∧ L.ta ≠ L.bi ∧ L.ta ≠ L.ro ∧ L.ta ≠ L.bk ∧ L.ta ∉ L.own
  k4 : L.me ≠ L.cr ∧ L.me ≠ L.bi ∧ L.me ≠ L.ro ∧ L.me ≠ L.bk ∧ L.me ∉ L.own
  k5 : L.cr ≠ L.bi ∧ L.cr ≠ L.ro ∧ L.cr ≠ L.bk ∧ L.cr ∉ L.own
  k6 : L.bi ≠ L.ro ∧ L.bi ≠ L.bk ∧ L.bi ∉ L.own
  k7 : L.ro ≠ L.bk ∧ L.ro ∉ L.own
  k8 : L.bk ∉ L.own
theorem apt (n : (L.all k).Nodup) : Apart k L := by
  unfold Lay.all at n
  simp only [List.nodup_cons, List.mem_cons, not_or] at n
  obtain ⟨n1, n2, n3, n4, n5, n6, n7, n8, _⟩ := n
  exact ⟨n1, n2, n3, n4, n5, n6, n7, n8⟩
theorem HAt.owned {M' : Ms} (H : HAt cH cM M k L h) (a : ∀ r ∈ L.own, M'[r]? = M[r]?) :
    (∀ (i : Nat) (r : Nat) (m : Meas), L.ms[i]? = some r → h.meas[i]? = some m → M'[r]? = some (m.cell cM)) ∧
    (∀ (i : Nat) (r : Nat) (c : Str × Int × Int), L.cs[i]? = some r → h.credits[i]? = some c → M'[r]? = some (.lst [.str c.1, .int c.2.1, .int c.2.2])) ∧
    (∀ (i : Nat) (r : Nat × List Nat) (b : Int × List (Str × List D)), L.bs[i]? = some r → h.bills[i]? = some b → M'[r.1]? = some (.dK ((b.2.zip r.2).map fun x => (.inr x.1.1, .ref x.2))) ∧ r.2.length = b.2.length ∧
    ∀ (j : Nat) (q : Nat) (c : Str × List D), r.2[j]? = some q → b.2[j]? = some c → M'[q]? = some (.lst c.2)) := by
  refine ⟨fun i r m e1 e2 => ?_, fun i r c e1 e2 => ?_, fun i r b e1 e2 => ⟨?_, (H.bd i r b e1 e2).2.1, fun j q c e3 e4 => ?_⟩⟩
  · rw [a r (own_ms e1)]; exact H.mc i r m e1 e2
  · rw [a r (own_cs e1)]; exact H.cc i r c e1 e2
  · rw [a r.1 (own_b e1)]; exact (H.bd i r b e1 e2).1
  · rw [a q (own_bl e1 e3)]; exact (H.bd i r b e1 e2).2.2 j q c e3 e4
theorem set_at {M : Ms} {i : Nat} {c c' : Cell} (h : M[i]? = some c) : (M.set i c')[i]? = some c' := List.getElem?_set_self (lt_of_get h)
theorem set_off {M : Ms} {i j : Nat} {c : Cell} (h : i ≠ j) : (M.set i c)[j]? = M[j]? := List.getElem?_set_ne h
theorem set_own {M : Ms} {i : Nat} {c : Cell} (h : i ∉ L.own) : ∀ r ∈ L.own, (M.set i c)[r]? = M[r]? := fun r hr => List.getElem?_set_ne fun e => h (by rw [e]; exact hr)
theorem Fr.set {M M' : Ms} {fp : List Nat} (F : Fr M M' fp) {i : Nat} {c : Cell} (hi : i ∈ fp) : Fr M (M'.set i c) fp :=
  ⟨by rw [List.length_set]; exact F.1, fun j hj hn => by rw [List.getElem?_set_ne (fun e => hn (by rw [← e]; exact hi))]; exact F.2 j hj hn⟩
theorem Fr.app {M M' : Ms} {fp : List Nat} (F : Fr M M' fp) (X : Ms) : Fr M (M' ++ X) fp :=
  ⟨by rw [List.length_append]; exact Nat.le_trans F.1 (Nat.le_add_right _ _), fun j hj hn => by rw [List.getElem?_append_left (Nat.lt_of_lt_of_le hj F.1)]; exact F.2 j hj hn⟩
/-- numbers of the house change -/
theorem HAt.setK (H : HAt cH cM M k L h) {fs : List (Str × D)} (h' : Hs) (ef : h'.flds L = fs) (e1 : h'.plans = h.plans) (e2 : h'.takes = h.takes) (e3 : h'.meas = h.meas) (e4 : h'.credits = h.credits) (e5 : h'.bills = h.bills) (e6 : h'.rows = h.rows) (e7 : h'.book = h.book) : HAt cH cM (M.set k (.ins cH fs)) k L h' := by
  have A := (apt H.nd).k1
  obtain ⟨mc, cc, bd⟩ := H.owned (M' := M.set k (.ins cH fs)) (set_own A.2.2.2.2.2.2.2)
  subst ef
  refine ⟨H.nd, set_at H.o, ?_, ?_, ?_, by rw [e3]; exact H.mz, by rw [e3]; exact mc, ?_, by rw [e4]; exact H.cz, by rw [e4]; exact cc, ?_, by rw [e5]; exact H.bz, by rw [e5]; exact bd, ?_, ?_⟩
  · rw [e1, set_off A.1]; exact H.pl
  · rw [e2, set_off A.2.1]; exact H.ta
  · rw [set_off A.2.2.1]; exact H.me
  · rw [set_off A.2.2.2.1]; exact H.cr
  · rw [e5, set_off A.2.2.2.2.1]; exact H.bi
  · rw [e6, set_off A.2.2.2.2.2.1]; exact H.ro
  · rw [e7, set_off A.2.2.2.2.2.2.1]; exact H.bk
theorem HAt.setRo (H : HAt cH cM M k L h) (rows : List D) : HAt cH cM (M.set L.ro (.lst rows)) k L { h with rows := rows } := by
  have A := apt H.nd
  obtain ⟨mc, cc, bd⟩ := H.owned (M' := M.set L.ro (.lst rows)) (set_own A.k7.2)
  refine ⟨H.nd, ?_, ?_, ?_, ?_, H.mz, mc, ?_, H.cz, cc, ?_, H.bz, bd, set_at H.ro, ?_⟩
  · rw [set_off A.k1.2.2.2.2.2.1.symm]; exact H.o
  · rw [set_off A.k2.2.2.2.2.1.symm]; exact H.pl
  · rw [set_off A.k3.2.2.2.1.symm]; exact H.ta
  · rw [set_off A.k4.2.2.1.symm]; exact H.me
  · rw [set_off A.k5.2.1.symm]; exact H.cr
  · rw [set_off A.k6.1.symm]; exact H.bi
  · rw [set_off A.k7.1]; exact H.bk
theorem HAt.setTa (H : HAt cH cM M k L h) (tk : List (Pair × List (Int × Str))) : HAt cH cM (M.set L.ta (.dT (tk.map encTake))) k L { h with takes := tk } := by
  have A := apt H.nd
  obtain ⟨mc, cc, bd⟩ := H.owned (M' := M.set L.ta (.dT (tk.map encTake))) (set_own A.k3.2.2.2.2.2)
  refine ⟨H.nd, ?_, ?_, set_at H.ta, ?_, H.mz, mc, ?_, H.cz, cc, ?_, H.bz, bd, ?_, ?_⟩
  · rw [set_off A.k1.2.1.symm]; exact H.o
  · rw [set_off A.k2.1.symm]; exact H.pl
  · rw [set_off A.k3.1]; exact H.me
  · rw [set_off A.k3.2.1]; exact H.cr
  · rw [set_off A.k3.2.2.1]; exact H.bi
  · rw [set_off A.k3.2.2.2.1]; exact H.ro
  · rw [set_off A.k3.2.2.2.2.1]; exact H.bk
theorem mem_k : k ∈ L.all k := by unfold Lay.all; simp
theorem mem_ro : L.ro ∈ L.all k := by unfold Lay.all; simp
theorem mem_ta : L.ta ∈ L.all k := by unfold Lay.all; simp
theorem mem_me : L.me ∈ L.all k := by unfold Lay.all; simp
theorem HAt.ins (H : HAt cH cM M k L h) : insC cH M[k]? = some (h.flds L) := by rw [H.o, insC_ins]

@[simp] theorem fl_plans : (h.flds L).lookup ("plans" : Str) = some (D.ref L.pl) := by rfl
@[simp] theorem fl_grace : (h.flds L).lookup ("grace" : Str) = some (D.int h.grace) := by rfl
@[simp] theorem fl_today : (h.flds L).lookup ("today" : Str) = some (D.int h.today) := by rfl
@[simp] theorem fl_takes : (h.flds L).lookup ("takes" : Str) = some (D.ref L.ta) := by rfl
@[simp] theorem fl_measures : (h.flds L).lookup ("measures" : Str) = some (D.ref L.me) := by rfl
@[simp] theorem fl_credits : (h.flds L).lookup ("credits" : Str) = some (D.ref L.cr) := by rfl
@[simp] theorem fl_bills : (h.flds L).lookup ("bills" : Str) = some (D.ref L.bi) := by rfl
@[simp] theorem fl_rows : (h.flds L).lookup ("rows" : Str) = some (D.ref L.ro) := by rfl
@[simp] theorem fl_many : (h.flds L).lookup ("many" : Str) = some (D.int h.many) := by rfl
@[simp] theorem fl_book : (h.flds L).lookup ("book" : Str) = some (D.ref L.bk) := by rfl
@[simp] theorem fl_underway : (h.flds L).lookup ("underway" : Str) = some (D.int h.under) := by rfl
@[simp] theorem put_grace (i : Int) : putD "grace" (.int i) (h.flds L) = Hs.flds L { h with grace := i } := by rfl
@[simp] theorem put_today (i : Int) : putD "today" (.int i) (h.flds L) = Hs.flds L { h with today := i } := by rfl
@[simp] theorem put_many (i : Int) : putD "many" (.int i) (h.flds L) = Hs.flds L { h with many := i } := by rfl
@[simp] theorem put_underway (i : Int) : putD "underway" (.int i) (h.flds L) = Hs.flds L { h with under := i } := by rfl
@[simp] theorem flds_len : (h.flds L).length = 11 := rfl
@[simp] theorem no_need_day : (h.flds L).lookup ("need_day" : Str) = none := by rfl
@[simp] theorem no_need_names : (h.flds L).lookup ("need_names" : Str) = none := by rfl
@[simp] theorem no_done : (h.flds L).lookup ("done" : Str) = none := by rfl
@[simp] theorem no_take : (h.flds L).lookup ("take" : Str) = none := by rfl
@[simp] theorem no_plan_on : (h.flds L).lookup ("plan_on" : Str) = none := by rfl
@[simp] theorem no_use : (h.flds L).lookup ("use" : Str) = none := by rfl
@[simp] theorem no_void : (h.flds L).lookup ("void" : Str) = none := by rfl
@[simp] theorem no_credit : (h.flds L).lookup ("credit" : Str) = none := by rfl
@[simp] theorem no_counts : (h.flds L).lookup ("counts" : Str) = none := by rfl
@[simp] theorem no_stretches : (h.flds L).lookup ("stretches" : Str) = none := by rfl
@[simp] theorem no_parts_in : (h.flds L).lookup ("parts_in" : Str) = none := by rfl
@[simp] theorem no_lines_in : (h.flds L).lookup ("lines_in" : Str) = none := by rfl
@[simp] theorem no_charge_in : (h.flds L).lookup ("charge_in" : Str) = none := by rfl
@[simp] theorem no_need_pair : (h.flds L).lookup ("need_pair" : Str) = none := by rfl
@[simp] theorem no_charge : (h.flds L).lookup ("charge" : Str) = none := by rfl
@[simp] theorem no_billed_in : (h.flds L).lookup ("billed_in" : Str) = none := by rfl
@[simp] theorem no_bill : (h.flds L).lookup ("bill" : Str) = none := by rfl
@[simp] theorem no_lines_for : (h.flds L).lookup ("lines_for" : Str) = none := by rfl
@[simp] theorem no_settled : (h.flds L).lookup ("settled" : Str) = none := by rfl
@[simp] theorem no_need_bill : (h.flds L).lookup ("need_bill" : Str) = none := by rfl
@[simp] theorem no_lines : (h.flds L).lookup ("lines" : Str) = none := by rfl
@[simp] theorem no_leads : (h.flds L).lookup ("leads" : Str) = none := by rfl
@[simp] theorem no_is_within : (h.flds L).lookup ("is_within" : Str) = none := by rfl
@[simp] theorem no_left : (h.flds L).lookup ("left" : Str) = none := by rfl
@[simp] theorem no_measures_of : (h.flds L).lookup ("measures_of" : Str) = none := by rfl
@[simp] theorem no_deeds : (h.flds L).lookup ("deeds" : Str) = none := by rfl
@[simp] theorem no_do : (h.flds L).lookup ("do" : Str) = none := by rfl
@[simp] theorem no_batch : (h.flds L).lookup ("batch" : Str) = none := by rfl
@[simp] theorem no_kept : (h.flds L).lookup ("kept" : Str) = none := by rfl
@[simp] theorem no_go_back : (h.flds L).lookup ("go_back" : Str) = none := by rfl
@[simp] theorem no_told : (h.flds L).lookup ("told" : Str) = none := by rfl
@[simp] theorem no_is_idle : (h.flds L).lookup ("is_idle" : Str) = none := by rfl
/-! ### what the methods do -/
theorem need_day_ok (H : HAt cH cM M k L h) {d : Int} (h1 : h.today ≤ d) (h2 : d ≤ 420) : phi_House_need_day cH [.ref k, .int d] M = some (.non, M) := by
  refine Wp.eq ?_
  unfold phi_House_need_day s_House_need_day
  simp [List.replicate, H.o, lim_eq, is_number_ok, h1, h2]
  trace_state
theorem need_names_ok {a b : Str} {M : Ms} (x : D) (hx : isBor x = false) (h1 : isName a = true) (h2 : isName b = true) : phi_House_need_names [x, .lst [.str a, .str b]] M = some (.non, M) := by
  have l1 := isName_len h1
  have l2 := isName_len h2
  refine Wp.eq ?_
  unfold phi_House_need_names s_House_need_names
  simp [List.replicate]
  rw [show [D.str a, D.str b] = [a, b].map D.str from rfl]
  refine Wp.of (comp_all (f := D.str) (fun c => .bl (isName c)) rfl _ [] (by rw [most_eq]; simp) fun c hc => ⟨rfl, ?_⟩) ?_
  · have hl : c.length ≤ 1000 := by
      simp at hc; rcases hc with rfl | rfl <;> omega
    simp [is_name_ok _ _ hl]
  · have e : boolsD [D.bl true, D.bl true] = some [true, true] := rfl
    simp [e, h1, h2]
theorem done_ok (H : HAt cH cM M k L h) {d : Int} {row : D} (hr : isBor row = false) (hl : h.rows.length < 90000) :
    Wp (phi_House_done cH [.ref k, .int d, row] M) (fun r => r.1 = .non ∧ HAt cH cM r.2 k L { h with today := d, rows := h.rows ++ [row], many := h.many + 1 } ∧ Fr M r.2 (L.all k)) .mk := by
  have A := apt H.nd
  unfold phi_House_done s_House_done
  simp [List.replicate, H.o, hr]
  have H1 := H.setK { h with today := d } rfl rfl rfl rfl rfl rfl rfl rfl
  have F1 : Fr M (M.set k (.ins cH (Hs.flds L { h with today := d }))) (L.all k) := (Fr.refl _ _).set mem_k
  revert H1 F1
  generalize M.set k (.ins cH (Hs.flds L { h with today := d })) = M1
  intro H1 F1
  simp [H1.o, H1.ro, hr]
  refine ⟨by rw [most_eq]; omega, ?_⟩
  have H2 := H1.setRo (h.rows ++ [row])
  have F2 := F1.set (i := L.ro) (c := .lst (h.rows ++ [row])) mem_ro
  revert H2 F2
  generalize M1.set L.ro (.lst (h.rows ++ [row])) = M2
  intro H2 F2
  simp [H2.o]
  exact ⟨H2.setK _ rfl rfl rfl rfl rfl rfl rfl rfl, F2.set mem_k⟩

/-! ### plans taken -/
def takesOf (tk : List (Pair × List (Int × Str))) (q : Pair) : List (Int × Str) := ((tk.find? fun t => decide (t.1 = q)).map (·.2)).getD []
def setTk (tk : List (Pair × List (Int × Str))) (q : Pair) (v : List (Int × Str)) : List (Pair × List (Int × Str)) :=
  if (tk.any fun t => decide (t.1 = q)) = true then tk.map (fun t => if t.1 = q then (t.1, v) else t) else tk ++ [(q, v)]
theorem key_iff (p q : Pair) : ([.inr p.1, .inr p.2] : List Key) = [.inr q.1, .inr q.2] ↔ p = q := by
  obtain ⟨a, b⟩ := p
  obtain ⟨c, d⟩ := q
  simp
theorem getD_takes (q : Pair) : ∀ tk : List (Pair × List (Int × Str)), getD (tk.map encTake) [.inr q.1, .inr q.2] = (tk.find? fun t => decide (t.1 = q)).map fun t => .lst (t.2.map encTk)
  | [] => rfl
  | t :: tk => by
    have ih := getD_takes q tk
    unfold getD at ih ⊢
    by_cases e : t.1 = q
    · rw [List.map_cons, List.find?_cons_of_pos (by simpa [encTake] using (key_iff t.1 q).mpr e), List.find?_cons_of_pos (by simpa using e)]; rfl
    · rw [List.map_cons, List.find?_cons_of_neg (by intro h; exact e ((key_iff t.1 q).mp (by simpa [encTake] using h))), List.find?_cons_of_neg (by simpa using e)]; exact ih
theorem getD_takesD (q : Pair) (tk : List (Pair × List (Int × Str))) : (getD (tk.map encTake) [.inr q.1, .inr q.2]).getD (.lst []) = .lst ((takesOf tk q).map encTk) := by
  rw [getD_takes]
  unfold takesOf
  cases tk.find? fun t => decide (t.1 = q) <;> rfl
theorem getD_takesP (c t : Str) (tk : List (Pair × List (Int × Str))) : (getD (tk.map encTake) [.inr c, .inr t]).getD (.lst []) = .lst ((takesOf tk (c, t)).map encTk) := getD_takesD (c, t) tk
theorem setD_takes (q : Pair) (v : List (Int × Str)) (tk : List (Pair × List (Int × Str))) : setD (tk.map encTake) [.inr q.1, .inr q.2] (.lst (v.map encTk)) = (setTk tk q v).map encTake := by
  unfold setD setTk
  have ea : (tk.map encTake).any (fun kv => decide (kv.1 = [.inr q.1, .inr q.2])) = tk.any (fun t => decide (t.1 = q)) := by
    rw [List.any_map]
    congr 1
    funext t
    exact decide_eq_decide.mpr (key_iff t.1 q)
  rw [ea]
  split
  · rw [List.map_map, List.map_map]
    refine List.map_congr_left fun t _ => ?_
    show (if ([.inr t.1.1, .inr t.1.2] : List Key) = [.inr q.1, .inr q.2] then _ else _) = encTake (if t.1 = q then (t.1, v) else t)
    by_cases e : t.1 = q
    · rw [if_pos ((key_iff t.1 q).mpr e), if_pos e]; rfl
    · rw [if_neg (fun h => e ((key_iff t.1 q).mp h)), if_neg e]
  · rw [List.map_append]; rfl
theorem setD_takesP (c t : Str) (v : List (Int × Str)) (tk : List (Pair × List (Int × Str))) : setD (tk.map encTake) [.inr c, .inr t] (.lst (v.map encTk)) = (setTk tk (c, t) v).map encTake := setD_takes (c, t) v tk
theorem getD_plans (n : Str) : ∀ l : List Plan, getD (l.map encPl) (.inr n) = (l.find? fun p => decide (p.name = n)).map Plan.enc
  | [] => rfl
  | p :: l => by
    have ih := getD_plans n l
    unfold getD at ih ⊢
    by_cases e : p.name = n
    · rw [List.map_cons, List.find?_cons_of_pos (by simpa [encPl] using e), List.find?_cons_of_pos (by simpa using e)]; rfl
    · rw [List.map_cons, List.find?_cons_of_neg (by simpa [encPl] using e), List.find?_cons_of_neg (by simpa using e)]; exact ih
def hasPlan (l : List Plan) (n : Str) : Prop := ∃ p, l.find? (fun p => decide (p.name = n)) = some p
def takeRow (some : List (Int × Str)) (d : Int) (pl : Str) : List (Int × Str) :=
  if some.filter (fun x => decide (x.1 < d)) = [] ∨ (some.filter fun x => decide (x.1 < d)).getLast?.map (·.2) ≠ Option.some pl then some.filter (fun x => decide (x.1 < d)) ++ [(d, pl)] else some.filter fun x => decide (x.1 < d)
def Hs.take (h : Hs) (d : Int) (c t pl : Str) : Hs :=
  { h with takes := setTk h.takes (c, t) (takeRow (takesOf h.takes (c, t)) d pl), today := d, rows := h.rows ++ [.tup [.str "take", .int d, .str c, .str t, .str pl]], many := h.many + 1 }
theorem take_ok (H : HAt cH cM M k L h) {d : Int} {c t pl : Str} (h1 : h.today ≤ d) (h2 : d < 360) (hc : isName c = true) (ht : isName t = true) (hp : hasPlan h.plans pl) (hl : h.rows.length < 90000) (hq : h.takes.length < 90000) (hs : (takesOf h.takes (c, t)).length < 90000) (hok : ∀ x ∈ takesOf h.takes (c, t), PyData.strOk x.2 = true) :
    Wp (phi_House_take cH [.ref k, .int d, .str c, .str t, .str pl] M) (fun r => r.1 = .non ∧ HAt cH cM r.2 k L (h.take d c t pl) ∧ Fr M r.2 (L.all k)) .mk := by
  obtain ⟨p, hp⟩ := hp
  have n1 : ¬ 360 ≤ d := by omega
  have rest : ∀ (v : List (Int × Str)), v = takeRow (takesOf h.takes (c, t)) d pl → Wp (execB (List.drop 6 (s_House_take cH)) [some (Sl.val (D.ref k)), some (Sl.val (D.int d)), some (Sl.val (D.str c)), some (Sl.val (D.str t)), some (Sl.val (D.str pl)), some (Sl.own (v.map encTk)), none] M) (fun x => Wp (endF x) (fun r => r.1 = .non ∧ HAt cH cM r.2 k L (h.take d c t pl) ∧ Fr M r.2 (L.all k)) .mk) .mk := by
    rintro v rfl
    unfold s_House_take
    simp [H.o, H.ta, setD_takesP, most_eq]
    refine ⟨by omega, ?_⟩
    have H1 := H.setTa (setTk h.takes (c, t) (takeRow (takesOf h.takes (c, t)) d pl))
    have F1 : Fr M (M.set L.ta (.dT ((setTk h.takes (c, t) (takeRow (takesOf h.takes (c, t)) d pl)).map encTake))) (L.all k) := (Fr.refl _ _).set mem_ta
    revert H1 F1
    generalize M.set L.ta (.dT ((setTk h.takes (c, t) (takeRow (takesOf h.takes (c, t)) d pl)).map encTake)) = M1
    intro H1 F1
    simp [H1.o, most_eq]
    refine (done_ok H1 (d := d) (row := .tup [.str "take", .int d, .str c, .str t, .str pl]) rfl hl).mono fun r ⟨r1, r2, r3⟩ => ?_
    obtain ⟨rd, rm⟩ := r
    simp
    exact ⟨r2, Nat.le_trans F1.1 r3.1, fun j hj hn => (r3.2 j (Nat.lt_of_lt_of_le hj F1.1) hn).trans (F1.2 j hj hn)⟩
  unfold phi_House_take
  rw [w_runF]
  refine w_split 6 _ ?_
  revert rest
  generalize List.drop 6 (s_House_take cH) = T
  intro rest
  unfold s_House_take
  simp [List.replicate, H.o, need_day_ok H h1 (by omega), n1, need_names_ok _ (isBor_ref k) hc ht, H.pl, getD_plans, hp, H.ta, getD_takesP]
  refine ⟨by simp [most_eq], ?_⟩
  refine Wp.of (comp_pure (f := encTk) (fun x => decide (x.1 < d)) encTk rfl _ [] (by rw [most_eq]; simp; omega) fun x _ => ⟨rfl, ?_⟩) ?_
  · by_cases hx : x.1 < d <;> simp [encTk, hx]
  have hFo : ∀ x ∈ (takesOf h.takes (c, t)).filter (fun x => decide (x.1 < d)), PyData.strOk x.2 = true := fun x hx => hok x (List.mem_filter.mp hx).1
  have hFl : ((takesOf h.takes (c, t)).filter (fun x => decide (x.1 < d))).length < 90000 := Nat.lt_of_le_of_lt (List.length_filter_le _ _) hs
  have hrow : takeRow (takesOf h.takes (c, t)) d pl = takeRow (takesOf h.takes (c, t)) d pl := rfl
  conv at hrow => rhs; unfold takeRow
  revert hFo hFl hrow
  generalize (takesOf h.takes (c, t)).filter (fun x => decide (x.1 < d)) = F
  intro hFo hFl hrow
  have hpl : plainL 60 (F.map encTk) = true := plainL_map (n := 59) fun x hx => by
    simp [encTk, plainD, plainL, hFo x hx]
  rcases List.eq_nil_or_concat F with rfl | ⟨F', x, rfl⟩
  · simp
    refine (w_eqO (by rfl) hpl (by simp [plainL])).mpr ?_
    simp [most_eq]
    exact rest [(d, pl)] (by rw [hrow]; simp)
  · rw [List.concat_eq_append] at hFo hFl hrow hpl ⊢
    rw [hrow] at rest
    have hpl' : plainL 60 (F'.map encTk ++ [encTk x]) = true := by simpa using hpl
    simp
    refine (w_eqO (by rfl) hpl' (by simp [plainL])).mpr ?_
    simp [encTk]
    refine ⟨fun hne => ?_, fun he => ?_⟩
    · have := rest (F' ++ [x] ++ [(d, pl)]) (by simp [hne])
      refine ⟨by simp [most_eq], by rw [most_eq]; simp at hFl; omega, ?_⟩
      simpa [encTk] using this
    · have := rest (F' ++ [x]) (by simp [he])
      simpa [encTk] using this
/-! ### uses -/
def planOn (tk : List (Int × Str)) (day : Int) : Option Str := ((tk.filter fun x => decide (x.1 ≤ day)).getLast?).map (·.2)
def encS : Option Str → D
  | none => .non
  | some s => .str s
theorem plan_on_ok (H : HAt cH cM M k L h) {c t : Str} {day : Int} (hs : (takesOf h.takes (c, t)).length < 90000) (hok : ∀ x ∈ takesOf h.takes (c, t), PyData.strOk x.2 = true) :
    phi_House_plan_on cH [.ref k, .str c, .str t, .int day] M = some (encS (planOn (takesOf h.takes (c, t)) day), M) := by
  refine Wp.eq ?_
  unfold phi_House_plan_on s_House_plan_on
  simp [List.replicate, H.o, H.ta, getD_takesP]
  refine ⟨by simp [most_eq], ?_⟩
  refine Wp.of (comp_pure (f := encTk) (fun x => decide (x.1 ≤ day)) (fun x => .str x.2) rfl _ [] (by rw [most_eq]; simp; omega) fun x _ => ⟨rfl, ?_⟩) ?_
  · by_cases hx : x.1 ≤ day <;> simp [encTk, hx]
  unfold planOn
  have hFo : ∀ x ∈ (takesOf h.takes (c, t)).filter (fun x => decide (x.1 ≤ day)), PyData.strOk x.2 = true := fun x hx => hok x (List.mem_filter.mp hx).1
  revert hFo
  generalize (takesOf h.takes (c, t)).filter (fun x => decide (x.1 ≤ day)) = F
  intro hFo
  have hpl : plainL 60 (F.map fun x => D.str x.2) = true := plainL_map (n := 59) fun x hx => by simp [plainD, hFo x hx]
  rcases List.eq_nil_or_concat F with rfl | ⟨F', x, rfl⟩
  · simp
    refine (w_neO (by rfl) hpl (by simp [plainL])).mpr ?_
    simp [encS]
  · rw [List.concat_eq_append] at hpl ⊢
    have hpl' : plainL 60 (F'.map (fun x => D.str x.2) ++ [D.str x.2]) = true := by simpa using hpl
    simp
    refine (w_neO (by rfl) hpl' (by simp [plainL])).mpr ?_
    simp [encS]
def Hs.use (h : Hs) (d : Int) (c t : Str) (day units : Int) : Hs :=
  { h with meas := h.meas ++ [⟨c, t, day, units, d, none⟩], today := d, rows := h.rows ++ [.tup [.str "use", .int d, .str c, .str t, .int day, .int units]], many := h.many + 1 }
theorem meas_init_ok (r : Nat) (c t : Str) (day units told : Int) (hr : M[r]? = some (.ins cM [])) :
    phi_Measure_init cM [.ref r, .str c, .str t, .int day, .int units, .int told] M = some (.non, M.set r (Meas.cell cM ⟨c, t, day, units, told, none⟩)) := by
  have hs : ∀ c, (M.set r c)[r]? = some c := fun c => set_at hr
  refine Wp.eq ?_
  unfold phi_Measure_init s_Measure_init
  simp [List.replicate, hr, hs, List.set_set, Meas.cell]
  exact ⟨(by decide : 1 < 999), (by decide : 2 < 999), (by decide : 3 < 999), (by decide : 4 < 999), (by decide : 5 < 999), rfl⟩
theorem nodup_add {A B C : List Nat} {x : Nat} (h : (A ++ B).Nodup) (hx : x ∉ A ++ B) : (A ++ x :: B).Nodup := by
  rw [List.nodup_append] at h ⊢
  obtain ⟨h1, h2, h3⟩ := h
  rw [List.mem_append, not_or] at hx
  refine ⟨h1, List.nodup_cons.mpr ⟨hx.2, h2⟩, fun a ha b hb => ?_⟩
  rcases List.mem_cons.mp hb with rfl | hb
  · rintro rfl; exact hx.1 ha
  · exact h3 a ha b hb
def Lay.addM (L : Lay) (r : Nat) : Lay := { L with ms := L.ms ++ [r] }
theorem addM_all (L : Lay) (k r : Nat) : (L.addM r).all k = (k :: L.pl :: L.ta :: L.me :: L.cr :: L.bi :: L.ro :: L.bk :: L.ms) ++ r :: (L.cs ++ L.bs.flatMap fun b => b.1 :: b.2) := by
  simp [Lay.all, Lay.own, Lay.addM]
theorem all_split (L : Lay) (k : Nat) : L.all k = (k :: L.pl :: L.ta :: L.me :: L.cr :: L.bi :: L.ro :: L.bk :: L.ms) ++ (L.cs ++ L.bs.flatMap fun b => b.1 :: b.2) := by
  simp [Lay.all, Lay.own]
/-- all of a house's places are in use -/
theorem HAt.lt_all (H : HAt cH cM M k L h) : ∀ x ∈ L.all k, x < M.length := by
  intro x hx
  unfold Lay.all Lay.own at hx
  simp only [List.mem_cons, List.mem_append, List.mem_flatMap] at hx
  rcases hx with rfl | rfl | rfl | rfl | rfl | rfl | rfl | rfl | hx
  · exact lt_of_get H.o
  · exact lt_of_get H.pl
  · exact lt_of_get H.ta
  · exact lt_of_get H.me
  · exact lt_of_get H.cr
  · exact lt_of_get H.bi
  · exact lt_of_get H.ro
  · exact lt_of_get H.bk
  · rcases hx with (hx | hx) | ⟨b, hb, hx⟩
    · obtain ⟨i, hi, e⟩ := List.getElem_of_mem hx
      have hi' : i < h.meas.length := by rw [← H.mz]; exact hi
      exact lt_of_get (H.mc i x h.meas[i] (by rw [List.getElem?_eq_getElem hi, e]) (List.getElem?_eq_getElem hi'))
    · obtain ⟨i, hi, e⟩ := List.getElem_of_mem hx
      have hi' : i < h.credits.length := by rw [← H.cz]; exact hi
      exact lt_of_get (H.cc i x h.credits[i] (by rw [List.getElem?_eq_getElem hi, e]) (List.getElem?_eq_getElem hi'))
    · obtain ⟨i, hi, e⟩ := List.getElem_of_mem hb
      have hi' : i < h.bills.length := by rw [← H.bz]; exact hi
      obtain ⟨q1, q2, q3⟩ := H.bd i b h.bills[i] (by rw [List.getElem?_eq_getElem hi, e]) (List.getElem?_eq_getElem hi')
      rcases hx with rfl | hx
      · exact lt_of_get q1
      · obtain ⟨j, hj, e⟩ := List.getElem_of_mem hx
        have hj' : j < h.bills[i].2.length := by rw [← q2]; exact hj
        exact lt_of_get (q3 j x h.bills[i].2[j] (by rw [List.getElem?_eq_getElem hj, e]) (List.getElem?_eq_getElem hj'))
/-- a measure more, its object at the end -/
theorem HAt.addM (H : HAt cH cM M k L h) (m : Meas) : HAt cH cM ((M ++ [m.cell cM]).set L.me (.lst ((L.ms ++ [M.length]).map D.ref))) k (L.addM M.length) { h with meas := h.meas ++ [m] } := by
  have A := apt H.nd
  have H0 := H.app [m.cell cM]
  have hne : ∀ x ∈ L.all k, x ≠ M.length := fun x hx => Nat.ne_of_lt (H.lt_all x hx)
  obtain ⟨mc, cc, bd⟩ := H0.owned (M' := (M ++ [m.cell cM]).set L.me (.lst ((L.ms ++ [M.length]).map D.ref))) (set_own A.k4.2.2.2.2)
  have hm : L.me ≠ M.length := hne _ mem_me
  refine ⟨?_, ?_, ?_, ?_, set_at H0.me, ?_, fun i r m' e1 e2 => ?_, ?_, H.cz, cc, ?_, H.bz, bd, ?_, ?_⟩
  · rw [addM_all]
    exact nodup_add (C := []) (by rw [← all_split]; exact H.nd) fun hx => by
      rw [← all_split] at hx; exact hne _ hx rfl
  · rw [set_off A.k1.2.2.1.symm]; exact H0.o
  · exact (set_off A.k2.2.1.symm).trans H0.pl
  · exact (set_off A.k3.1.symm).trans H0.ta
  · show (L.ms ++ [M.length]).length = (h.meas ++ [m]).length
    rw [List.length_append, List.length_append, H.mz]; rfl
  · have e1' : (L.ms ++ [M.length])[i]? = some r := e1
    have e2' : (h.meas ++ [m])[i]? = some m' := e2
    by_cases hi : i < L.ms.length
    · rw [List.getElem?_append_left hi] at e1'
      rw [List.getElem?_append_left (by rw [← H.mz]; exact hi)] at e2'
      exact mc i r m' e1' e2'
    · rw [List.getElem?_append_right (by omega)] at e1'
      rw [List.getElem?_append_right (by rw [← H.mz]; omega)] at e2'
      have hz : i - L.ms.length = 0 := by
        have := (List.getElem?_eq_some_iff.mp e1').1; simp at this; omega
      rw [hz] at e1'; rw [← H.mz, hz] at e2'
      simp at e1' e2'
      subst e1' e2'
      rw [set_off hm, List.getElem?_append_right (Nat.le_refl _), Nat.sub_self]; rfl
  · exact (set_off A.k4.1).trans H0.cr
  · exact (set_off A.k4.2.1).trans H0.bi
  · exact (set_off A.k4.2.2.1).trans H0.ro
  · exact (set_off A.k4.2.2.2.1).trans H0.bk
theorem Fr.trans {M M1 M2 : Ms} {a b : List Nat} (F : Fr M M1 a) (G : Fr M1 M2 b) (hb : ∀ x ∈ b, x < M.length → x ∈ a) : Fr M M2 a :=
  ⟨Nat.le_trans F.1 G.1, fun j hj hn => (G.2 j (Nat.lt_of_lt_of_le hj F.1) fun h => hn (hb j h hj)).trans (F.2 j hj hn)⟩
theorem use_ok (H : HAt cH cM M k L h) {d : Int} {c t : Str} {day units : Int} (h1 : h.today ≤ d) (h2 : d ≤ 420) (hc : isName c = true) (ht : isName t = true) (hd : 0 ≤ day ∧ day ≤ d ∧ day ≤ 359) (hu : 0 ≤ units ∧ units ≤ 9999)
    (hp : planOn (takesOf h.takes (c, t)) day ≠ none) (hl : h.rows.length < 90000) (hm : h.meas.length < 90000) (hs : (takesOf h.takes (c, t)).length < 90000) (hok : ∀ x ∈ takesOf h.takes (c, t), PyData.strOk x.2 = true) :
    Wp (phi_House_use cH cM [.ref k, .int d, .str c, .str t, .int day, .int units] M) (fun r => r.1 = .int h.meas.length ∧ HAt cH cM r.2 k (L.addM M.length) (h.use d c t day units) ∧ Fr M r.2 (L.all k)) .mk := by
  have e1 : min d (360 - 1) = min d 359 := by omega
  have e2 : day ≤ min d 359 := by omega
  have hpl : isNon (encS (planOn (takesOf h.takes (c, t)) day)) = false := by
    cases e : planOn (takesOf h.takes (c, t)) day with
    | none => exact absurd e hp
    | some s => rfl
  have hb : isBor (encS (planOn (takesOf h.takes (c, t)) day)) = false := by cases planOn (takesOf h.takes (c, t)) day <;> rfl
  unfold phi_House_use s_House_use
  simp [List.replicate, H.o, need_day_ok H h1 h2, need_names_ok _ (isBor_ref k) hc ht, is_number_ok, hd.1, e2, plan_on_ok H hs hok, hpl, hb, hu.1, hu.2]
  refine ⟨by simp [most_eq], by simp [H.me], ?_⟩
  have hd1 := hd.2.1
  have hd2 := hd.2.2
  refine Wp.of (meas_init_ok (cM := cM) (M := M ++ [.ins cM []]) M.length c t day units d (by simp)) ?_
  have hset : (M ++ [Cell.ins cM []]).set M.length (Meas.cell cM ⟨c, t, day, units, d, none⟩) = M ++ [Meas.cell cM ⟨c, t, day, units, d, none⟩] := by
    rw [List.set_append_right _ _ (Nat.le_refl _), Nat.sub_self]; rfl
  rw [hset]
  have H1 := H.addM ⟨c, t, day, units, d, none⟩
  have F1 : Fr M ((M ++ [Meas.cell cM ⟨c, t, day, units, d, none⟩]).set L.me (.lst ((L.ms ++ [M.length]).map D.ref))) (L.all k) := ((Fr.refl M _).app _).set mem_me
  simp [(H.app [Meas.cell cM ⟨c, t, day, units, d, none⟩]).me]
  refine ⟨by rw [H.mz, most_eq]; omega, ?_⟩
  have el : List.map D.ref L.ms ++ [D.ref M.length] = (L.ms ++ [M.length]).map D.ref := by simp
  rw [el]
  revert H1 F1
  generalize (M ++ [Meas.cell cM ⟨c, t, day, units, d, none⟩]).set L.me (.lst ((L.ms ++ [M.length]).map D.ref)) = M1
  intro H1 F1
  simp [H1.o, most_eq]
  refine (done_ok H1 (d := d) (row := .tup [.str "use", .int d, .str c, .str t, .int day, .int units]) rfl hl).mono fun r ⟨r1, r2, r3⟩ => ?_
  obtain ⟨rd, rm⟩ := r
  simp [r2.o, r2.me]
  refine ⟨by simp [Lay.addM, H.mz], r2, F1.trans r3 fun x hx hlt => ?_⟩
  rw [addM_all] at hx
  rw [all_split]
  simp only [List.mem_append, List.mem_cons] at hx ⊢
  rcases hx with hx | rfl | hx
  · exact .inl hx
  · omega
  · exact .inr hx
end
end Sim
set_option Elab.async false
set_option linter.all false
set_option maxRecDepth 100000
set_option maxHeartbeats 4000000
/-! What a month comes to. -/
namespace Sim
open PySem L2
abbrev Stretch := Str × Int × Int
def encSt (s : Stretch) : D := .tup [.str s.1, .int s.2.1, .int s.2.2]
def endAt (l : List Stretch) (e : Int) : List Stretch := match l.getLast? with
  | none => []
  | some x => l.dropLast ++ [(x.1, x.2.1, e)]
def addSt (first day : Int) (found : List Stretch) (x : Int × Str) : List Stretch :=
  if x.1 < first + 30 ∧ x.1 ≤ day then endAt found (max first x.1) ++ [(x.2, max first x.1, first + 30)] else found
def stretches (tk : List (Int × Str)) (first day : Int) : List Stretch := (tk.foldl (addSt first day) []).filter fun s => decide (s.2.1 < s.2.2)
theorem addSt_len (first day : Int) (found : List Stretch) (x : Int × Str) : (addSt first day found x).length ≤ found.length + 1 := by
  unfold addSt endAt
  split
  · split
    · simp
    · rename_i h
      rcases List.eq_nil_or_concat found with rfl | ⟨F, y, rfl⟩
      · simp at h
      · simp
  · omega
theorem addSt_names (first day : Int) (found : List Stretch) (x : Int × Str) (h : ∀ s ∈ found, PyData.strOk s.1 = true) (hx : PyData.strOk x.2 = true) : ∀ s ∈ addSt first day found x, PyData.strOk s.1 = true := by
  unfold addSt endAt
  split
  · intro s hs
    rcases List.eq_nil_or_concat found with rfl | ⟨F, y, rfl⟩
    · simp at hs; subst hs; exact hx
    · simp at hs
      rcases hs with hs | rfl | rfl
      · exact h s (by simp [hs])
      · exact h y (by simp)
      · exact hx
  · exact h
section
variable {cH cM : Addr} {M : Ms} {k : Nat} {L : Lay} {h : Hs}
theorem stretches_ok (H : HAt cH cM M k L h) {c t : Str} {month day : Int} (hm : 0 ≤ month ∧ month ≤ 20) (hs : (takesOf h.takes (c, t)).length < 40000) (hok : ∀ x ∈ takesOf h.takes (c, t), PyData.strOk x.2 = true) :
    phi_House_stretches cH [.ref k, .str c, .str t, .int month, .int day] M = some (.lst ((stretches (takesOf h.takes (c, t)) (month * 30) day).map encSt), M) := by
  refine Wp.eq ?_
  unfold phi_House_stretches s_House_stretches
  simp [List.replicate, H.o, H.ta, getD_takesP, lim_eq]
  refine ⟨by simp [most_eq], ?_⟩
  refine for_map (f := encTk) (fun l ro M' => M' = M ∧ ∃ found x7 x8, ro = [some (.val (.ref k)), some (.val (.str c)), some (.val (.str t)), some (.val (.int month)), some (.val (.int day)), some (.val (.int (month * 30))), some (.own (found.map encSt)), x7, x8, none] ∧
    l.foldl (addSt (month * 30) day) found = (takesOf h.takes (c, t)).foldl (addSt (month * 30) day) [] ∧ found.length + l.length ≤ 40000 ∧ (∀ s ∈ found, PyData.strOk s.1 = true) ∧ ∀ x ∈ l, PyData.strOk x.2 = true) ?_ ?_ ?_ ?_
  · exact ⟨rfl, [], none, none, rfl, rfl, by simp; omega, by simp, hok⟩
  · rintro l ro M' ⟨rfl, found, x7, x8, rfl, _⟩; simp
  · rintro ⟨b, n⟩ l ro M' ⟨rfl, found, x7, x8, rfl, e, hl, hf, hx⟩
    rw [List.foldl_cons] at e
    rw [List.length_cons] at hl
    have hlen := addSt_len (month * 30) day found (b, n)
    have hnm := addSt_names (month * 30) day found (b, n) hf (hx (b, n) List.mem_cons_self)
    have fin : ∀ X : List D, X = (addSt (month * 30) day found (b, n)).map encSt → ∃ found' x7 x8, [some (Sl.val (.ref k)), some (.val (.str c)), some (.val (.str t)), some (.val (.int month)), some (.val (.int day)), some (.val (.int (month * 30))), some (.own X), some (.val (.int b)), some (.val (.str n)), none] = [some (.val (.ref k)), some (.val (.str c)), some (.val (.str t)), some (.val (.int month)), some (.val (.int day)), some (.val (.int (month * 30))), some (.own (found'.map encSt)), x7, x8, none] ∧
        l.foldl (addSt (month * 30) day) found' = (takesOf h.takes (c, t)).foldl (addSt (month * 30) day) [] ∧ found'.length + l.length ≤ 40000 ∧ (∀ s ∈ found', PyData.strOk s.1 = true) ∧ ∀ x ∈ l, PyData.strOk x.2 = true := by
      rintro X rfl
      exact ⟨_, _, _, rfl, e, by omega, hnm, fun x hx' => hx x (List.mem_cons_of_mem _ hx')⟩
    have hpl : plainL 60 (found.map encSt) = true := plainL_map (n := 59) fun s hs => by simp [encSt, plainD, plainL, hf s hs]
    revert fin
    unfold addSt
    by_cases hc : b < month * 30 + 30 ∧ b ≤ day
    · rw [if_pos hc]
      rcases List.eq_nil_or_concat found with rfl | ⟨F, y, rfl⟩
      · intro fin
        simp [encTk, hc.1, hc.2]
        refine (w_neO (by rfl) hpl (by simp [plainL])).mpr ?_
        simp [most_eq]
        have := fin [encSt (n, max (month * 30) b, month * 30 + 30)] (by simp [endAt])
        simpa [encSt] using this
      · intro fin
        rw [List.concat_eq_append] at *
        have hpl' : plainL 60 (F.map encSt ++ [encSt y]) = true := by simpa using hpl
        simp [encTk, hc.1, hc.2]
        refine (w_neO (by rfl) hpl' (by simp [plainL])).mpr ?_
        simp [encSt, most_eq]
        have hz : F.length + 1 + (l.length + 1) ≤ 40000 := by simpa using hl
        have := fin (F.map encSt ++ [encSt (y.1, y.2.1, max (month * 30) b)] ++ [encSt (n, max (month * 30) b, month * 30 + 30)]) (by simp [endAt])
        simp [encSt] at this
        exact ⟨by omega, this⟩
    · rw [if_neg hc]
      intro fin
      have := fin _ rfl
      by_cases h1 : b < month * 30 + 30
      · have h2 : ¬ b ≤ day := fun q => hc ⟨h1, q⟩
        simp [encTk, h1, h2]
        simpa using this
      · simp [encTk, h1]
        simpa using this
  · rintro ro M' ⟨rfl, found, x7, x8, rfl, e, hl, hf, _⟩
    simp at e
    simp
    refine Wp.of (comp_pure (f := encSt) (fun s => decide (s.2.1 < s.2.2)) encSt (by simp) _ [] (by rw [most_eq]; simp at hl ⊢; omega) fun s _ => ⟨rfl, ?_⟩) ?_
    · by_cases hx : s.2.1 < s.2.2 <;> simp [encSt, hx]
    · simp [stretches, e]
/-! ### measures that count -/
def Meas.flds (m : Meas) : List (Str × D) := [("client", .str m.client), ("thing", .str m.thing), ("day", .int m.day), ("units", .int m.units), ("told_on", .int m.told), ("gone", encO m.gone)]
theorem Meas.cell_eq (m : Meas) (cM : Addr) : m.cell cM = .ins cM m.flds := rfl
@[simp] theorem mf_client (m : Meas) : m.flds.lookup ("client" : Str) = some (D.str m.client) := by rfl
@[simp] theorem mf_thing (m : Meas) : m.flds.lookup ("thing" : Str) = some (D.str m.thing) := by rfl
@[simp] theorem mf_day (m : Meas) : m.flds.lookup ("day" : Str) = some (D.int m.day) := by rfl
@[simp] theorem mf_units (m : Meas) : m.flds.lookup ("units" : Str) = some (D.int m.units) := by rfl
@[simp] theorem mf_told (m : Meas) : m.flds.lookup ("told_on" : Str) = some (D.int m.told) := by rfl
@[simp] theorem mf_gone (m : Meas) : m.flds.lookup ("gone" : Str) = some (encO m.gone) := by rfl
def counts (m : Meas) (day : Int) : Bool := decide (m.told ≤ day) && (m.gone.isNone || decide (day < m.gone.getD 0))
theorem counts_ok (x : D) (hx : isBor x = false) {r : Nat} {m : Meas} {day : Int} (hr : M[r]? = some (m.cell cM)) : phi_House_counts cM [x, .ref r, .int day] M = some (.bl (counts m day), M) := by
  rw [Meas.cell_eq] at hr
  refine Wp.eq ?_
  unfold phi_House_counts s_House_counts counts
  simp [List.replicate, hr]
  by_cases h1 : m.told ≤ day
  · cases hg : m.gone with
    | none => simp [h1]
    | some g =>
      by_cases h2 : day < g <;> simp [h1, h2] <;> omega
  · simp [h1]
def inSt (c t : Str) (b e day : Int) (m : Meas) : Bool := decide (m.client = c ∧ m.thing = t) && (decide (b ≤ m.day ∧ m.day < e) && counts m day)
def numsGo (P : Meas → Bool) : Nat → List Meas → List Nat
  | _, [] => []
  | n, m :: r => (if P m then [n] else []) ++ numsGo P (n + 1) r
theorem numsGo_lt (P : Meas → Bool) : ∀ (l : List Meas) (n : Nat), ∀ x ∈ numsGo P n l, n ≤ x ∧ x < n + l.length
  | [], n, x, h => by simp [numsGo] at h
  | m :: r, n, x, h => by
    unfold numsGo at h
    rw [List.mem_append] at h
    rw [List.length_cons]
    rcases h with h | h
    · split at h
      · simp at h; omega
      · simp at h
    · have := numsGo_lt P r (n + 1) x h; omega
theorem numsGo_len (P : Meas → Bool) : ∀ (l : List Meas) (n : Nat), (numsGo P n l).length ≤ l.length
  | [], n => by simp [numsGo]
  | m :: r, n => by
    have := numsGo_len P r (n + 1)
    unfold numsGo
    rw [List.length_append, List.length_cons]
    split <;> simp <;> omega
def unitsAt (l : List Meas) (n : Nat) : Int := (l[n]?.map Meas.units).getD 0
theorem unitsAt_cons (m : Meas) (l : List Meas) (n : Nat) : unitsAt (m :: l) (n + 1) = unitsAt l n := by unfold unitsAt; simp
theorem numsGo_shift (P : Meas → Bool) : ∀ (l : List Meas) (n : Nat), numsGo P (n + 1) l = (numsGo P n l).map (· + 1)
  | [], n => by simp [numsGo]
  | m :: r, n => by
    unfold numsGo
    rw [numsGo_shift P r (n + 1), List.map_append]
    split <;> simp
theorem units_sum (P : Meas → Bool) : ∀ l : List Meas, ((numsGo P 0 l).map (unitsAt l)).sum = ((l.filter P).map Meas.units).sum
  | [] => by simp [numsGo]
  | m :: r => by
    have ih := units_sum P r
    have e : (numsGo P (0 + 1) r).map (unitsAt (m :: r)) = (numsGo P 0 r).map (unitsAt r) := by
      rw [numsGo_shift, List.map_map]
      refine List.map_congr_left fun n _ => ?_
      exact unitsAt_cons m r n
    unfold numsGo
    rw [List.map_append, List.sum_append, e, ih, List.filter_cons]
    split <;> simp [unitsAt]
/-- the bounds of what one plan holds for -/
structure StOk (first : Int) (s : Stretch) : Prop where
  lo : first ≤ s.2.1
  hi : s.2.2 ≤ first + 30
theorem addSt_ok {first day : Int} {found : List Stretch} {x : Int × Str} (h : ∀ s ∈ found, StOk first s) : ∀ s ∈ addSt first day found x, StOk first s := by
  unfold addSt endAt
  split
  · rename_i hc
    intro s hs
    rcases List.eq_nil_or_concat found with rfl | ⟨F, y, rfl⟩
    · simp at hs; subst hs; exact ⟨by simp; omega, by simp⟩
    · simp at hs
      rcases hs with hs | rfl | rfl
      · exact h s (by simp [hs])
      · exact ⟨(h y (by simp)).lo, by simp; omega⟩
      · exact ⟨by simp; omega, by simp⟩
  · exact h
theorem foldSt_ok {first day : Int} : ∀ (l : List (Int × Str)) (found : List Stretch), (∀ s ∈ found, StOk first s) → ∀ s ∈ l.foldl (addSt first day) found, StOk first s
  | [], found, h => h
  | x :: l, found, h => foldSt_ok l _ (addSt_ok h)
theorem stretches_mem {tk : List (Int × Str)} {first day : Int} : ∀ s ∈ stretches tk first day, StOk first s ∧ s.2.1 < s.2.2 := fun s hs => by
  obtain ⟨h1, h2⟩ := List.mem_filter.mp hs
  exact ⟨foldSt_ok tk [] (by simp) s h1, by simpa using h2⟩
theorem addSt_from {first day : Int} {found : List Stretch} {x : Int × Str} {N : Str → Prop} (h : ∀ s ∈ found, N s.1) (hx : N x.2) : ∀ s ∈ addSt first day found x, N s.1 := by
  unfold addSt endAt
  split
  · intro s hs
    rcases List.eq_nil_or_concat found with rfl | ⟨F, y, rfl⟩
    · simp at hs; subst hs; exact hx
    · simp at hs
      rcases hs with hs | rfl | rfl
      · exact h s (by simp [hs])
      · exact h y (by simp)
      · exact hx
  · exact h
theorem foldSt_from {first day : Int} {N : Str → Prop} : ∀ (l : List (Int × Str)) (found : List Stretch), (∀ s ∈ found, N s.1) → (∀ x ∈ l, N x.2) → ∀ s ∈ l.foldl (addSt first day) found, N s.1
  | [], found, h, _ => h
  | x :: l, found, h, hl => foldSt_from l _ (addSt_from h (hl x List.mem_cons_self)) fun y hy => hl y (List.mem_cons_of_mem _ hy)
theorem stretches_from {tk : List (Int × Str)} {first day : Int} {N : Str → Prop} (h : ∀ x ∈ tk, N x.2) : ∀ s ∈ stretches tk first day, N s.1 := fun s hs =>
  foldSt_from tk [] (by simp) h s (List.mem_filter.mp hs).1
theorem foldSt_len {first day : Int} : ∀ (l : List (Int × Str)) (found : List Stretch), (l.foldl (addSt first day) found).length ≤ found.length + l.length
  | [], found => by simp
  | x :: l, found => by
    have h1 := foldSt_len (first := first) (day := day) l (addSt first day found x)
    have h2 := addSt_len first day found x
    rw [List.foldl_cons, List.length_cons]; omega
theorem stretches_len {tk : List (Int × Str)} {first day : Int} : (stretches tk first day).length ≤ tk.length := by
  unfold stretches
  refine Nat.le_trans (List.length_filter_le _ _) ?_
  have := foldSt_len (first := first) (day := day) tk []
  simpa using this
/-! ### the parts of a month -/
abbrev Part := Stretch × List Nat × List Ln
def encPart (p : Part) : D := .tup [encSt p.1, .lst (p.2.1.map fun (n : Nat) => D.int n), .lst (p.2.2.map Ln.enc)]
def planOf (l : List Plan) (n : Str) : Plan := (l.find? fun p => decide (p.name = n)).getD ⟨n, [], 0, none⟩
def partOf (plans : List Plan) (meas : List Meas) (c t : Str) (day : Int) (s : Stretch) : Part :=
  (s, numsGo (inSt c t s.2.1 s.2.2 day) 0 meas, linesBy (planOf plans s.1) s.2.1 s.2.2 ((meas.filter (inSt c t s.2.1 s.2.2 day)).map Meas.units).sum)
def Hs.tks (h : Hs) (c t : Str) : List (Int × Str) := takesOf h.takes (c, t)
def Hs.parts (h : Hs) (c t : Str) (month day : Int) : List Part := (stretches (h.tks c t) (month * 30) day).map (partOf h.plans h.meas c t day)
/-- what is asked of a house to be read -/
structure Hs.Ok (h : Hs) : Prop where
  plans : ∀ p ∈ h.plans, p.Ok
  tk : ∀ c t, (takesOf h.takes (c, t)).length < 500
  name : ∀ c t, ∀ x ∈ takesOf h.takes (c, t), PyData.strOk x.2 = true ∧ hasPlan h.plans x.2
  meas : h.meas.length < 1000
  mname : ∀ m ∈ h.meas, PyData.strOk m.client = true ∧ PyData.strOk m.thing = true
theorem planOf_some {l : List Plan} {n : Str} (h : hasPlan l n) : l.find? (fun p => decide (p.name = n)) = some (planOf l n) := by
  obtain ⟨p, e⟩ := h
  unfold planOf; rw [e]; rfl
theorem ms_zip (H : HAt cH cM M k L h) : L.ms.map D.ref = (L.ms.zip h.meas).map fun p => D.ref p.1 := by
  have : L.ms = (L.ms.zip h.meas).map (·.1) := by rw [List.map_fst_zip]; rw [H.mz]; exact Nat.le_refl _
  conv => lhs; rw [this]
  rw [List.map_map]; rfl
theorem zip_cell (H : HAt cH cM M k L h) {p : Nat × Meas} (hp : p ∈ L.ms.zip h.meas) : M[p.1]? = some (p.2.cell cM) := by
  obtain ⟨i, hi, e⟩ := List.getElem_of_mem hp
  have e' : (L.ms.zip h.meas)[i]? = some p := by rw [List.getElem?_eq_getElem hi, e]
  rw [List.getElem?_zip_eq_some] at e'
  exact H.mc i p.1 p.2 e'.1 e'.2
theorem zip_meas (H : HAt cH cM M k L h) : (L.ms.zip h.meas).map (·.2) = h.meas := by rw [List.map_snd_zip]; rw [H.mz]; exact Nat.le_refl _
theorem parts_in_ok (H : HAt cH cM M k L h) (O : h.Ok) {c t : Str} {month day : Int} (hc : PyData.strOk c = true) (ht : PyData.strOk t = true) (hm : 0 ≤ month ∧ month ≤ 20) :
    phi_House_parts_in cH cM [.ref k, .str c, .str t, .int month, .int day] M = some (.lst ((h.parts c t month day).map encPart), M) := by
  refine Wp.eq ?_
  unfold phi_House_parts_in s_House_parts_in
  simp [List.replicate, H.o]
  refine Wp.of (stretches_ok H hm (Nat.lt_trans (O.tk c t) (by decide)) fun x hx => (O.name c t x hx).1) ?_
  simp
  refine for_map (f := encSt) (fun l ro M' => M' = M ∧ ∃ found x6 x7 x8 x9 x10 x11 x12, ro = [some (.val (.ref k)), some (.val (.str c)), some (.val (.str t)), some (.val (.int month)), some (.val (.int day)), some (.own (found.map encPart)), x6, x7, x8, x9, x10, x11, x12] ∧
    found ++ l.map (partOf h.plans h.meas c t day) = h.parts c t month day ∧ found.length + l.length ≤ 1000 ∧ ∀ s ∈ l, (StOk (month * 30) s ∧ s.2.1 < s.2.2) ∧ PyData.strOk s.1 = true ∧ hasPlan h.plans s.1) ?_ ?_ ?_ ?_
  · refine ⟨rfl, [], none, none, none, none, none, none, none, rfl, rfl, ?_, fun s hs => ⟨stretches_mem s hs, stretches_from (N := fun n => PyData.strOk n = true ∧ hasPlan h.plans n) (O.name c t) s hs⟩⟩
    have := stretches_len (tk := takesOf h.takes (c, t)) (first := month * 30) (day := day)
    have := O.tk c t
    simp; omega
  · rintro l ro M' ⟨rfl, found, x6, x7, x8, x9, x10, x11, x12, rfl, _⟩; simp
  · rintro ⟨n, b, e⟩ l ro M' ⟨rfl, found, x6, x7, x8, x9, x10, x11, x12, rfl, he, hl, hs⟩
    simp [encSt, H.o, H.me]
    rw [ms_zip H]
    refine for_enum (f := fun p : Nat × Meas => D.ref p.1) (fun i r ro M2 => M2 = M' ∧ ∃ acc y10 y11, ro = [some (.val (.ref k)), some (.val (.str c)), some (.val (.str t)), some (.val (.int month)), some (.val (.int day)), some (.own (found.map encPart)), some (.val (.str n)), some (.val (.int b)), some (.val (.int e)), some (.own (acc.map fun (n : Nat) => D.int n)), y10, y11, x12] ∧
      acc ++ numsGo (inSt c t b e day) i (r.map (·.2)) = numsGo (inSt c t b e day) 0 h.meas ∧ acc.length + r.length ≤ 1000 ∧ ∀ p ∈ r, p ∈ L.ms.zip h.meas) ?_ ?_ ?_ ?_
    · refine ⟨rfl, [], x10, x11, rfl, by rw [zip_meas H]; rfl, ?_, fun p hp => hp⟩
      have := O.meas
      rw [List.length_zip, H.mz]; simp; omega
    · rintro i r ro M2 ⟨rfl, acc, y10, y11, rfl, _⟩
      simp [H.me]
      rw [ms_zip H]
    · rintro i ⟨q, m⟩ r ro M2 ⟨rfl, acc, y10, y11, rfl, ha, hal, hz⟩
      have hq : M2[q]? = some (m.cell cM) := zip_cell H (hz (q, m) List.mem_cons_self)
      have hmm : m ∈ h.meas := by rw [← zip_meas H]; exact List.mem_map.mpr ⟨(q, m), hz _ List.mem_cons_self, rfl⟩
      have hmn := O.mname m hmm
      have hq' := hq
      rw [Meas.cell_eq] at hq'
      rw [List.map_cons] at ha
      rw [List.length_cons] at hal
      simp [hq', most_eq]
      refine (w_eqP (by simp [plainD, plainL, hmn.1, hmn.2]) (by simp [plainD, plainL, hc, ht])).mpr ?_
      have hz' : ∀ p ∈ r, p ∈ L.ms.zip h.meas := fun p hp => hz p (List.mem_cons_of_mem _ hp)
      have key : ∃ acc' : List Nat, (if inSt c t b e day m then acc.map (fun (n : Nat) => D.int n) ++ [D.int i] else acc.map fun (n : Nat) => D.int n) = acc'.map (fun (n : Nat) => D.int n) ∧ acc' ++ numsGo (inSt c t b e day) (i + 1) (r.map (·.2)) = numsGo (inSt c t b e day) 0 h.meas ∧ acc'.length + r.length ≤ 1000 := by
        rw [numsGo] at ha
        cases hP : inSt c t b e day m
        · rw [hP] at ha; exact ⟨acc, by simp, by simpa using ha, by omega⟩
        · rw [hP] at ha; exact ⟨acc ++ [i], by simp, by simpa using ha, by simp; omega⟩
      obtain ⟨acc', k1, k2, k3⟩ := key
      have fin : ∃ acc y10 y11, [some (Sl.val (.ref k)), some (.val (.str c)), some (.val (.str t)), some (.val (.int month)), some (.val (.int day)), some (.own (found.map encPart)), some (.val (.str n)), some (.val (.int b)), some (.val (.int e)), some (.own (acc'.map fun (n : Nat) => D.int n)), some (.val (.int i)), some (.val (.ref q)), x12] = [some (Sl.val (.ref k)), some (.val (.str c)), some (.val (.str t)), some (.val (.int month)), some (.val (.int day)), some (.own (found.map encPart)), some (.val (.str n)), some (.val (.int b)), some (.val (.int e)), some (.own (acc.map fun (n : Nat) => D.int n)), y10, y11, x12] ∧
          acc ++ numsGo (inSt c t b e day) (i + 1) (r.map (·.2)) = numsGo (inSt c t b e day) 0 h.meas ∧ acc.length + r.length ≤ 1000 ∧ ∀ p ∈ r, p ∈ L.ms.zip h.meas := ⟨acc', _, _, rfl, k2, k3, hz'⟩
      rw [← k1] at fin
      revert fin
      unfold inSt
      have hal' : acc.length < 100000 := by omega
      by_cases h1 : m.client = c ∧ m.thing = t
      · by_cases h2 : b ≤ m.day
        · by_cases h3 : m.day < e
          · cases h4 : counts m day <;> (intro fin; simp [h1.1, h1.2, hq', h2, h3, H.o, counts_ok (.ref k) rfl hq, h4, most_eq, hal'] at fin ⊢; exact fin)
          · intro fin; simp [h1.1, h1.2, hq', h2, h3] at fin ⊢; exact fin
        · intro fin; simp [h1.1, h1.2, hq', h2] at fin ⊢; exact fin
      · intro fin; simp [h1] at fin ⊢; exact fin
    · rintro i ro M2 ⟨rfl, acc, y10, y11, rfl, ha, hal, hz⟩
      simp [numsGo] at ha
      have hnl : acc.length ≤ 1000 := by simpa using hal
      simp
      refine Wp.of (comp_all (f := fun (n : Nat) => D.int n) (fun n => .int (unitsAt h.meas n)) (by simp) _ [] (by rw [most_eq]; simp; omega) fun n hn => ⟨rfl, ?_⟩) ?_
      · rw [ha] at hn
        have hlt := (numsGo_lt _ _ _ n hn).2
        have hlt' : n < h.meas.length := by omega
        have hlt2 : n < L.ms.length := by rw [H.mz]; exact hlt'
        have e1 := H.mc n L.ms[n] h.meas[n] (List.getElem?_eq_getElem hlt2) (List.getElem?_eq_getElem hlt')
        rw [Meas.cell_eq] at e1
        simp [H.o, H.me, atI_nat, List.getElem?_eq_getElem hlt2, e1, unitsAt, List.getElem?_eq_getElem hlt']
      obtain ⟨⟨hst, hbe⟩, hn1, hn2⟩ := hs (n, b, e) List.mem_cons_self
      have hpf := planOf_some hn2
      have hpm : planOf h.plans n ∈ h.plans := List.mem_of_find?_eq_some hpf
      have hlo := hst.lo
      have hhi := hst.hi
      simp at hlo hhi hbe
      have hf : first30 b = month * 30 := by unfold first30; omega
      simp [intsD_mapF, H.o, H.pl, getD_plans, hpf, most_eq]
      refine ⟨rfl, ?_⟩
      refine Wp.of (lines_by_ok (planOf h.plans n) b e _ _ (O.plans _ hpm) (by omega) (by rw [hf]; omega)) ?_
      rw [List.length_cons] at hl
      have hfin : List.map encPart found ++ [D.tup [D.tup [.str n, .int b, .int e], .lst (acc.map fun (n : Nat) => D.int n), .lst ((linesBy (planOf h.plans n) b e (acc.map (unitsAt h.meas)).sum).map Ln.enc)]] = (found ++ [partOf h.plans h.meas c t day (n, b, e)]).map encPart := by
        rw [ha, units_sum]; simp [partOf, encPart, encSt]
      simp [most_eq]
      refine ⟨by omega, found ++ [partOf h.plans h.meas c t day (n, b, e)], hfin, ?_⟩
      exact ⟨by rw [← he]; simp, by simp; omega, fun a a1 b' hb => hs _ (List.mem_cons_of_mem _ hb)⟩
  · rintro ro M' ⟨rfl, found, x6, x7, x8, x9, x10, x11, x12, rfl, he, hl, hs⟩
    simp at he
    simp [he]
theorem linesBy_len {p : Plan} (hp : p.Ok) (b e units : Int) : (linesBy p b e units).length ≤ 102 := by
  have h1 := bySteps_len units p.steps 0 0
  have h2 := hp.steps
  unfold linesBy linesUse capOf
  cases p.cap with
  | none => simp; split <;> simp <;> omega
  | some c => simp only []; split <;> split <;> simp <;> omega
theorem parts_len (h : Hs) (O : h.Ok) (c t : Str) (month day : Int) : (h.parts c t month day).length ≤ 500 := by
  have := stretches_len (tk := takesOf h.takes (c, t)) (first := month * 30) (day := day)
  have := O.tk c t
  unfold Hs.parts Hs.tks
  rw [List.length_map]; omega
theorem flat_len {α β : Type} {g : α → List β} {n : Nat} : ∀ (l : List α), (∀ a ∈ l, (g a).length ≤ n) → (l.flatMap g).length ≤ l.length * n
  | [], _ => by simp
  | a :: l, h => by
    have h1 := flat_len l fun b hb => h b (List.mem_cons_of_mem _ hb)
    have h2 := h a List.mem_cons_self
    rw [List.flatMap_cons, List.length_append, List.length_cons, Nat.succ_mul]; omega
def Hs.lines (h : Hs) (c t : Str) (month day : Int) : List Ln := (h.parts c t month day).flatMap fun p => p.2.2
theorem part_lines {h : Hs} (O : h.Ok) {c t : Str} {month day : Int} {p : Part} (hp : p ∈ h.parts c t month day) : p.2.2.length ≤ 102 := by
  obtain ⟨s, hs, rfl⟩ := List.mem_map.mp hp
  have hn := stretches_from (N := fun n => PyData.strOk n = true ∧ hasPlan h.plans n) (O.name c t) s hs
  exact linesBy_len (O.plans _ (List.mem_of_find?_eq_some (planOf_some hn.2))) _ _ _
theorem lines_in_ok (H : HAt cH cM M k L h) (O : h.Ok) {c t : Str} {month day : Int} (hc : PyData.strOk c = true) (ht : PyData.strOk t = true) (hm : 0 ≤ month ∧ month ≤ 20) :
    phi_House_lines_in cH cM [.ref k, .str c, .str t, .int month, .int day] M = some (.lst ((h.lines c t month day).map Ln.enc), M) := by
  have hpl := parts_len h O c t month day
  have hln : ∀ p ∈ h.parts c t month day, (p.2.2.map Ln.enc).length ≤ 102 := fun p hp => by rw [List.length_map]; exact part_lines O hp
  have hfl := flat_len _ hln
  refine Wp.eq ?_
  unfold phi_House_lines_in s_House_lines_in
  simp [List.replicate, H.o]
  refine Wp.of (parts_in_ok H O hc ht hm) ?_
  simp
  refine Wp.of (comp2_pure (f := encPart) (fun p => p.2.2.map Ln.enc) (by simp) _ [] (fun p hp acc hacc => ?_) (by rw [most_eq]; simp at hfl ⊢; omega)) ?_
  · obtain ⟨⟨n, b, e⟩, ns, ls⟩ := p
    simp [encPart, encSt]
    rw [List.length_map] at hacc
    refine Wp.of (comp_all (f := Ln.enc) Ln.enc (by simp) ls acc hacc fun x _ => ⟨by cases x <;> rfl, ?_⟩) ?_
    · have hb : isBor x.enc = false := by cases x <;> rfl
      simp [hb]
    · simp
  · simp [Hs.lines, List.map_flatMap]
/-- what a client's thing comes to -/
def Hs.charge (h : Hs) (c t : Str) (month day : Int) : Int := amts (h.lines c t month day)
theorem charge_in_ok (H : HAt cH cM M k L h) (O : h.Ok) {c t : Str} {month day : Int} (hc : PyData.strOk c = true) (ht : PyData.strOk t = true) (hm : 0 ≤ month ∧ month ≤ 20) :
    phi_House_charge_in cH cM [.ref k, .str c, .str t, .int month, .int day] M = some (.int (h.charge c t month day), M) := by
  have hpl := parts_len h O c t month day
  have hfl := flat_len (g := fun p : Part => p.2.2) (n := 102) (h.parts c t month day) fun p hp => part_lines O hp
  have hll : (h.lines c t month day).length ≤ 51000 := by unfold Hs.lines; omega
  refine Wp.eq ?_
  unfold phi_House_charge_in s_House_charge_in
  simp [List.replicate, H.o]
  refine Wp.of (lines_in_ok H O hc ht hm) ?_
  simp
  refine Wp.of (comp_all (f := Ln.enc) (fun x => .int x.amt) (by simp) _ [] (by simp [most_eq]; omega) fun x _ => ⟨rfl, by cases x <;> simp [Ln.enc, Ln.amt]⟩) ?_
  simp [intsD_mapF, Hs.charge, amts]
theorem charge_ok (H : HAt cH cM M k L h) (O : h.Ok) {c t : Str} {month : Int} (hc : PyData.strOk c = true) (ht : PyData.strOk t = true) (hm : 0 ≤ month ∧ month ≤ 11) (hp : h.takes.find? (fun x => decide (x.1 = (c, t))) ≠ none) :
    phi_House_charge cH cM [.ref k, .str c, .str t, .int month] M = some (.int (h.charge c t month h.today), M) := by
  obtain ⟨x, hx⟩ := Option.ne_none_iff_exists'.mp hp
  have hg := getD_takes (c, t) h.takes
  rw [hx] at hg
  simp at hg
  have hn : phi_House_need_pair cH [.ref k, .str c, .str t] M = some (.non, M) := by
    refine Wp.eq ?_
    unfold phi_House_need_pair s_House_need_pair
    simp [List.replicate, H.o, H.ta, hg, most_eq]
  refine Wp.eq ?_
  unfold phi_House_charge s_House_charge
  simp [List.replicate, H.o, hn, is_number_ok, hm.1]
  refine ⟨fun n => by omega, fun _ => ?_⟩
  refine Wp.of (charge_in_ok H O hc ht (by omega)) ?_
  simp
end
end Sim
set_option Elab.async false
set_option linter.all false
set_option maxRecDepth 100000
set_option maxHeartbeats 4000000
/-! A new house. -/
namespace Sim
open PySem L2
theorem dc_pure {α : Type} {f : α → D} {src : Src} {ds all : List D} {tg : T} {test key val : Ev} {vs : List Nat} (ky : α → Key) (e : α → D) {ro : Ro} {M : Ms} (hs : src ro M ds = some all) :
    ∀ (l : List α) (acc : List (Key × D)), acc.length + l.length ≤ most → (l.map ky).Nodup → (∀ x ∈ acc, ∀ a ∈ l, x.1 ≠ ky a) → (∀ a ∈ l, isBor (e a) = false ∧ Wp (asgT tg (f a) ro) (fun r1 => Wp (test r1 M) (fun y => y.1 = .bl true ∧ y.2.2 = M ∧
      Wp (key y.2.1 M) (fun u => keyK u.1 = some (ky a) ∧ u.2.2 = M ∧ Wp (val u.2.1 M) (fun z => z.1 = e a ∧ z.2.2 = M ∧ wipeR z.2.1 vs = ro) .mk) .mk) .mk) .mk) →
    dcGo src ds all tg test key val vs (l.map f) acc ro M = some (acc ++ l.map (fun a => (ky a, e a)), ro, M)
  | [], acc, _, _, _, _ => by
    show dcGo src ds all tg test key val vs [] acc ro M = _
    unfold dcGo; rw [if_pos hs]; simp
  | a :: l, acc, hl, hnd, hac, h => by
    rw [List.length_cons] at hl
    rw [List.map_cons, List.nodup_cons] at hnd
    obtain ⟨hb, r1, e1, ⟨yd, yr, ym⟩, e2, q1, q2, ⟨ud, ur, um⟩, e3, u1, u2, ⟨zd, zr, zm⟩, e4, z1, z2, z3⟩ := h a List.mem_cons_self
    have q1' : yd = .bl true := q1
    have q2' : ym = M := q2
    have u2' : um = M := u2
    have z2' : zm = M := z2
    have z1' : zd = e a := z1
    have z3' : wipeR zr vs = ro := z3
    have u1' : keyK ud = some (ky a) := u1
    show dcGo src ds all tg test key val vs (f a :: l.map f) acc ro M = _
    unfold dcGo
    rw [if_pos hs, e1, Option.bind_some, e2, Option.bind_some, q1', q2']
    have e3' : key yr M = some (ud, ur, um) := e3
    have e4' : val ur M = some (zd, zr, zm) := e4
    show ((key yr M).bind fun y => (val y.2.1 y.2.2).bind fun z => (keyK y.1).bind fun k => if isBor z.1 || decide (most < acc.length) then none else dcGo src ds all tg test key val vs (l.map f) (setD acc k z.1) (wipeR z.2.1 vs) z.2.2) = _
    rw [e3', Option.bind_some]
    show ((val ur um).bind fun z => (keyK ud).bind fun k => if isBor z.1 || decide (most < acc.length) then none else dcGo src ds all tg test key val vs (l.map f) (setD acc k z.1) (wipeR z.2.1 vs) z.2.2) = _
    rw [u2', e4', Option.bind_some, u1', Option.bind_some]
    show (if isBor zd || decide (most < acc.length) then none else dcGo src ds all tg test key val vs (l.map f) (setD acc (ky a) zd) (wipeR zr vs) zm) = _
    rw [z1', z2', z3', hb, if_neg (by simp; omega), setD_new _ _ _ fun x hx => hac x hx a List.mem_cons_self]
    rw [dc_pure ky e hs l (acc ++ [(ky a, e a)]) (by rw [List.length_append, List.length_singleton]; omega) hnd.2 ?_ fun b hb => h b (List.mem_cons_of_mem _ hb)]
    · simp
    · intro x hx b hb
      rw [List.mem_append] at hx
      rcases hx with hx | hx
      · exact hac x hx b (List.mem_cons_of_mem _ hb)
      · simp at hx
        subst hx
        intro e'
        exact hnd.1 (List.mem_map.mpr ⟨b, hb, e'.symm⟩)
section
variable {cH cM : Addr} {M : Ms}
def newHs (plans : List Plan) (grace : Int) : Hs := ⟨plans, grace, 0, [], [], [], [], [], 0, [], 0⟩
def newLay (k : Nat) : Lay := ⟨k + 2, k + 3, k + 4, k + 5, k + 6, k + 7, k + 8, [], [], []⟩
theorem init_ok (plans : List Plan) (grace : Int) (h1 : 1 ≤ plans.length) (h8 : plans.length ≤ 8) (hg : ∀ p ∈ plans, p.Good) (hd : (plans.map (·.name)).Nodup) (hgr : 0 ≤ grace ∧ grace ≤ 29) :
    Wp (phi_House_init cH [.ref M.length, .tup (plans.map Plan.enc), .int grace] (M ++ [.ins cH []])) (fun r => r.1 = .non ∧ HAt cH cM r.2 M.length (newLay M.length) (newHs plans grace) ∧ ∃ X, r.2 = M ++ X) .mk := by
  obtain ⟨c, hc⟩ := need_plans_ok plans (M ++ [.ins cH []]) h1 h8 hg hd
  unfold phi_House_init s_House_init
  simp [List.replicate, hc, is_number_ok, hgr.1, hgr.2]
  refine Wp.of (dc_pure (f := Plan.enc) (fun p => .inr p.name) Plan.enc (by simp) plans [] (by rw [most_eq]; simp; omega) ?_ (by simp) fun p _ => ⟨rfl, ?_⟩) ?_
  · have : plans.map (fun p => (Sum.inr p.name : Key)) = (plans.map (·.name)).map Sum.inr := by rw [List.map_map]; rfl
    rw [this]
    have key : ∀ l : List Str, l.Nodup → (l.map (Sum.inr : Str → Key)).Nodup := fun l => by
      induction l with
      | nil => simp
      | cons a l ih =>
        intro h
        rw [List.nodup_cons] at h
        rw [List.map_cons, List.nodup_cons]
        refine ⟨fun hm => ?_, ih h.2⟩
        obtain ⟨b, hb, e⟩ := List.mem_map.mp hm
        injection e with e
        exact h.1 (e ▸ hb)
    exact key _ hd
  · have hb : isBor p.enc = false := rfl
    simp [Plan.enc]
  simp
  refine ⟨(by decide : 1 < 999), (by decide : 2 < 999), (by decide : 3 < 999), (by decide : 4 < 999), (by decide : 5 < 999), (by decide : 6 < 999), (by decide : 7 < 999), (by decide : 8 < 999), (by decide : 9 < 999), (by decide : 10 < 999), ?_⟩
  show HAt cH cM (M ++ [.ins cH ((newHs plans grace).flds (newLay M.length)), c, .dK (plans.map encPl), .dT [], .lst [], .lst [], .lst [], .lst [], .lst []]) M.length (newLay M.length) (newHs plans grace)
  refine ⟨?_, ?_, ?_, ?_, ?_, rfl, ?_, ?_, rfl, ?_, ?_, rfl, ?_, ?_, ?_⟩
  · simp [Lay.all, Lay.own, newLay]
  · simp
  · simp [newLay, newHs]
  · simp [newLay, newHs]
  · simp [newLay]
  · intro i r m e1; simp [newLay] at e1
  · simp [newLay]
  · intro i r m e1; simp [newLay] at e1
  · simp [newLay, newHs]
  · intro i r m e1; simp [newLay] at e1
  · simp [newLay, newHs]
  · simp [newLay, newHs]
end
end Sim
set_option Elab.async false
set_option linter.all false
set_option maxRecDepth 100000
set_option maxHeartbeats 4000000
/-! The laws' own draws. -/
namespace Sim
open PySem L2
/-- a row to draw from -/
def RowC (c : Cell) : Prop := ∃ cell a b d, c = .lst [.scr cell, .int a, .int b, .int d] ∧ 0 ≤ a
theorem taken_ok {M : Ms} {j : Nat} {c : Cell} {m : Int} (hj : M[j]? = some c) (hc : RowC c) (hm : 0 < m) (hm2 : m < 1073741824) :
    Wp (phi_law_taken [.ref j, .int m] M) (fun r => ∃ x c', r = (.int x, M.set j c') ∧ (0 ≤ x ∧ x < m) ∧ RowC c') .mk := by
  obtain ⟨cell, a, b, d, rfl, ha⟩ := hc
  have hs : ∀ c, (M.set j c)[j]? = some c := fun c => set_at hj
  unfold phi_law_taken s_law_taken
  simp [List.replicate, hj, hs, lim_eq, List.set_set]
  have hmod : ∀ x : Int, 0 ≤ x % m ∧ x % m < m := fun x => ⟨Int.emod_nonneg _ (by omega), Int.emod_lt_of_pos _ hm⟩
  refine ⟨fun h1 => ⟨hm, ⟨hm, hm2⟩, _, _, ⟨rfl, rfl⟩, hmod _, _, _, _, _, rfl, ha⟩, fun h1 => ⟨fun h2 => ⟨hm, _, _, ⟨rfl, rfl⟩, hmod _, _, _, _, _, rfl, by omega⟩, fun h2 => ?_⟩⟩
  have hlt : a.toNat < cell.length := by omega
  have e1 : atI (List.map D.int cell) a = some (.int cell[a.toNat]) := by
    rw [atI_get _ _ ha, List.getElem?_map, List.getElem?_eq_getElem hlt]; rfl
  simp [e1, hs, lim_eq, List.set_set]
  refine ⟨fun h3 => ⟨⟨hm, hm2⟩, hm, _, _, ⟨rfl, rfl⟩, hmod _, _, _, _, _, rfl, by omega⟩, fun h3 => ⟨hm, _, _, ⟨rfl, rfl⟩, hmod _, _, _, _, _, rfl, by omega⟩⟩
/-! ### drawn plans -/
def rise : Int → List Step → Int → Prop
  | a, [], b => a = b
  | a, s :: r, b => ∃ u, s.1 = some u ∧ a + 1 ≤ u ∧ rise u r b
theorem rise_add : ∀ (l : List Step) (a b u p : Int), rise a l b → b + 1 ≤ u → rise a (l ++ [(some u, p)]) u
  | [], a, b, u, p, h, hu => by
    have h' : a = b := h
    exact ⟨u, rfl, by omega, rfl⟩
  | s :: l, a, b, u, p, ⟨w, e, hw, h⟩, hu => ⟨w, e, hw, rise_add l w b u p h hu⟩
theorem rise_le : ∀ (l : List Step) (a b : Int), rise a l b → a ≤ b
  | [], a, b, h => by have h' : a = b := h; omega
  | s :: l, a, b, ⟨w, e, hw, h⟩ => by have := rise_le l w b h; omega
theorem rise_ok : ∀ (l : List Step) (a b p : Int), rise a l b → b ≤ 9999 → 0 ≤ p ∧ p ≤ 999 → (∀ s ∈ l, 0 ≤ s.2 ∧ s.2 ≤ 999) → stepsOk a (l ++ [(none, p)])
  | [], a, b, p, h, hb, hp, _ => ⟨rfl, hp⟩
  | s :: l, a, b, p, ⟨w, e, hw, h⟩, hb, hp, hs => by
    have h1 := rise_ok l w b p h hb hp fun x hx => hs x (List.mem_cons_of_mem _ hx)
    have h2 := rise_le l w b h
    have h3 := hs s List.mem_cons_self
    show stepsOk a (s :: (l ++ [(none, p)]))
    cases l with
    | nil => exact ⟨⟨w, e, hw, by omega, h1⟩, h3⟩
    | cons x l => exact ⟨⟨w, e, hw, by omega, h1⟩, h3⟩
/-- the n-th plan's name -/
def pname (n : Nat) (x : Int) : Str := strRep1 ⟨#[112 + n]⟩ (1 + x)
theorem pqrs_at : ∀ n : Nat, n < 4 → atI (Str.ofString "pqrs").cps.toList (n : Int) = some (112 + n) := fun n h => by
  have : n = 0 ∨ n = 1 ∨ n = 2 ∨ n = 3 := by omega
  rcases this with rfl | rfl | rfl | rfl <;> decide +kernel
theorem pname_ok : ∀ n : Nat, n < 4 → ∀ x : Int, 0 ≤ x ∧ x < 2 → isName (pname n x) = true := fun n h x hx => by
  have h1 : n = 0 ∨ n = 1 ∨ n = 2 ∨ n = 3 := by omega
  have h2 : x = 0 ∨ x = 1 := by omega
  rcases h1 with rfl | rfl | rfl | rfl <;> rcases h2 with rfl | rfl <;> decide +kernel
theorem pname_inj : ∀ n m : Nat, n < 4 → m < 4 → ∀ x y : Int, (0 ≤ x ∧ x < 2) → (0 ≤ y ∧ y < 2) → pname n x = pname m y → n = m := fun n m h h' x y hx hy => by
  have h1 : n = 0 ∨ n = 1 ∨ n = 2 ∨ n = 3 := by omega
  have h2 : m = 0 ∨ m = 1 ∨ m = 2 ∨ m = 3 := by omega
  have h3 : x = 0 ∨ x = 1 := by omega
  have h4 : y = 0 ∨ y = 1 := by omega
  rcases h1 with rfl | rfl | rfl | rfl <;> rcases h2 with rfl | rfl | rfl | rfl <;> rcases h3 with rfl | rfl <;> rcases h4 with rfl | rfl <;> decide +kernel
theorem w_mulS {ro : Ro} {M : Ms} {Q : D → Prop} (z : Str) (n : Int) : Wp (opMulS ro M (.str z) (.int n)) Q .mk ↔ ((1 ≤ n ∧ n ≤ 1000 ∧ 1 ≤ z.length ∧ z.length ≤ 1000) ∧ Q (.str (strRep1 z n))) := by
  show Wp (if 1 ≤ n ∧ n ≤ 1000 ∧ 1 ≤ z.length ∧ z.length ≤ 1000 then some (.str (strRep1 z n)) else none) Q .mk ↔ _
  rw [Wp_iteN, Wp_some]
structure Drawn (n : Nat) (p : Plan) : Prop where
  name : ∃ x, (0 ≤ x ∧ x < 2) ∧ p.name = pname n x
  steps : ∃ l b q, p.steps = l ++ [(none, q)] ∧ rise 0 l b ∧ b ≤ 40 * l.length ∧ l.length ≤ 3 ∧ (0 ≤ q ∧ q ≤ 11) ∧ ∀ s ∈ l, 0 ≤ s.2 ∧ s.2 ≤ 11
  fee : 0 ≤ p.fee ∧ p.fee ≤ 240
  cap : ∀ c, p.cap = some c → 0 ≤ c ∧ c < 600
theorem plans_ok {M : Ms} {j : Nat} {c : Cell} (hj : M[j]? = some c) (hc : RowC c) :
    Wp (phi_law_plans [.ref j] M) (fun r => ∃ (ps : List Plan) (c' : Cell), r = (.tup (ps.map Plan.enc), M.set j c') ∧ (1 ≤ ps.length ∧ ps.length ≤ 4) ∧ RowC c' ∧ ∀ (i : Nat) (p : Plan), ps[i]? = some p → Drawn i p) .mk := by
  have hs : ∀ c, (M.set j c)[j]? = some c := fun c => set_at hj
  unfold phi_law_plans s_law_plans
  simp [List.replicate]
  refine (taken_ok hj hc (m := 4) (by omega) (by omega)).mono ?_
  rintro r ⟨x, c1, rfl, hx, hc1⟩
  simp
  refine ⟨by omega, ?_⟩
  refine for_rng (fun n ro M' => ∃ (ps : List Plan) (c' : Cell) (y2 y3 y4 y5 y6 y7 : Option Sl), ro = [some (.val (.ref j)), some (.own (ps.map Plan.enc)), y2, y3, y4, y5, y6, y7] ∧ M' = M.set j c' ∧ RowC c' ∧ ps.length = n ∧ ∀ (i : Nat) (p : Plan), ps[i]? = some p → Drawn i p) ?_ ?_ ?_ ?_
  · exact ⟨[], c1, none, none, none, none, none, none, rfl, rfl, hc1, rfl, by simp⟩
  · rintro n ro M' hn _; simp; omega
  · rintro n ro M' hn ⟨ps, c2, y2, y3, y4, y5, y6, y7, rfl, rfl, hc2, hl, hps⟩
    simp
    refine (taken_ok (hs c2) hc2 (m := 4) (by omega) (by omega)).mono ?_
    rintro r ⟨x2, c3, rfl, hx2, hc3⟩
    simp
    refine ⟨by omega, ?_⟩
    refine for_rng (fun i ro M' => ∃ (l : List Step) (b : Int) (c' : Cell) (z5 : Option Sl), ro = [some (.val (.ref j)), some (.own (ps.map Plan.enc)), some (.val (.int n)), some (.own (l.map encStep)), some (.val (.int b)), z5, y6, y7] ∧ M' = M.set j c' ∧ RowC c' ∧ l.length = i ∧ rise 0 l b ∧ b ≤ 40 * i ∧ ∀ s ∈ l, 0 ≤ s.2 ∧ s.2 ≤ 11) ?_ ?_ ?_ ?_
    · exact ⟨[], 0, c3, y5, rfl, rfl, hc3, rfl, rfl, by omega, by simp⟩
    · rintro i ro M' hi _; simp; omega
    · rintro i ro M' hi ⟨l, b, c4, z5, rfl, rfl, hc4, hll, hr, hb, hlp⟩
      simp
      refine ⟨by simp [most_eq], ?_⟩
      refine (taken_ok (hs c4) hc4 (m := 2) (by omega) (by omega)).mono ?_
      rintro r ⟨t1, c5, rfl, ht1, hc5⟩
      have hw : ∃ w, atI [D.int 5, D.int 40] t1 = some (.int w) ∧ (w = 5 ∨ w = 40) := by
        have : t1 = 0 ∨ t1 = 1 := by omega
        rcases this with rfl | rfl
        · exact ⟨5, by simp, .inl rfl⟩
        · exact ⟨40, by simp, .inr rfl⟩
      obtain ⟨w, ew, hw⟩ := hw
      simp [ew, List.set_set]
      refine (taken_ok (hs c5) hc5 (m := w) (by omega) (by omega)).mono ?_
      rintro r ⟨t2, c6, rfl, ht2, hc6⟩
      simp [List.set_set]
      refine (taken_ok (hs c6) hc6 (m := 12) (by omega) (by omega)).mono ?_
      rintro r ⟨t3, c7, rfl, ht3, hc7⟩
      simp [List.set_set, most_eq]
      refine ⟨by omega, l ++ [(some (b + 1 + t2), t3)], b + 1 + t2, ⟨by simp [encStep], rfl⟩, c7, rfl, hc7, by simp [hll], rise_add l 0 b _ t3 hr (by omega), by omega, ?_⟩
      intro a q h
      rcases List.mem_append.mp h with h | h
      · exact hlp (a, q) h
      · simp at h
        obtain ⟨rfl, rfl⟩ := h
        exact ⟨ht3.1, by omega⟩
    · rintro ro M' ⟨l, b, c4, z5, rfl, rfl, hc4, hll, hr, hb, hlp⟩
      simp
      refine (taken_ok (hs c4) hc4 (m := 12) (by omega) (by omega)).mono ?_
      rintro r ⟨t1, c5, rfl, ht1, hc5⟩
      simp [List.set_set, most_eq]
      refine ⟨by omega, ?_⟩
      refine (taken_ok (hs c5) hc5 (m := 100) (by omega) (by omega)).mono ?_
      rintro r ⟨t2, c6, rfl, ht2, hc6⟩
      simp [List.set_set, lim_eq]
      refine (taken_ok (hs c6) hc6 (m := 9) (by omega) (by omega)).mono ?_
      rintro r ⟨t3, c7, rfl, ht3, hc7⟩
      simp [List.set_set, lim_eq]
      refine (taken_ok (hs c7) hc7 (m := 4) (by omega) (by omega)).mono ?_
      rintro r ⟨t4, c8, rfl, ht4, hc8⟩
      simp [List.set_set, most_eq]
      refine (taken_ok (hs c8) hc8 (m := 4) (by omega) (by omega)).mono ?_
      rintro r ⟨t5, c9, rfl, ht5, hc9⟩
      have hw : ∃ w, atI [D.int 0, D.int t2, D.int (30 * t3), D.int t4] t5 = some (.int w) ∧ 0 ≤ w ∧ w ≤ 240 := by
        have : t5 = 0 ∨ t5 = 1 ∨ t5 = 2 ∨ t5 = 3 := by omega
        rcases this with rfl | rfl | rfl | rfl
        · exact ⟨0, by simp, by omega, by omega⟩
        · exact ⟨t2, by simp, by omega, by omega⟩
        · exact ⟨30 * t3, by simp, by omega, by omega⟩
        · exact ⟨t4, by simp, by omega, by omega⟩
      obtain ⟨fee, ew, hfee⟩ := hw
      simp [ew, List.set_set]
      refine (taken_ok (hs c9) hc9 (m := 60) (by omega) (by omega)).mono ?_
      rintro r ⟨t6, c10, rfl, ht6, hc10⟩
      simp [List.set_set]
      refine (taken_ok (hs c10) hc10 (m := 600) (by omega) (by omega)).mono ?_
      rintro r ⟨t7, c11, rfl, ht7, hc11⟩
      simp [List.set_set, most_eq]
      refine (taken_ok (hs c11) hc11 (m := 4) (by omega) (by omega)).mono ?_
      rintro r ⟨t8, c12, rfl, ht8, hc12⟩
      have hw : ∃ w, atI [D.non, D.non, D.int t6, D.int t7] t8 = some (encO w) ∧ ∀ c, w = some c → 0 ≤ c ∧ c < 600 := by
        have : t8 = 0 ∨ t8 = 1 ∨ t8 = 2 ∨ t8 = 3 := by omega
        rcases this with rfl | rfl | rfl | rfl
        · exact ⟨none, by simp, by simp⟩
        · exact ⟨none, by simp, by simp⟩
        · exact ⟨some t6, by simp, fun c e => by injection e; omega⟩
        · exact ⟨some t7, by simp, fun c e => by injection e; omega⟩
      obtain ⟨cap, ec, hcap⟩ := hw
      simp [ec, List.set_set, pqrs_at n (by omega)]
      refine ⟨by decide +kernel, ?_⟩
      refine (taken_ok (hs c12) hc12 (m := 2) (by omega) (by omega)).mono ?_
      rintro r ⟨t9, c13, rfl, ht9, hc13⟩
      simp [List.set_set, w_mulS, most_eq]
      refine ⟨⟨by omega, by omega, by simp [Str.length], by simp [Str.length]⟩, by omega, ?_⟩
      have hd : Drawn n ⟨pname n t9, l ++ [(none, t1)], fee, cap⟩ := ⟨⟨t9, ht9, rfl⟩, ⟨l, b, t1, rfl, hr, by omega, by omega, ⟨ht1.1, by omega⟩, hlp⟩, hfee, hcap⟩
      refine ⟨ps ++ [⟨pname n t9, l ++ [(none, t1)], fee, cap⟩], by simp [Plan.enc, encStep, pname], c13, rfl, hc13, by simp [hl], fun i p hp => ?_⟩
      by_cases hi : i < ps.length
      · rw [List.getElem?_append_left hi] at hp; exact hps i p hp
      · have hz := (List.getElem?_eq_some_iff.mp hp).1
        rw [List.length_append, List.length_singleton] at hz
        have he : i = n := by omega
        subst he
        rw [List.getElem?_append_right (by omega), hl, Nat.sub_self] at hp
        simp at hp
        subst hp
        exact hd
  · rintro ro M' ⟨ps, c2, y2, y3, y4, y5, y6, y7, rfl, rfl, hc2, hl, hps⟩
    simp
    exact ⟨ps, c2, ⟨rfl, rfl⟩, by omega, hc2, hps⟩
end Sim
set_option Elab.async false
set_option linter.all false
set_option maxRecDepth 100000
set_option maxHeartbeats 4000000
/-! k22: one plan, one month. -/
namespace Sim
open PySem L2
theorem charge_one (h : Hs) {c t n : Str} {b u : Int} {p : Plan} (ht : h.takes = [((c, t), [(b, n)])]) (hm : h.meas = [⟨c, t, 29, u, 29, none⟩]) (hp : planOf h.plans n = p) (hb : 0 ≤ b ∧ b ≤ 29) : h.charge c t 0 29 = amts (linesBy p b 30 u) := by
  have e1 : max 0 b = b := by omega
  have e2 : b < 30 := by omega
  have e3 : b ≤ 29 := by omega
  subst hp
  simp [Hs.charge, Hs.lines, Hs.parts, Hs.tks, ht, hm, takesOf, stretches, addSt, endAt, partOf, numsGo, inSt, counts, e1, e2, e3]
def ann : Str := "ann"
def air : Str := "air"
theorem ann_ok : isName ann = true := by decide +kernel
theorem air_ok : isName air = true := by decide +kernel
theorem ann_s : PyData.strOk ann = true := by decide +kernel
theorem air_s : PyData.strOk air = true := by decide +kernel
/-- the sum of the steps -/
def useSum (units : Int) (a : Int) (l : List Step) : Int := ((bySteps units 0 a l).map fun x => x.2.2.2).sum
def feePart (f b : Int) : Int := if 0 < share f b 30 then share f b 30 else 0
def free (p : Plan) (b u : Int) : Int := useSum u 0 p.steps + feePart p.fee b
def capped (c : Option Int) (w : Int) : Int := match c with
  | none => w
  | some c => min w c
theorem amts_append (a b : List Ln) : amts (a ++ b) = amts a + amts b := by unfold amts; rw [List.map_append, List.sum_append]
theorem amts_by (p : Plan) (b u : Int) (hb : 0 ≤ b ∧ b ≤ 29) : amts (linesBy p b 30 u) = capped p.cap (free p b u) := by
  have h0 : first30 b = 0 := by unfold first30; omega
  have hu : amts (linesUse p b 30 u) = free p b u := by
    unfold linesUse free useSum feePart
    rw [amts_append, h0]
    congr 1
    · unfold amts; rw [List.map_map]; rfl
    · rw [Int.sub_zero, Int.sub_zero]
      split <;> simp [amts, Ln.amt]
  unfold linesBy capOf
  rw [amts_append, hu]
  cases p.cap with
  | none => simp [amts, capped]
  | some c =>
    simp only [capped]
    split <;> simp [amts, Ln.amt] <;> omega
theorem find_take (q : Pair) (v : List (Int × Str)) (q' : Pair) : takesOf [(q, v)] q' = if q = q' then v else [] := by
  unfold takesOf
  by_cases e : q = q'
  · rw [List.find?_cons_of_pos (by simpa using e), if_pos e]; rfl
  · rw [List.find?_cons_of_neg (by simpa using e), if_neg e]; rfl
section
variable {cH cM : Addr}
/-- a house of one thing with one plan, its use told, and what it comes to -/
theorem one_use {M : Ms} {k : Nat} {L : Lay} {h : Hs} {n : Str} {b u : Int} (H : HAt cH cM M k L h) (ht : h.takes = [((ann, air), [(b, n)])]) (hm : h.meas = []) (hpl : hasPlan h.plans n) (hok : ∀ p ∈ h.plans, p.Ok) (hn : PyData.strOk n = true) (hday : h.today ≤ 29) (hr : h.rows.length < 80000) (hb : 0 ≤ b ∧ b ≤ 29) (hu : 0 ≤ u ∧ u ≤ 9999) :
    Wp (phi_House_use cH cM [.ref k, .int 29, .str ann, .str air, .int 29, .int u] M) (fun r => r.1 = .int 0 ∧ Fr M r.2 (L.all k) ∧ ∃ L' h', HAt cH cM r.2 k L' h' ∧ phi_House_charge cH cM [.ref k, .str ann, .str air, .int 0] r.2 = some (.int (amts (linesBy (planOf h.plans n) b 30 u)), r.2)) .mk := by
  have e1 : takesOf h.takes (ann, air) = [(b, n)] := by rw [ht, find_take, if_pos rfl]
  have hpo : planOn (takesOf h.takes (ann, air)) 29 ≠ none := by rw [e1]; simp [planOn, hb.2]
  refine (use_ok H (d := 29) (c := ann) (t := air) (day := 29) (units := u) hday (by omega) ann_ok air_ok (by omega) hu hpo (by omega) (by rw [hm]; simp) (by rw [e1]; simp) (by rw [e1]; simpa using hn)).mono ?_
  rintro ⟨rd, rm⟩ ⟨r1, r2, r3⟩
  have O : (h.use 29 ann air 29 u).Ok := by
    refine ⟨hok, fun c t => ?_, fun c t x hx => ?_, ?_, fun m hmm => ?_⟩
    · show (takesOf h.takes (c, t)).length < 500
      rw [ht, find_take]; split <;> simp
    · have hx' : x ∈ takesOf h.takes (c, t) := hx
      rw [ht, find_take] at hx'
      split at hx'
      · simp at hx'; subst hx'; exact ⟨hn, hpl⟩
      · simp at hx'
    · show (h.meas ++ [_]).length < 1000
      rw [hm]; simp
    · have hm' : m ∈ h.meas ++ [⟨ann, air, 29, u, 29, none⟩] := hmm
      rw [hm] at hm'; simp at hm'; subst hm'
      exact ⟨ann_s, air_s⟩
  have hc := charge_ok r2 O (c := ann) (t := air) (month := 0) ann_s air_s (by omega) (by
    show h.takes.find? _ ≠ none
    rw [ht]; simp)
  have e2 : (h.use 29 ann air 29 u).charge ann air 0 29 = amts (linesBy (planOf h.plans n) b 30 u) := charge_one (h.use 29 ann air 29 u) ht (by show h.meas ++ [_] = _; rw [hm]; rfl) rfl hb
  refine ⟨by rw [hm] at r1; exact r1, r3, _, _, r2, ?_⟩
  rw [hc]
  show some (D.int ((h.use 29 ann air 29 u).charge ann air 0 29), rm) = _
  rw [e2]
theorem law_charge_ok {M : Ms} {p : Plan} {u b : Int} (hg : p.Good) (hok : p.Ok) (hb : 0 ≤ b ∧ b ≤ 29) (hu : 0 ≤ u ∧ u ≤ 9999) :
    Wp (phi_law_charge cH cM [p.enc, .int u, .int b] M) (fun r => r.1 = .int (capped p.cap (free p b u)) ∧ Fr M r.2 []) .mk := by
  have hs := isName_str hg.name
  unfold phi_law_charge s_law_charge
  have hbor : isBor p.enc = false := rfl
  have hpn : isBor (.str p.name) = false := rfl
  simp [List.replicate, hbor, most_eq]
  have hi := init_ok (cH := cH) (cM := cM) (M := M) [p] 0 (by simp) (by simp) (by simpa using hg) (by simp) (by omega)
  simp at hi
  refine hi.mono ?_
  rintro ⟨rd, rm⟩ ⟨r1, H, X, hX⟩
  have r1' : rd = .non := r1
  subst r1'
  simp at H hX
  simp [Plan.enc, H.o]
  have hpl : hasPlan [p] p.name := ⟨p, by simp⟩
  have hpo : planOf [p] p.name = p := by simp [planOf]
  have e0 : takesOf (newHs [p] 0).takes (ann, air) = [] := rfl
  refine (take_ok H (d := b) (c := ann) (t := air) (pl := p.name) hb.1 (by omega) ann_ok air_ok hpl (by simp [newHs]) (by simp [newHs]) (by rw [e0]; decide) (by rw [e0]; simp)).mono ?_
  rintro ⟨rd, m2⟩ ⟨q1, H2, F2⟩
  simp at H2 F2
  simp [H2.o]
  have hall : ∀ x ∈ (newLay M.length).all M.length, M.length ≤ x := by
    intro x hx; simp [newLay, Lay.all, Lay.own] at hx; omega
  have F1 : Fr M rm [] := by rw [hX]; exact (Fr.refl M []).app X
  have F12 : Fr M m2 [] := F1.trans F2 fun x hx hlt => by have := hall x hx; omega
  refine (one_use H2 (n := p.name) (b := b) (u := u) (by show setTk [] (ann, air) (takeRow [] b p.name) = _; simp [setTk, takeRow]) rfl hpl (by simpa [Hs.take, newHs] using hok) hs hb.2 (by simp [newHs, Hs.take]) hb hu).mono ?_
  rintro ⟨rd, m3⟩ ⟨q1, F3, L', h', H3, hch⟩
  simp at H3 hch F3
  simp [H3.o]
  refine Wp.of hch ?_
  simp
  refine ⟨?_, F12.trans F3 fun x hx hlt => by have := hall x hx; omega⟩
  show amts (linesBy (planOf [p] p.name) b 30 u) = _
  rw [hpo, amts_by p b u hb]
end
end Sim
set_option Elab.async false
set_option linter.all false
set_option maxRecDepth 100000
set_option maxHeartbeats 4000000
/-! k22: the sums. -/
namespace Sim
open PySem L2
def pc (a x p : Int) : Int := if a < x then (x - a) * p else 0
theorem pc_pos {a x p : Int} (h : a < x) : pc a x p = (x - a) * p := if_pos h
theorem pc_neg {a x p : Int} (h : ¬ a < x) : pc a x p = 0 := if_neg h
def us (u a : Int) : List Step → Int
  | [] => 0
  | s :: l => pc a (upTo u s.1) s.2 + us u (aheadTo u s.1) l
theorem us_nil (u a : Int) : us u a [] = 0 := rfl
theorem us_some (u a w p : Int) (l : List Step) : us u a ((some w, p) :: l) = pc a (min u w) p + us u w l := rfl
theorem us_none (u a p : Int) (l : List Step) : us u a ((none, p) :: l) = pc a u p + us u u l := rfl
theorem by_us (u : Int) : ∀ (l : List Step) (n : Nat) (a : Int), ((bySteps u n a l).map fun x => x.2.2.2).sum = us u a l
  | [], _, _ => by simp [bySteps, us]
  | s :: l, n, a => by
    rw [bySteps_cons, List.map_append, List.sum_append, by_us u l, us]
    by_cases h : a < upTo u s.1
    · rw [if_pos h, pc_pos h]; simp
    · rw [if_neg h, pc_neg h]; simp
theorem useSum_us (u : Int) (l : List Step) : useSum u 0 l = us u 0 l := by_us u l 0 0
theorem pc_nonneg {a x p : Int} (hp : 0 ≤ p) : 0 ≤ pc a x p := by
  by_cases h : a < x
  · rw [pc_pos h]; exact Int.mul_nonneg (by omega) hp
  · rw [pc_neg h]; omega
theorem pc_mono {a x y p : Int} (h : x ≤ y) (hp : 0 ≤ p) : pc a x p ≤ pc a y p := by
  by_cases h1 : a < x
  · rw [pc_pos h1, pc_pos (by omega)]; exact Int.mul_le_mul_of_nonneg_right (by omega) hp
  · rw [pc_neg h1]; exact pc_nonneg hp
theorem pc_le {a x p P : Int} (hp : 0 ≤ p ∧ p ≤ P) : pc a x p ≤ P * max 0 (x - a) := by
  by_cases h1 : a < x
  · rw [pc_pos h1, Int.max_eq_right (by omega), Int.mul_comm P]; exact Int.mul_le_mul_of_nonneg_left hp.2 (by omega)
  · rw [pc_neg h1]; exact Int.mul_nonneg (by omega) (by omega)
/-- more units come to no less -/
theorem us_mono {u u' : Int} (h : u ≤ u') : ∀ (l : List Step) (a b q : Int), rise a l b → 0 ≤ q → (∀ s ∈ l, 0 ≤ s.2) → us u a (l ++ [(none, q)]) ≤ us u' a (l ++ [(none, q)])
  | [], a, b, q, _, hq, _ => by
    rw [List.nil_append, us_none, us_none, us_nil, us_nil]
    have := pc_mono (a := a) h hq; omega
  | s :: l, a, b, q, ⟨w, e, hw, hr⟩, hq, hs => by
    have ih := us_mono h l w b q hr hq fun x hx => hs x (List.mem_cons_of_mem _ hx)
    have hp := hs s List.mem_cons_self
    obtain ⟨su, sp⟩ := s
    have e' : su = some w := e
    subst e'
    rw [List.cons_append, us_some, us_some]
    have hp' : 0 ≤ sp := hp
    have := pc_mono (a := a) (x := min u w) (y := min u' w) (by omega) hp'; omega
theorem pc_split {a v u q : Int} (h : a ≤ v) : pc a (min u v) q + pc v u q = pc a u q := by
  by_cases h1 : u ≤ v
  · rw [Int.min_eq_left h1, pc_neg (show ¬ v < u by omega)]; omega
  · rw [Int.min_eq_right (by omega), pc_pos (show v < u by omega), pc_pos (show a < u by omega)]
    have e : (v - a) * q + (u - v) * q = (u - a) * q := by rw [← Int.add_mul]; congr 1; omega
    by_cases h2 : a < v
    · rw [pc_pos h2]; exact e
    · rw [pc_neg h2]
      have : v = a := by omega
      subst this; omega
/-- a step parted -/
theorem us_part (u q v : Int) : ∀ (l : List Step) (a b : Int), rise a l b → b ≤ v → us u a (l ++ [(some v, q), (none, q)]) = us u a (l ++ [(none, q)])
  | [], a, b, h, hv => by
    have h' : a = b := h
    subst h'
    rw [List.nil_append, List.nil_append, us_some, us_none, us_none, us_nil]
    have := pc_split (u := u) (q := q) hv; omega
  | s :: l, a, b, ⟨w, e, hw, hr⟩, hv => by
    obtain ⟨su, sp⟩ := s
    have e' : su = some w := e
    subst e'
    rw [List.cons_append, List.cons_append, us_some, us_some, us_part u q v l w b hr hv]
theorem us_twice (u : Int) : ∀ (l : List Step) (a : Int), us u a (l.map fun s => (s.1, 2 * s.2)) = 2 * us u a l
  | [], a => by simp [us]
  | s :: l, a => by
    rw [List.map_cons, us, us, us_twice u l, Int.mul_add]
    congr 1
    show pc a (upTo u s.1) (2 * s.2) = _
    by_cases h : a < upTo u s.1
    · rw [pc_pos h, pc_pos h, Int.mul_left_comm]
    · rw [pc_neg h, pc_neg h]; omega
theorem us_bd {u P : Int} (hP : 0 ≤ P) : ∀ (l : List Step) (a b q : Int), rise a l b → (0 ≤ q ∧ q ≤ P) → (∀ s ∈ l, 0 ≤ s.2 ∧ s.2 ≤ P) → 0 ≤ us u a (l ++ [(none, q)]) ∧ us u a (l ++ [(none, q)]) ≤ P * max 0 (u - a)
  | [], a, b, q, _, hq, _ => by
    rw [List.nil_append, us_none, us_nil]
    have h1 := pc_nonneg (a := a) (x := u) hq.1
    have h2 := pc_le (a := a) (x := u) hq
    omega
  | s :: l, a, b, q, ⟨w, e, hw, hr⟩, hq, hs => by
    have ih := us_bd (u := u) hP l w b q hr hq fun x hx => hs x (List.mem_cons_of_mem _ hx)
    have hp := hs s List.mem_cons_self
    obtain ⟨su, sp⟩ := s
    have e' : su = some w := e
    subst e'
    rw [List.cons_append, us_some]
    have hp' : 0 ≤ sp ∧ sp ≤ P := hp
    have h1 := pc_nonneg (a := a) (x := min u w) hp'.1
    have h2 := pc_le (a := a) (x := min u w) hp'
    have h3 : P * max 0 (min u w - a) + P * max 0 (u - w) = P * max 0 (u - a) := by
      rw [← Int.mul_add]; congr 1; omega
    omega
theorem share_eq (f b : Int) : share f b 30 = f - f * b / 30 := by
  unfold share
  have : f * 30 / 30 = f := Int.mul_ediv_cancel f (by omega)
  rw [this]
theorem share_nonneg {f b : Int} (hf : 0 ≤ f) (hb : 0 ≤ b ∧ b ≤ 30) : 0 ≤ share f b 30 := by
  rw [share_eq]
  have h1 : f * b ≤ f * 30 := Int.mul_le_mul_of_nonneg_left hb.2 hf
  omega
theorem feePart_eq {f b : Int} (hf : 0 ≤ f) (hb : 0 ≤ b ∧ b ≤ 30) : feePart f b = share f b 30 := by
  have := share_nonneg hf hb
  unfold feePart
  split <;> omega
theorem fee_twice {f b : Int} (hf : 0 ≤ f) (hb : 0 ≤ b ∧ b ≤ 30) : -2 < feePart (2 * f) b - 2 * feePart f b ∧ feePart (2 * f) b - 2 * feePart f b < 2 := by
  rw [feePart_eq hf hb, feePart_eq (by omega) hb, share_eq, share_eq, Int.mul_assoc]
  omega
end Sim
set_option Elab.async false
set_option linter.all false
set_option maxRecDepth 100000
set_option maxHeartbeats 4000000
namespace Sim
open PySem L2
theorem Drawn.good {n : Nat} {p : Plan} (h : Drawn n p) (hn : n < 4) : p.Good ∧ p.Ok := by
  obtain ⟨x, hx, e⟩ := h.name
  obtain ⟨l, b, q, es, hr, hb, hl, hq, hs⟩ := h.steps
  have h1 := h.fee
  refine ⟨⟨by rw [e]; exact pname_ok n hn x hx, by rw [es]; simp; omega, ?_, by omega, fun c hc => by have := h.cap c hc; omega⟩, ⟨by rw [es]; simp; omega, ?_⟩⟩
  · rw [es]; exact rise_ok l 0 b q hr (by omega) (by omega) fun s hs' => by have := hs s hs'; omega
  · rw [es]
    intro s hs'
    rw [List.mem_append] at hs'
    rcases hs' with hs' | hs'
    · have := hs s hs'; omega
    · simp at hs'; subst hs'; simp; omega
theorem fr_get {M M' : Ms} (F : Fr M M' []) {c : Cell} {j : Nat} (h : M[j]? = some c) : M'[j]? = some c := (F.2 j (lt_of_get h) (by simp)).trans h
def body22 (cH cM : Addr) : List S := match (s_law cH cM)[1]? with
  | some (S.for_ _ _ _ b) => b
  | _ => []
def Row0 (M : Ms) : Prop := ∃ c, M[0]? = some c ∧ RowC c
def End22 (ns : List Int) (r : Fl × Ro × Ms) : Prop := r.1 = .nx ∧ (∃ y2 y3 y4 y5 y6 y7 y8 y9 y10 y11 y12 y13 y14 y15 y16 y17 y18 y19 y20 : Option Sl, r.2.1 = [some (.val (.scr ns)), some (.val (.ref 0)), y2, y3, y4, y5, y6, y7, y8, y9, y10, y11, y12, y13, y14, y15, y16, y17, y18, y19, y20]) ∧ Row0 r.2.2
def ro22 (ns : List Int) (n b u : Int) (p : Plan) (X : List (Option Sl)) : Ro := [some (.val (.scr ns)), some (.val (.ref 0)), some (.val (.int n)), some (.val p.enc), some (.val (.int b)), some (.val (.str p.name)), some (.val (.tup (p.steps.map encStep))), some (.val (.int p.fee)), some (.val (encO p.cap)), some (.val (.int u)), some (.val (.int (capped p.cap (free p b u))))] ++ X
theorem mem_all {k : Nat} {L : Lay} : L.pl ∈ L.all k ∧ L.cr ∈ L.all k ∧ L.bi ∈ L.all k ∧ L.bk ∈ L.all k ∧ ∀ x ∈ L.own, x ∈ L.all k := by
  unfold Lay.all
  refine ⟨by simp, by simp, by simp, by simp, fun x hx => by simp [hx]⟩
/-- nothing of the house has changed -/
theorem HAt.agree {cH cM : Addr} {M M' : Ms} {k : Nat} {L : Lay} {h : Hs} (H : HAt cH cM M k L h) (a : ∀ x ∈ L.all k, M'[x]? = M[x]?) : HAt cH cM M' k L h := by
  obtain ⟨m1, m2, m3, m4, m5⟩ := mem_all (k := k) (L := L)
  obtain ⟨mc, cc, bd⟩ := H.owned (M' := M') fun r hr => a r (m5 r hr)
  exact ⟨H.nd, (a _ mem_k).trans H.o, (a _ m1).trans H.pl, (a _ mem_ta).trans H.ta, (a _ mem_me).trans H.me, H.mz, mc, (a _ m2).trans H.cr, H.cz, cc, (a _ m3).trans H.bi, H.bz, bd, (a _ mem_ro).trans H.ro, (a _ m4).trans H.bk⟩
def zz : Str := "zz"
theorem zz_ok : isName zz = true := by decide +kernel
theorem zz_ne : ∀ x : Int, 0 ≤ x ∧ x < 2 → pname 0 x ≠ zz := fun x hx => by
  have : x = 0 ∨ x = 1 := by omega
  rcases this with rfl | rfl <;> decide +kernel
/-- a house of two plans -/
theorem tailC {cH cM : Addr} {M : Ms} {p : Plan} {u b n : Int} {ns : List Int} (hD : Drawn 0 p) (hu : 0 ≤ u ∧ u < 300) (hb : 0 ≤ b ∧ b ≤ 29) (hM : Row0 M) (x11 x12 x13 x14 x15 x16 x17 x18 x19 x20 : Option Sl) :
    Wp (execB (List.drop 12 (body22 cH cM)) (ro22 ns n b u p [x11, x12, x13, x14, x15, x16, x17, x18, x19, x20]) M) (End22 ns) .mk := by
  obtain ⟨hG, hO⟩ := hD.good (by omega)
  obtain ⟨x, hx, en⟩ := hD.name
  obtain ⟨c, hM, hc⟩ := hM
  have hGz : Plan.Good ⟨zz, p.steps, p.fee, none⟩ := ⟨zz_ok, hG.five, hG.steps, hG.fee, by simp⟩
  have hne : p.name ≠ zz := by rw [en]; exact zz_ne x hx
  have hi := init_ok (cH := cH) (cM := cM) (M := M) [p, ⟨zz, p.steps, p.fee, none⟩] 0 (by simp) (by simp) (by rintro q hq; simp at hq; rcases hq with rfl | rfl; exact hG; exact hGz) (by simp [hne]) (by omega)
  have hbor : isBor p.enc = false := rfl
  unfold ro22 body22 s_law
  simp [most_eq, hbor]
  simp [Plan.enc] at hi
  simp [Plan.enc]
  refine hi.mono ?_
  rintro ⟨rd, rm⟩ ⟨r1, H, X, hX⟩
  have r1' : rd = .non := r1
  subst r1'
  simp at H hX
  have hM1 : rm[0]? = some c := by rw [hX]; exact get_app hM
  have h0 : 0 < M.length := lt_of_get hM
  simp
  refine (taken_ok hM1 hc (m := 30) (by omega) (by omega)).mono ?_
  rintro r ⟨t, c2, rfl, ht, hc2⟩
  have hM2 := set_at (c' := c2) hM1
  have hall : ∀ x ∈ (newLay M.length).all M.length, M.length ≤ x := by
    intro x hx; simp [newLay, Lay.all, Lay.own] at hx; omega
  have H2 : HAt cH cM (rm.set 0 c2) M.length (newLay M.length) (newHs [p, ⟨zz, p.steps, p.fee, none⟩] 0) := H.agree fun x hx => set_off (by have := hall x hx; omega)
  revert hM2 H2
  generalize rm.set 0 c2 = M2
  intro hM2 H2
  have ei : intsD [D.int b, D.int (min 29 (b + t))] = some [b, min 29 (b + t)] := rfl
  have hsort : ∃ rest, sortI [b, min 29 (b + t)] = b :: rest ∧ (∀ d ∈ rest, b < d ∧ d ≤ 29) ∧ rest.Pairwise (· < ·) ∧ rest.length ≤ 1 := by
    simp only [sortI, insI]
    by_cases h1 : b < min 29 (b + t)
    · exact ⟨[min 29 (b + t)], by rw [if_pos h1], by simp; omega, by simp, by simp⟩
    · have h2 : b = min 29 (b + t) := by omega
      exact ⟨[], by rw [if_neg h1, if_pos h2, ← h2], by simp, by simp, by simp⟩
  obtain ⟨rest, esort, hrest, hpw, hrl⟩ := hsort
  have hs := isName_str hG.name
  have hpl : hasPlan [p, ⟨zz, p.steps, p.fee, none⟩] p.name := ⟨p, by simp⟩
  have hpo : planOf [p, ⟨zz, p.steps, p.fee, none⟩] p.name = p := by simp [planOf]
  simp [ei, most_eq, esort]
  rw [show (D.int b :: List.map D.int rest) = (b :: rest).map D.int from rfl]
  refine for_map (f := D.int) (fun l ro M' => (∃ y20 : Option Sl, ro = [some (.val (.scr ns)), some (.val (.ref 0)), some (.val (.int n)), some (.val (.tup [.str p.name, .tup (p.steps.map encStep), .int p.fee, encO p.cap])), some (.val (.int b)), some (.val (.str p.name)), some (.val (.tup (p.steps.map encStep))), some (.val (.int p.fee)), some (.val (encO p.cap)), some (.val (.int u)), some (.val (.int (capped p.cap (free p b u)))), x11, x12, x13, x14, x15, x16, x17, x18, some (.val (.ref M.length)), y20]) ∧
    Row0 M' ∧ M.length ≤ M'.length ∧ ∃ h', HAt cH cM M' M.length (newLay M.length) h' ∧ h'.plans = [p, ⟨zz, p.steps, p.fee, none⟩] ∧ h'.meas = [] ∧ h'.rows.length + l.length ≤ 10 ∧ h'.today ≤ 29 ∧ l.Pairwise (· < ·) ∧
    ((h'.takes = [] ∧ h'.today = 0 ∧ l = b :: rest) ∨ (h'.takes = [((ann, air), [(b, p.name)])] ∧ ∀ d ∈ l, (b < d ∧ d ≤ 29) ∧ h'.today ≤ d))) ?_ ?_ ?_ ?_
  · refine ⟨⟨x20, rfl⟩, ⟨c2, hM2, hc2⟩, ?_, _, H2, rfl, rfl, by simp [newHs]; omega, by simp [newHs], List.pairwise_cons.mpr ⟨fun d hd => (hrest d hd).1, hpw⟩, .inl ⟨rfl, rfl, rfl⟩⟩
    exact Nat.le_of_lt (lt_of_get H2.o)
  · rintro l ro M' ⟨⟨y20, rfl⟩, _⟩; simp
  · rintro d l ro M' ⟨⟨y20, rfl⟩, ⟨c3, hM3, hc3⟩, hML, h', H3, hp1, hp2, hp3, hp4, hp5, hp6⟩
    have hd : 0 ≤ d ∧ d ≤ 29 ∧ h'.today ≤ d ∧ b ≤ d := by
      rcases hp6 with ⟨e1, e2, e3⟩ | ⟨e1, e2⟩
      · injection e3 with e3 _; subst e3; omega
      · have := e2 d List.mem_cons_self; omega
    have etk : (takesOf h'.takes (ann, air)).length < 90000 ∧ (∀ x ∈ takesOf h'.takes (ann, air), PyData.strOk x.2 = true) ∧ h'.takes.length < 90000 ∧ setTk h'.takes (ann, air) (takeRow (takesOf h'.takes (ann, air)) d p.name) = [((ann, air), [(b, p.name)])] := by
      rcases hp6 with ⟨e1, e2, e3⟩ | ⟨e1, e2⟩
      · injection e3 with e3 _; subst e3
        rw [e1]
        exact ⟨by simp [takesOf], by simp [takesOf], by simp, by simp [takesOf, setTk, takeRow]⟩
      · have := e2 d List.mem_cons_self
        have hf : takesOf [((ann, air), [(b, p.name)])] (ann, air) = [(b, p.name)] := by rw [find_take, if_pos rfl]
        rw [e1, hf]
        exact ⟨by simp, by simpa using hs, by simp, by simp [setTk, takeRow, this.1.1]⟩
    simp [H3.o]
    refine (take_ok H3 (d := d) (c := ann) (t := air) (pl := p.name) hd.2.2.1 (by omega) ann_ok air_ok (by rw [hp1]; exact hpl) (by omega) etk.2.2.1 etk.1 etk.2.1).mono ?_
    rintro ⟨rd, m4⟩ ⟨q1, H4, F4⟩
    simp at H4 F4
    rw [List.length_cons] at hp3
    rw [List.pairwise_cons] at hp5
    have hn0 : 0 ∉ (newLay M.length).all M.length := fun h => by have := hall 0 h; omega
    simp
    refine ⟨⟨c3, (F4.2 0 (lt_of_get hM3) hn0).trans hM3, hc3⟩, Nat.le_trans hML F4.1, _, H4, hp1, hp2, by simp [Hs.take]; omega, by simp [Hs.take]; omega, hp5.2, .inr ⟨etk.2.2.2, fun d' hd' => ?_⟩⟩
    have h1 := hp5.1 d' hd'
    have h2 : d' ≤ 29 := by
      rcases hp6 with ⟨e1, e2, e3⟩ | ⟨e1, e2⟩
      · injection e3 with _ e3; exact (hrest d' (e3 ▸ hd')).2
      · exact (e2 d' (List.mem_cons_of_mem _ hd')).1.2
    exact ⟨⟨by omega, h2⟩, by show d ≤ d'; omega⟩
  · rintro ro M' ⟨⟨y20, rfl⟩, ⟨c3, hM3, hc3⟩, hML, h', H3, hp1, hp2, hp3, hp4, hp5, hp6⟩
    have e1 : h'.takes = [((ann, air), [(b, p.name)])] := by
      rcases hp6 with ⟨_, _, e3⟩ | ⟨e1, _⟩
      · cases e3
      · exact e1
    simp [H3.o]
    refine (one_use H3 (n := p.name) (b := b) (u := u) e1 hp2 (by rw [hp1]; exact hpl) (by rw [hp1]; intro q hq; simp at hq; rcases hq with rfl | rfl; exact hO; exact ⟨hO.steps, hO.price⟩) hs hp4 (by simp at hp3; omega) hb (by omega)).mono ?_
    rintro ⟨rd, m4⟩ ⟨q1, F4, L', h4, H4, hch⟩
    simp at H4 hch F4
    have hn0 : 0 ∉ (newLay M.length).all M.length := fun h => by have := hall 0 h; omega
    rw [hp1, hpo, amts_by p b u hb] at hch
    simp [H4.o]
    refine Wp.of hch ?_
    simp [End22]
    exact ⟨c3, (F4.2 0 (lt_of_get hM3) hn0).trans hM3, hc3⟩
theorem rise_dbl : ∀ (l : List Step) (a b : Int), rise a l b → rise a (l.map fun s => (s.1, 2 * s.2)) b
  | [], a, b, h => h
  | s :: l, a, b, ⟨w, e, hw, h⟩ => ⟨w, e, hw, rise_dbl l w b h⟩
/-- prices and fees doubled -/
theorem tailB {cH cM : Addr} {M : Ms} {p : Plan} {u b n : Int} {ns : List Int} (hD : Drawn 0 p) (hu : 0 ≤ u ∧ u < 300) (hb : 0 ≤ b ∧ b ≤ 29) (hM : Row0 M) (x11 x12 x13 x15 x16 x17 x18 x19 x20 : Option Sl) :
    Wp (execB (List.drop 9 (body22 cH cM)) (ro22 ns n b u p [x11, x12, x13, some (.val (.int (free p b u))), x15, x16, x17, x18, x19, x20]) M) (End22 ns) .mk := by
  refine w_split 3 _ ?_
  rw [List.drop_drop]
  have rest := fun (M : Ms) (hM : Row0 M) x15 x18 => tailC (cH := cH) (cM := cM) (n := n) (ns := ns) hD hu hb hM x11 x12 x13 (some (.val (.int (free p b u)))) x15 none none x18 x19 x20
  obtain ⟨hG, hO⟩ := hD.good (by omega)
  obtain ⟨c, hM, hc⟩ := hM
  obtain ⟨l, bb, q, es, hr, hbb, hl, hq, hsl⟩ := hD.steps
  have hfee := hD.fee
  revert rest
  generalize List.drop (9 + 3) (body22 cH cM) = T
  unfold ro22
  intro rest
  unfold body22 s_law
  simp
  refine Wp.of (comp_all (f := encStep) (fun s => encStep (s.1, 2 * s.2)) (by simp) _ [] (by rw [most_eq, es]; simp; omega) fun s _ => ⟨rfl, by simp [encStep, lim_eq, most_eq]⟩) ?_
  simp [most_eq, lim_eq]
  have hd := law_charge_ok (cH := cH) (cM := cM) (M := M) (p := { p with steps := p.steps.map fun s => (s.1, 2 * s.2), fee := 2 * p.fee, cap := none }) (u := u) (b := b)
    ⟨hG.name, by simpa using hG.five, by
      show stepsOk 0 (p.steps.map fun s => (s.1, 2 * s.2))
      rw [es, List.map_append]
      exact rise_ok _ 0 bb (2 * q) (rise_dbl l 0 bb hr) (by omega) (by omega) fun s hs => by
        obtain ⟨x, hx, rfl⟩ := List.mem_map.mp hs
        have := hsl x hx; simp; omega, by show 0 ≤ 2 * p.fee ∧ 2 * p.fee ≤ 9999; omega, by simp⟩
    ⟨by simpa using hO.steps, by
      show ∀ s ∈ p.steps.map (fun s => (s.1, 2 * s.2)), 0 ≤ s.2 ∧ s.2 ≤ 100000
      rw [es]
      intro s hs
      obtain ⟨x, hx, rfl⟩ := List.mem_map.mp hs
      rw [List.mem_append] at hx
      rcases hx with hx | hx
      · have := hsl x hx; simp; omega
      · simp at hx; subst hx; simp; omega⟩ hb (by omega)
  have em : p.steps.map (fun s => encStep (s.1, 2 * s.2)) = (p.steps.map fun s => (s.1, 2 * s.2)).map encStep := by rw [List.map_map]; rfl
  rw [em]
  refine hd.mono ?_
  rintro ⟨rd, M1⟩ ⟨e1, F1⟩
  simp at e1 F1
  subst e1
  have hM1 := fr_get F1 hM
  have hfr : capped none (free { p with steps := p.steps.map fun s => (s.1, 2 * s.2), fee := 2 * p.fee, cap := none } b u) = 2 * us u 0 p.steps + feePart (2 * p.fee) b := by
    simp only [capped, free]
    rw [useSum_us, us_twice]
  have hft := fee_twice (f := p.fee) (b := b) hfee.1 (by omega)
  have hfree : free p b u = us u 0 p.steps + feePart p.fee b := by unfold free; rw [useSum_us]
  rw [hfr]
  simp [lim_eq]
  have h2 : 2 * us u 0 p.steps + feePart (2 * p.fee) b - 2 * free p b u = feePart (2 * p.fee) b - 2 * feePart p.fee b := by rw [hfree]; omega
  rw [h2]
  have h3 : -2 < feePart (2 * p.fee) b - 2 * feePart p.fee b := hft.1
  have h4 : feePart (2 * p.fee) b - 2 * feePart p.fee b < 2 := hft.2
  simp [h3, h4]
  refine ⟨⟨fun h => by omega, ?_⟩, fun h => by omega⟩
  exact rest M1 ⟨c, hM1, hc⟩ _ _
/-- caps -/
theorem tailA {cH cM : Addr} {M : Ms} {p : Plan} {u b n : Int} {ns : List Int} (hD : Drawn 0 p) (hu : 0 ≤ u ∧ u < 300) (hb : 0 ≤ b ∧ b ≤ 29) (hM : Row0 M) (x11 x12 x13 x14 x15 x16 x17 x18 x19 x20 : Option Sl) :
    Wp (execB (List.drop 6 (body22 cH cM)) (ro22 ns n b u p [x11, x12, x13, x14, x15, x16, x17, x18, x19, x20]) M) (End22 ns) .mk := by
  refine w_split 3 _ ?_
  rw [List.drop_drop]
  have rest := fun (M : Ms) (hM : Row0 M) => tailB (cH := cH) (cM := cM) (n := n) (ns := ns) hD hu hb hM x11 x12 x13 x15 x16 x17 x18 x19 x20
  obtain ⟨hG, hO⟩ := hD.good (by omega)
  obtain ⟨c, hM, hc⟩ := hM
  obtain ⟨l, bb, q, es, hr, hbb, hl, hq, hsl⟩ := hD.steps
  have hfee := hD.fee
  have hfr : 0 ≤ free p b u ∧ free p b u ≤ 999999 := by
    unfold free
    rw [useSum_us, es, feePart_eq hfee.1 (by omega), share_eq]
    have h1 := us_bd (u := u) (P := 11) (by omega) l 0 bb q hr hq hsl
    have h2 := share_nonneg (f := p.fee) (b := b) hfee.1 (by omega)
    rw [share_eq] at h2
    have h3 : 0 ≤ p.fee * b := Int.mul_nonneg hfee.1 hb.1
    have h4 : max 0 (u - 0) ≤ 300 := by omega
    omega
  revert rest
  generalize List.drop (6 + 3) (body22 cH cM) = T
  unfold ro22
  intro rest
  unfold body22 s_law
  simp [most_eq]
  refine (law_charge_ok (p := { p with cap := none }) (u := u) (b := b) ⟨hG.name, hG.five, hG.steps, hG.fee, by simp⟩ ⟨hO.steps, hO.price⟩ hb (by omega)).mono ?_
  rintro ⟨rd, M1⟩ ⟨e1, F1⟩
  simp at e1 F1
  subst e1
  have hM1 := fr_get F1 hM
  have ef : capped none (free { p with cap := none } b u) = free p b u := rfl
  rw [ef]
  simp [most_eq]
  refine (law_charge_ok (p := { p with cap := some (min (free p b u) 999999) }) (u := u) (b := b) ⟨hG.name, hG.five, hG.steps, hG.fee, fun c e => by simp at e; omega⟩ ⟨hO.steps, hO.price⟩ hb (by omega)).mono ?_
  rintro ⟨rd, M2⟩ ⟨e2, F2⟩
  simp at e2 F2
  subst e2
  have hM2 := fr_get F2 hM1
  have ef2 : capped (some (min (free p b u) 999999)) (free { p with cap := some (min (free p b u) 999999) } b u) = free p b u := by
    have e : free { p with cap := some (min (free p b u) 999999) } b u = free p b u := rfl
    rw [e]; simp only [capped]; omega
  rw [ef2]
  have rest2 := rest M2 ⟨c, hM2, hc⟩
  cases hcap : p.cap with
  | none =>
    rw [hcap] at rest2
    simp [capped] at rest2 ⊢
    exact rest2
  | some k =>
    rw [hcap] at rest2
    have e : min k (free p b u) = min (free p b u) k := by omega
    simp [capped, e] at rest2 ⊢
    exact rest2
theorem rise_last : ∀ (l : List Step) (a b : Int) (s : Step), rise a (l ++ [s]) b → s.1 = some b
  | [], a, b, s, ⟨w, e, hw, h⟩ => by
    have h' : w = b := h
    rw [e, h']
  | x :: l, a, b, s, ⟨w, e, hw, h⟩ => rise_last l w b s h
theorem law_holds (cH cM : Addr) (ns : List Int) (hn : ns.length ≤ 63) : ∃ M, phi_law cH cM [.scr ns] [] = some (.bl true, M) := by
  suffices Wp (phi_law cH cM [.scr ns] []) (fun r => r.1 = .bl true) .mk by
    obtain ⟨⟨rd, rm⟩, e, q⟩ := this
    have q' : rd = .bl true := q
    subst q'
    exact ⟨rm, e⟩
  unfold phi_law s_law
  simp [List.replicate, most_eq]
  refine for_rng (fun n ro M' => (∃ x2 x3 x4 x5 x6 x7 x8 x9 x10 x11 x12 x13 x14 x15 x16 x17 x18 x19 x20 : Option Sl, ro = [some (.val (.scr ns)), some (.val (.ref 0)), x2, x3, x4, x5, x6, x7, x8, x9, x10, x11, x12, x13, x14, x15, x16, x17, x18, x19, x20]) ∧ ∃ c, M'[0]? = some c ∧ RowC c) ?_ ?_ ?_ ?_
  · exact ⟨⟨none, none, none, none, none, none, none, none, none, none, none, none, none, none, none, none, none, none, none, rfl⟩, _, rfl, ns, 0, 0, 0, rfl, by omega⟩
  · rintro n ro M' _ _; simp
  · rintro n ro M hn3 ⟨⟨x2, x3, x4, x5, x6, x7, x8, x9, x10, x11, x12, x13, x14, x15, x16, x17, x18, x19, x20, rfl⟩, c, hM, hc⟩
    have rest := fun (M : Ms) (p : Plan) (u b : Int) (hD : Drawn 0 p) (hu : 0 ≤ u ∧ u < 300) (hb : 0 ≤ b ∧ b ≤ 29) (hM : Row0 M) x11 x12 x13 => tailA (cH := cH) (cM := cM) (n := n) (ns := ns) hD hu hb hM x11 x12 x13 x14 x15 x16 x17 x18 x19 x20
    refine Wp.of (a := [some (.val (.scr ns)), some (.val (.ref 0)), some (.val (.int n)), x3, x4, x5, x6, x7, x8, x9, x10, x11, x12, x13, x14, x15, x16, x17, x18, x19, x20]) (by simp) ?_
    show Wp (execB (body22 cH cM) _ M) _ .mk
    refine w_split 6 _ ?_
    revert rest
    generalize List.drop 6 (body22 cH cM) = T
    unfold ro22
    intro rest
    unfold body22 s_law
    simp
    refine (plans_ok hM hc).mono ?_
    rintro r ⟨ps, c1, rfl, hps, hc1, hdr⟩
    obtain ⟨p, hp⟩ : ∃ p, ps[0]? = some p := ⟨ps[0], List.getElem?_eq_getElem (by omega)⟩
    have hD := hdr 0 p hp
    obtain ⟨hG, hO⟩ := hD.good (by omega)
    have hs : ∀ c, (M.set 0 c)[0]? = some c := fun c => set_at hM
    simp [List.getElem?_map, hp]
    refine (taken_ok (hs c1) hc1 (m := 30) (by omega) (by omega)).mono ?_
    rintro r ⟨t1, c2, rfl, ht1, hc2⟩
    simp [List.set_set, most_eq]
    refine (taken_ok (hs c2) hc2 (m := 2) (by omega) (by omega)).mono ?_
    rintro r ⟨t2, c3, rfl, ht2, hc3⟩
    have hw : ∃ w, atI [D.int 0, D.int t1] t2 = some (.int w) ∧ 0 ≤ w ∧ w ≤ 29 := by
      have : t2 = 0 ∨ t2 = 1 := by omega
      rcases this with rfl | rfl
      · exact ⟨0, by simp, by omega, by omega⟩
      · exact ⟨t1, by simp, by omega, by omega⟩
    obtain ⟨b, eb, hb⟩ := hw
    have hbor : isBor p.enc = false := rfl
    simp [eb, List.set_set, hbor]
    have hM3 := hs c3
    revert hM3
    generalize M.set 0 c3 = M3
    intro hM3
    have eenc : p.enc = .tup [.str p.name, .tup (p.steps.map encStep), .int p.fee, encO p.cap] := rfl
    simp [eenc]
    refine (taken_ok hM3 hc3 (m := 300) (by omega) (by omega)).mono ?_
    rintro r ⟨u, c4, rfl, hu, hc4⟩
    simp
    have hM4 := set_at (c' := c4) hM3
    revert hM4
    generalize M3.set 0 c4 = M4
    intro hM4
    refine (law_charge_ok (p := p) (u := u) (b := b) hG hO hb (by omega)).mono ?_
    rintro ⟨rd, M5⟩ ⟨e5, F5⟩
    simp at e5 F5
    subst e5
    have hM5 := fr_get F5 hM4
    simp
    refine (taken_ok hM5 hc4 (m := 9) (by omega) (by omega)).mono ?_
    rintro r ⟨t3, c6, rfl, ht3, hc6⟩
    simp
    have hM6 := set_at (c' := c6) hM5
    revert hM6
    generalize M5.set 0 c6 = M6
    intro hM6
    refine (law_charge_ok (p := p) (u := u + 1 + t3) (b := b) hG hO hb (by omega)).mono ?_
    rintro ⟨rd, M7⟩ ⟨e7, F7⟩
    simp at e7 F7
    subst e7
    have hM7 := fr_get F7 hM6
    obtain ⟨l, bb, q, es, hr, hbb, hl, hq, hsl⟩ := hD.steps
    have hmono : capped p.cap (free p b u) ≤ capped p.cap (free p b (u + 1 + t3)) := by
      have h1 : free p b u ≤ free p b (u + 1 + t3) := by
        unfold free
        rw [useSum_us, useSum_us, es]
        have := us_mono (u := u) (u' := u + 1 + t3) (by omega) l 0 bb q hr (by omega) fun s hs' => (hsl s hs').1
        omega
      unfold capped
      cases p.cap with
      | none => exact h1
      | some k => simp only []; omega
    simp
    have hz : (p.steps.length : Int) - 1 = (l.length : Nat) := by rw [es]; simp
    have hlt : (p.steps.length : Int) < 5 := by rw [es]; simp; omega
    have emap : p.steps.map encStep = l.map encStep ++ [encStep (none, q)] := by rw [es]; simp
    refine ⟨hmono, fun _ => ⟨fun _ => ?_, fun h => by omega⟩⟩
    have a1 : atI (p.steps.map encStep) ((p.steps.length : Int) - 1) = some (encStep (none, q)) := by
      rw [hz, atI_nat, emap]; simp
    have a3 : cutD (p.steps.map encStep) none (some ((p.steps.length : Int) - 1)) = l.map encStep := by
      rw [hz, cut_to, emap]; simp
    have fin : ∀ (M : Ms) (x11 x12 x13 : Option Sl), Row0 M → Wp (execB T [some (.val (.scr ns)), some (.val (.ref 0)), some (.val (.int n)), some (.val p.enc), some (.val (.int b)), some (.val (.str p.name)), some (.val (.tup (p.steps.map encStep))), some (.val (.int p.fee)), some (.val (encO p.cap)), some (.val (.int u)), some (.val (.int (capped p.cap (free p b u)))), x11, x12, x13, x14, x15, x16, x17, x18, x19, x20] M) (End22 ns) .mk := fun M x11 x12 x13 hR => rest M p u b hD hu hb hR x11 x12 x13
    have part : ∀ (M7 : Ms) (v : Int), bb + 1 ≤ v → v ≤ 999 → Wp (phi_law_charge cH cM [.tup [.str p.name, .tup (l.map encStep ++ [encStep (some v, q), encStep (none, q)]), .int p.fee, encO p.cap], .int u, .int b] M7) (fun r => r.1 = .int (capped p.cap (free p b u)) ∧ Fr M7 r.2 []) .mk := fun M7 v h1 h2 => by
      have h := law_charge_ok (cH := cH) (cM := cM) (M := M7) (p := { p with steps := l ++ [(some v, q), (none, q)] }) (u := u) (b := b)
        ⟨hG.name, by simp; omega, by
          show stepsOk 0 (l ++ [(some v, q), (none, q)])
          have := rise_ok (l ++ [(some v, q)]) 0 v q (rise_add l 0 bb v q hr h1) (by omega) (by omega) fun s hs' => by
            rcases List.mem_append.mp hs' with hs' | hs'
            · have := hsl s hs'; omega
            · simp at hs'; subst hs'; simp; omega
          simpa using this, hG.fee, hG.cap⟩
        ⟨by simp; omega, by
          show ∀ s ∈ l ++ [(some v, q), (none, q)], 0 ≤ s.2 ∧ s.2 ≤ 100000
          intro s hs'
          rcases List.mem_append.mp hs' with hs' | hs'
          · have := hsl s hs'; omega
          · simp at hs'; rcases hs' with rfl | rfl <;> simp <;> omega⟩ hb (by omega)
      have ef : free { p with steps := l ++ [(some v, q), (none, q)] } b u = free p b u := by
        unfold free
        rw [useSum_us, useSum_us, es]
        show us u 0 (l ++ [(some v, q), (none, q)]) + feePart p.fee b = _
        rw [us_part u q v l 0 bb hr (by omega)]
      rw [ef] at h
      simp [Plan.enc] at h
      simpa using h
    have toK : ∀ r : Fl × Ro × Ms, End22 ns r → ∀ (I : Ro → Ms → Prop) (R : Fl × Ro × Ms → Prop), (∀ ro M, (∃ y2 y3 y4 y5 y6 y7 y8 y9 y10 y11 y12 y13 y14 y15 y16 y17 y18 y19 y20 : Option Sl, ro = [some (.val (.scr ns)), some (.val (.ref 0)), y2, y3, y4, y5, y6, y7, y8, y9, y10, y11, y12, y13, y14, y15, y16, y17, y18, y19, y20]) → Row0 M → I ro M) → contK r I R := by
      rintro ⟨fl, ro, M⟩ ⟨e1, e2, e3⟩ I R hI
      have e1' : fl = .nx := e1
      subst e1'
      exact hI _ _ e2 e3
    have a1' : atI (p.steps.map encStep) ((p.steps.length : Int) - 1) = some (D.tup [.non, .int q]) := a1
    rcases List.eq_nil_or_concat l with rfl | ⟨l', s, rfl⟩
    · have hb0 : (0 : Int) = bb := hr
      subst hb0
      have es' : p.steps = [(none, q)] := es
      have cut0 : ∀ y : D, cutD [y] none (some 0) = [] := fun y => cut_to [y] 0
      simp [es', encStep, cut0, most_eq, eenc] at fin ⊢
      refine (taken_ok hM7 hc6 (m := 300) (by omega) (by omega)).mono ?_
      rintro r ⟨t4, c8, rfl, ht4, hc8⟩
      have hM8 := set_at (c' := c8) hM7
      revert hM8
      generalize M7.set 0 c8 = M8
      intro hM8
      simp [most_eq, cut0]
      have pt := part M8 (1 + t4) (by omega) (by omega)
      simp [encStep] at pt
      refine pt.mono ?_
      rintro ⟨rd, M9⟩ ⟨e9, F9⟩
      simp at e9 F9
      subst e9
      have hM9 := fr_get F9 hM8
      simp
      exact (fin M9 _ _ _ ⟨c8, hM9, hc8⟩).mono fun r hr => toK r hr _ _ fun ro M h1 h2 => ⟨h1, h2⟩
    · rw [List.concat_eq_append] at hr part es hz hl hbb a3
      obtain ⟨su, sp⟩ := s
      have hsu : su = some bb := rise_last l' 0 bb (su, sp) hr
      subst hsu
      have hlen : (p.steps.length : Int) = l'.length + 2 := by rw [es]; simp [Int.add_assoc]
      have hz2 : (p.steps.length : Int) - 2 = (l'.length : Nat) := by omega
      have hgt : (1 : Int) < p.steps.length := by omega
      have a2 : atI (p.steps.map encStep) ((p.steps.length : Int) - 2) = some (D.tup [.int bb, .int sp]) := by
        rw [hz2, atI_nat, es]; simp [encStep]
      have hbb' : 0 ≤ bb ∧ bb ≤ 120 := by
        have := rise_le _ _ _ hr
        simp at hl hbb; omega
      simp [a1', a2, a3, hgt, most_eq, eenc] at fin ⊢
      refine (taken_ok hM7 hc6 (m := 300) (by omega) (by omega)).mono ?_
      rintro r ⟨t4, c8, rfl, ht4, hc8⟩
      have hM8 := set_at (c' := c8) hM7
      revert hM8
      generalize M7.set 0 c8 = M8
      intro hM8
      simp [most_eq, a3]
      have pt := part M8 (bb + 1 + t4) (by omega) (by omega)
      simp [encStep] at pt
      refine ⟨by simp at hl; omega, ?_⟩
      simp [encStep]
      refine pt.mono ?_
      rintro ⟨rd, M9⟩ ⟨e9, F9⟩
      simp at e9 F9
      subst e9
      have hM9 := fr_get F9 hM8
      simp
      exact (fin M9 _ _ _ ⟨c8, hM9, hc8⟩).mono fun r hr => toK r hr _ _ fun ro M h1 h2 => ⟨h1, h2⟩
  · rintro ro M ⟨⟨x2, x3, x4, x5, x6, x7, x8, x9, x10, x11, x12, x13, x14, x15, x16, x17, x18, x19, x20, rfl⟩, c, hM, hc⟩
    simp
end Sim
set_option Elab.async false
set_option linter.all false
set_option maxRecDepth 100000
set_option maxHeartbeats 4000000

namespace Sim
namespace Wk
open PySem PySem.Spec PyProof.Rows L2 Sim
def topS (i : Nat) : Stmt := PySem.Challenge.pw_chargehouse_k22_whole_more_is_no_less.main.body.getD i (.Pass ⟨0, 0, 0, 0⟩)
def st_law_taken : Stmt := (topS 41)
def N_law_taken : List Str := ["_law_row", "_law_many", "_law_found", "_law_cell"]
def st_is_number : Stmt := (topS 24)
def N_is_number : List Str := ["thing", "low", "high"]
def st_is_name : Stmt := (topS 25)
def N_is_name : List Str := ["thing", "sign"]
def st_are_steps : Stmt := (topS 26)
def N_are_steps : List Str := ["steps", "ahead", "number", "step"]
def st_is_plan : Stmt := (topS 27)
def N_is_plan : List Str := ["plan", "names"]
def st_need_plans : Stmt := (topS 28)
def N_need_plans : List Str := ["plans", "names", "number", "plan"]
def st_House_init : Stmt := (inClass (topS 38) 0)
def N_House_init : List Str := ["self", "plans", "grace", "plan"]
def st_House_need_day : Stmt := (inClass (topS 38) 1)
def N_House_need_day : List Str := ["self", "day"]
def st_House_need_names : Stmt := (inClass (topS 38) 2)
def N_House_need_names : List Str := ["self", "names", "name"]
def st_House_done : Stmt := (inClass (topS 38) 3)
def N_House_done : List Str := ["self", "day", "row"]
def st_House_take : Stmt := (inClass (topS 38) 4)
def N_House_take : List Str := ["self", "today", "client", "thing", "plan", "some", "one"]
def st_Measure_init : Stmt := (inClass (topS 37) 0)
def N_Measure_init : List Str := ["self", "client", "thing", "day", "units", "told_on"]
def st_House_plan_on : Stmt := (inClass (topS 38) 5)
def N_House_plan_on : List Str := ["self", "client", "thing", "day", "some", "begin", "name"]
def st_House_use : Stmt := (inClass (topS 38) 6)
def N_House_use : List Str := ["self", "today", "client", "thing", "day", "units"]
def st_House_need_pair : Stmt := (inClass (topS 38) 14)
def N_House_need_pair : List Str := ["self", "client", "thing"]
def st_House_stretches : Stmt := (inClass (topS 38) 10)
def N_House_stretches : List Str := ["self", "client", "thing", "month", "day", "first", "found", "begin", "name", "one"]
def st_House_counts : Stmt := (inClass (topS 38) 9)
def N_House_counts : List Str := ["self", "measure", "day"]
def st_share : Stmt := (topS 30)
def N_share : List Str := ["fee", "begin", "end"]
def st_by_steps : Stmt := (topS 29)
def N_by_steps : List Str := ["steps", "units", "found", "ahead", "number", "upto", "price", "here"]
def st_lines_by : Stmt := (topS 31)
def N_lines_by : List Str := ["plan", "begin", "end", "units", "name", "steps", "fee", "cap", "found", "one", "first", "due", "whole", "line"]
def st_House_parts_in : Stmt := (inClass (topS 38) 11)
def N_House_parts_in : List Str := ["self", "client", "thing", "month", "day", "found", "name", "begin", "end", "numbers", "number", "one", "units"]
def st_House_lines_in : Stmt := (inClass (topS 38) 12)
def N_House_lines_in : List Str := ["self", "client", "thing", "month", "day", "stretch", "numbers", "lines", "line"]
def st_House_charge_in : Stmt := (inClass (topS 38) 13)
def N_House_charge_in : List Str := ["self", "client", "thing", "month", "day", "line"]
def st_House_charge : Stmt := (inClass (topS 38) 15)
def N_House_charge : List Str := ["self", "client", "thing", "month"]
def st_law_charge : Stmt := (topS 44)
def N_law_charge : List Str := ["_law_plan", "_law_units", "_law_begin", "_law_house"]
def st_law_plans : Stmt := (topS 43)
def N_law_plans : List Str := ["_law_row", "_law_found", "_law_k", "_law_steps", "_law_upto", "_law_again", "_law_fee", "_law_cap"]
def st_law : Stmt := (topS 45)
def N_law : List Str := ["_law_script", "_law_row", "_law_turn", "_law_plan", "_law_begin", "_law_name", "_law_steps", "_law_fee", "_law_cap", "_law_units", "_law_whole", "_law_end", "_law_last", "_law_parted", "_law_free", "_law_twice", "_law_upto", "_law_price", "_law_rest", "_law_house", "_law_day"]
structure Ad where
  cH : Addr
  cM : Addr
  f_law_taken : Addr
  d_law_taken : FuncData
  f_is_number : Addr
  d_is_number : FuncData
  f_is_name : Addr
  d_is_name : FuncData
  f_are_steps : Addr
  d_are_steps : FuncData
  f_is_plan : Addr
  d_is_plan : FuncData
  f_need_plans : Addr
  d_need_plans : FuncData
  f_House_init : Addr
  d_House_init : FuncData
  f_House_need_day : Addr
  d_House_need_day : FuncData
  f_House_need_names : Addr
  d_House_need_names : FuncData
  f_House_done : Addr
  d_House_done : FuncData
  f_House_take : Addr
  d_House_take : FuncData
  f_Measure_init : Addr
  d_Measure_init : FuncData
  f_House_plan_on : Addr
  d_House_plan_on : FuncData
  f_House_use : Addr
  d_House_use : FuncData
  f_House_need_pair : Addr
  d_House_need_pair : FuncData
  f_House_stretches : Addr
  d_House_stretches : FuncData
  f_House_counts : Addr
  d_House_counts : FuncData
  f_share : Addr
  d_share : FuncData
  f_by_steps : Addr
  d_by_steps : FuncData
  f_lines_by : Addr
  d_lines_by : FuncData
  f_House_parts_in : Addr
  d_House_parts_in : FuncData
  f_House_lines_in : Addr
  d_House_lines_in : FuncData
  f_House_charge_in : Addr
  d_House_charge_in : FuncData
  f_House_charge : Addr
  d_House_charge : FuncData
  f_law_charge : Addr
  d_law_charge : FuncData
  f_law_plans : Addr
  d_law_plans : FuncData
  f_law : Addr
  d_law : FuncData
  t_LETTERS : Tok
  t_MONTH : Tok
  t_MOST_CAP : Tok
  t_MOST_FEE : Tok
  t_MOST_GRACE : Tok
  t_MOST_LETTERS : Tok
  t_MOST_PLANS : Tok
  t_MOST_PRICE : Tok
  t_MOST_STEPS : Tok
  t_MOST_UNITS : Tok
  t_YEAR : Tok
structure Txt (K : PySem.W.Frag) (mg : Str → Option Value) (A : Ad) : Prop where
  F_law_taken : Fun K "_law_taken" "_law_taken" st_law_taken A.f_law_taken A.d_law_taken
  b_law_taken : Binds K A.d_law_taken ["_law_row", "_law_many"] []
  g_law_taken : mg "_law_taken" = some (.ref A.f_law_taken)
  F_is_number : Fun K "is_number" "is_number" st_is_number A.f_is_number A.d_is_number
  b_is_number : Binds K A.d_is_number ["thing", "low", "high"] []
  g_is_number : mg "is_number" = some (.ref A.f_is_number)
  F_is_name : Fun K "is_name" "is_name" st_is_name A.f_is_name A.d_is_name
  b_is_name : Binds K A.d_is_name ["thing"] []
  g_is_name : mg "is_name" = some (.ref A.f_is_name)
  F_are_steps : Fun K "are_steps" "are_steps" st_are_steps A.f_are_steps A.d_are_steps
  b_are_steps : Binds K A.d_are_steps ["steps"] []
  g_are_steps : mg "are_steps" = some (.ref A.f_are_steps)
  F_is_plan : Fun K "is_plan" "is_plan" st_is_plan A.f_is_plan A.d_is_plan
  b_is_plan : Binds K A.d_is_plan ["plan", "names"] []
  g_is_plan : mg "is_plan" = some (.ref A.f_is_plan)
  F_need_plans : Fun K "need_plans" "need_plans" st_need_plans A.f_need_plans A.d_need_plans
  b_need_plans : Binds K A.d_need_plans ["plans"] []
  g_need_plans : mg "need_plans" = some (.ref A.f_need_plans)
  F_House_init : Fun K "__init__" "House.__init__" st_House_init A.f_House_init A.d_House_init
  b_House_init : Binds K A.d_House_init ["self", "plans", "grace"] []
  F_House_need_day : Fun K "need_day" "House.need_day" st_House_need_day A.f_House_need_day A.d_House_need_day
  b_House_need_day : Binds K A.d_House_need_day ["self", "day"] []
  me_need_day : Meth K A.cH "need_day" A.f_House_need_day
  F_House_need_names : Fun K "need_names" "House.need_names" st_House_need_names A.f_House_need_names A.d_House_need_names
  b_House_need_names : Binds K A.d_House_need_names ["self", "names"] []
  me_need_names : Meth K A.cH "need_names" A.f_House_need_names
  F_House_done : Fun K "done" "House.done" st_House_done A.f_House_done A.d_House_done
  b_House_done : KBn K A.d_House_done ["self", "day", "row"] 2 ["row"] (fun us ws => us ++ ws) (fun us ws => us ++ ws)
  me_done : Meth K A.cH "done" A.f_House_done
  F_House_take : Fun K "take" "House.take" st_House_take A.f_House_take A.d_House_take
  b_House_take : Binds K A.d_House_take ["self", "today", "client", "thing", "plan"] []
  me_take : Meth K A.cH "take" A.f_House_take
  F_Measure_init : Fun K "__init__" "Measure.__init__" st_Measure_init A.f_Measure_init A.d_Measure_init
  b_Measure_init : Binds K A.d_Measure_init ["self", "client", "thing", "day", "units", "told_on"] []
  F_House_plan_on : Fun K "plan_on" "House.plan_on" st_House_plan_on A.f_House_plan_on A.d_House_plan_on
  b_House_plan_on : Binds K A.d_House_plan_on ["self", "client", "thing", "day"] []
  me_plan_on : Meth K A.cH "plan_on" A.f_House_plan_on
  F_House_use : Fun K "use" "House.use" st_House_use A.f_House_use A.d_House_use
  b_House_use : Binds K A.d_House_use ["self", "today", "client", "thing", "day", "units"] []
  me_use : Meth K A.cH "use" A.f_House_use
  F_House_need_pair : Fun K "need_pair" "House.need_pair" st_House_need_pair A.f_House_need_pair A.d_House_need_pair
  b_House_need_pair : Binds K A.d_House_need_pair ["self", "client", "thing"] []
  me_need_pair : Meth K A.cH "need_pair" A.f_House_need_pair
  F_House_stretches : Fun K "stretches" "House.stretches" st_House_stretches A.f_House_stretches A.d_House_stretches
  b_House_stretches : Binds K A.d_House_stretches ["self", "client", "thing", "month", "day"] []
  me_stretches : Meth K A.cH "stretches" A.f_House_stretches
  F_House_counts : Fun K "counts" "House.counts" st_House_counts A.f_House_counts A.d_House_counts
  b_House_counts : Binds K A.d_House_counts ["self", "measure", "day"] []
  me_counts : Meth K A.cH "counts" A.f_House_counts
  F_share : Fun K "share" "share" st_share A.f_share A.d_share
  b_share : Binds K A.d_share ["fee", "begin", "end"] []
  g_share : mg "share" = some (.ref A.f_share)
  F_by_steps : Fun K "by_steps" "by_steps" st_by_steps A.f_by_steps A.d_by_steps
  b_by_steps : Binds K A.d_by_steps ["steps", "units"] []
  g_by_steps : mg "by_steps" = some (.ref A.f_by_steps)
  F_lines_by : Fun K "lines_by" "lines_by" st_lines_by A.f_lines_by A.d_lines_by
  b_lines_by : Binds K A.d_lines_by ["plan", "begin", "end", "units"] []
  g_lines_by : mg "lines_by" = some (.ref A.f_lines_by)
  F_House_parts_in : Fun K "parts_in" "House.parts_in" st_House_parts_in A.f_House_parts_in A.d_House_parts_in
  b_House_parts_in : Binds K A.d_House_parts_in ["self", "client", "thing", "month", "day"] []
  me_parts_in : Meth K A.cH "parts_in" A.f_House_parts_in
  F_House_lines_in : Fun K "lines_in" "House.lines_in" st_House_lines_in A.f_House_lines_in A.d_House_lines_in
  b_House_lines_in : Binds K A.d_House_lines_in ["self", "client", "thing", "month", "day"] []
  me_lines_in : Meth K A.cH "lines_in" A.f_House_lines_in
  F_House_charge_in : Fun K "charge_in" "House.charge_in" st_House_charge_in A.f_House_charge_in A.d_House_charge_in
  b_House_charge_in : Binds K A.d_House_charge_in ["self", "client", "thing", "month", "day"] []
  me_charge_in : Meth K A.cH "charge_in" A.f_House_charge_in
  F_House_charge : Fun K "charge" "House.charge" st_House_charge A.f_House_charge A.d_House_charge
  b_House_charge : Binds K A.d_House_charge ["self", "client", "thing", "month"] []
  me_charge : Meth K A.cH "charge" A.f_House_charge
  F_law_charge : Fun K "_law_charge" "_law_charge" st_law_charge A.f_law_charge A.d_law_charge
  b_law_charge : Binds K A.d_law_charge ["_law_plan", "_law_units", "_law_begin"] []
  g_law_charge : mg "_law_charge" = some (.ref A.f_law_charge)
  F_law_plans : Fun K "_law_plans" "_law_plans" st_law_plans A.f_law_plans A.d_law_plans
  b_law_plans : Binds K A.d_law_plans ["_law_row"] []
  g_law_plans : mg "_law_plans" = some (.ref A.f_law_plans)
  F_law : Fun K "law" "law" st_law A.f_law A.d_law
  cl_House : Cls K A.cH
  mk_House : Mk K A.cH A.f_House_init
  gc_House : mg "House" = some (.ref A.cH)
  cl_Measure : Cls K A.cM
  mk_Measure : Mk K A.cM A.f_Measure_init
  gc_Measure : mg "Measure" = some (.ref A.cM)
  na_bills : NoAttr K A.cH "bills"
  na_book : NoAttr K A.cH "book"
  na_client : NoAttr K A.cM "client"
  na_credits : NoAttr K A.cH "credits"
  na_day : NoAttr K A.cM "day"
  na_gone : NoAttr K A.cM "gone"
  na_grace : NoAttr K A.cH "grace"
  na_many : NoAttr K A.cH "many"
  na_measures : NoAttr K A.cH "measures"
  na_plans : NoAttr K A.cH "plans"
  na_rows : NoAttr K A.cH "rows"
  na_takes : NoAttr K A.cH "takes"
  na_thing : NoAttr K A.cM "thing"
  na_today : NoAttr K A.cH "today"
  na_told_on : NoAttr K A.cM "told_on"
  na_underway : NoAttr K A.cH "underway"
  na_units : NoAttr K A.cM "units"
  c_LETTERS : mg "LETTERS" = some (.str "abcdefghijklmnopqrstuvwxyz" A.t_LETTERS)
  c_MONTH : mg "MONTH" = some (.int 30 A.t_MONTH)
  c_MOST_CAP : mg "MOST_CAP" = some (.int 999999 A.t_MOST_CAP)
  c_MOST_FEE : mg "MOST_FEE" = some (.int 9999 A.t_MOST_FEE)
  c_MOST_GRACE : mg "MOST_GRACE" = some (.int 29 A.t_MOST_GRACE)
  c_MOST_LETTERS : mg "MOST_LETTERS" = some (.int 6 A.t_MOST_LETTERS)
  c_MOST_PLANS : mg "MOST_PLANS" = some (.int 8 A.t_MOST_PLANS)
  c_MOST_PRICE : mg "MOST_PRICE" = some (.int 999 A.t_MOST_PRICE)
  c_MOST_STEPS : mg "MOST_STEPS" = some (.int 5 A.t_MOST_STEPS)
  c_MOST_UNITS : mg "MOST_UNITS" = some (.int 9999 A.t_MOST_UNITS)
  c_YEAR : mg "YEAR" = some (.int 360 A.t_YEAR)
  bn_all : mg "all" = none
  bn_bool : mg "bool" = none
  bn_enumerate : mg "enumerate" = none
  bn_int : mg "int" = none
  bn_isinstance : mg "isinstance" = none
  bn_len : mg "len" = none
  bn_max : mg "max" = none
  bn_min : mg "min" = none
  bn_range : mg "range" = none
  bn_set : mg "set" = none
  bn_sorted : mg "sorted" = none
  bn_str : mg "str" = none
  bn_sum : mg "sum" = none
  bn_tuple : mg "tuple" = none
section
variable {P : Program} {w : World} {K : PySem.W.Frag} {mg : Str → Option Value} {base : Heap} {A : Ad}
theorem sc_law_taken : FnScope N_law_taken ["_law_row", "_law_many"] (defScope st_law_taken) := ⟨rfl, rfl, rfl, by decide +kernel, rfl, by decide +kernel, by decide +kernel⟩
theorem ok_law_taken (T : Txt K mg A) : FnOk P w K mg base CX0 1 A.f_law_taken A.d_law_taken ["_law_row", "_law_many"] (spM K 2 (phi_law_taken)) :=
  FnOk.data (fn_ok (N := N_law_taken) (s_law_taken) T.F_law_taken sc_law_taken fun cdv Ar outer s H E hr =>
    (jss_cons (js_if (jt_cmp op_gt ok_gt (je_ix ix_seq ok_ix (je_bor (pv 0)) (je_int pe_int) (fun _ _ => rfl)) (je_int pe_int) (nomark _)) (jss_cons (js_asgN (ps_set (i := 2) sc_law_taken.nd rfl (by first | exact Or.inl rfl | exact Or.inr rfl) (je_op op_mod ok_mod (je_ix ix_seq ok_ix (je_bor (pv 0)) (je_int pe_int) (fun _ _ => rfl)) (je_bor (pv 1)))))
    (jss_cons (js_upd ok_setL (ps_asg (je_op op_fdiv ok_div (je_ix ix_seq ok_ix (je_bor (pv 0)) (je_int pe_int) (fun _ _ => rfl)) (je_bor (pv 1))) (pg_sub (je_bor (pv 0)) (je_int pe_int) set_list)))
    (jss_cons (js_ret (je_var (pv 2)))
    jss_nil))) jss_nil)
    (jss_cons (js_upd ok_setL (ps_asg (je_op op_addA ok_add (je_ix ix_seq ok_ix (je_bor (pv 0)) (je_int pe_int) (fun _ _ => rfl)) (je_int pe_int)) (pg_sub (je_bor (pv 0)) (je_int pe_int) set_list)))
    (jss_cons (js_if (jt_cmp op_gt ok_gt (je_ix ix_seq ok_ix (je_bor (pv 0)) (je_int pe_int) (fun _ _ => rfl)) (je_bi ok_len (pe_callB call_len (by rfl) T.bn_len (by decide +kernel) (ja_cons (je_ix ix_seq ok_ix (je_bor (pv 0)) (je_int pe_int) (fun _ _ => rfl)) ja_nil))) (nomark _)) (jss_cons (js_upd ok_setL (ps_asg (je_op op_mod ok_mod (je_op op_addA ok_add (je_op op_mulA ok_mul (je_ix ix_seq ok_ix (je_bor (pv 0)) (je_int pe_int) (fun _ _ => rfl)) (je_int pe_int)) (je_int pe_int)) (je_int pe_int)) (pg_sub (je_bor (pv 0)) (je_int pe_int) set_list)))
    (jss_cons (js_ret (je_op op_mod ok_mod (je_op op_fdiv ok_div (je_ix ix_seq ok_ix (je_bor (pv 0)) (je_int pe_int) (fun _ _ => rfl)) (je_int pe_int)) (je_bor (pv 1))))
    jss_nil)) jss_nil)
    (jss_cons (js_asgN (ps_set (i := 3) sc_law_taken.nd rfl (by first | exact Or.inl rfl | exact Or.inr rfl) (je_ix ix_seq ok_ix (je_ix ix_seq ok_ix (je_bor (pv 0)) (je_int pe_int) (fun _ _ => rfl)) (je_op op_sub ok_sub (je_ix ix_seq ok_ix (je_bor (pv 0)) (je_int pe_int) (fun _ _ => rfl)) (je_int pe_int)) (fun _ _ => rfl))))
    (jss_cons (js_upd ok_setL (ps_asg (je_op op_mod ok_mod (je_op op_addA ok_add (je_op op_addA ok_add (je_op op_mulA ok_mul (je_ix ix_seq ok_ix (je_bor (pv 0)) (je_int pe_int) (fun _ _ => rfl)) (je_int pe_int)) (je_bor (pv 3))) (je_int pe_int)) (je_int pe_int)) (pg_sub (je_bor (pv 0)) (je_int pe_int) set_list)))
    (jss_cons (js_if (jt_cmp op_ge ok_ge (je_bor (pv 3)) (je_op op_pow ok_pow (je_int pe_int) (je_int pe_int)) (nomark _)) (jss_cons (js_upd ok_setL (ps_asg (je_op op_fdiv ok_div (je_bor (pv 3)) (je_bor (pv 1))) (pg_sub (je_bor (pv 0)) (je_int pe_int) set_list)))
    jss_nil) jss_nil)
    (jss_cons (js_ret (je_op op_mod ok_mod (je_bor (pv 3)) (je_bor (pv 1))))
    jss_nil)))))))) (phi_law_taken_ok)
theorem sc_is_number : FnScope N_is_number ["thing", "low", "high"] (defScope st_is_number) := ⟨rfl, rfl, rfl, by decide +kernel, rfl, by decide +kernel, by decide +kernel⟩
theorem ok_is_number (T : Txt K mg A) : FnOk P w K mg base CX0 1 A.f_is_number A.d_is_number ["thing", "low", "high"] (spM K 3 (phi_is_number)) :=
  FnOk.data (fn_ok (N := N_is_number) (s_is_number) T.F_is_number sc_is_number fun cdv Ar outer s H E hr =>
    (jss_cons (js_ret (je_and (je_isi (by decide) (pe_callB call_isi (by rfl) T.bn_isinstance (by decide +kernel) (pa_cons (je_bor (pv 0)) (pa_cons (pe_bltn (by rfl) T.bn_int (by decide +kernel) rfl) pa_nil)))) (je_and (je_not (je_isi (by decide) (pe_callB call_isi (by rfl) T.bn_isinstance (by decide +kernel) (pa_cons (je_bor (pv 0)) (pa_cons (pe_bltn (by rfl) T.bn_bool (by decide +kernel) rfl) pa_nil))))) (je_one (je_chain op_le op_le ok_le ok_le (je_bor (pv 1)) (je_bor (pv 0)) (je_bor (pv 2)))))))
    jss_nil)) (phi_is_number_ok)
theorem sc_is_name : FnScope N_is_name ["thing"] (defScope st_is_name) := ⟨rfl, rfl, rfl, by decide +kernel, rfl, by decide +kernel, by decide +kernel⟩
theorem ok_is_name (T : Txt K mg A) : FnOk P w K mg base CX0 1 A.f_is_name A.d_is_name ["thing"] (spM K 1 (phi_is_name)) :=
  FnOk.data (fn_ok (N := N_is_name) (s_is_name) T.F_is_name sc_is_name fun cdv Ar outer s H E hr =>
    (jss_cons (js_ret (je_and (je_isi (by decide) (pe_callB call_isi (by rfl) T.bn_isinstance (by decide +kernel) (pa_cons (je_bor (pv 0)) (pa_cons (pe_bltn (by rfl) T.bn_str (by decide +kernel) rfl) pa_nil)))) (je_and (je_chain op_le op_le ok_le ok_le (je_int pe_int) (je_bi ok_len (pe_callB call_len (by rfl) T.bn_len (by decide +kernel) (ja_cons (je_bor (pv 0)) ja_nil))) (je_int (pe_glob (by rfl) T.c_MOST_LETTERS ⟨_, rfl⟩))) (je_one (je_bi ok_all (pe_callB (cr_all rfl) (by rfl) T.bn_all (by decide +kernel) (ja_cons (JL.frz (jl_comp (own := [("sign", 1)]) rfl sc_is_name.nd (ji_str (je_bor (pv 0))) (blkOk_by (own := [("sign", 1)]) (N := N_is_name) (sc := defScope st_is_name) (by decide +kernel)) (fun _ _ _ _ _ => (jg_name (pg_name (i := 1) sc_is_name.nd rfl (by first | exact Or.inl rfl | exact Or.inr rfl)))) (fun _ _ _ _ _ => jts_nil) (fun _ _ _ _ _ => (je_cmp op_in_sign ok_inS (je_bor (pv 1)) (je_str (pe_glob (by rfl) T.c_LETTERS ⟨_, rfl⟩)) (by rfl)))) comp_isL) ja_nil)))))))
    jss_nil)) (phi_is_name_ok)
theorem sc_are_steps : FnScope N_are_steps ["steps"] (defScope st_are_steps) := ⟨rfl, rfl, rfl, by decide +kernel, rfl, by decide +kernel, by decide +kernel⟩
theorem ok_are_steps (T : Txt K mg A) : FnOk P w K mg base CX0 2 A.f_are_steps A.d_are_steps ["steps"] (spM K 1 (phi_are_steps)) :=
  FnOk.data (fn_ok (N := N_are_steps) (s_are_steps) T.F_are_steps sc_are_steps fun cdv Ar outer s H E hr =>
    (jss_cons (js_if (PW.pt (jw_or (jt_not (jt_val (je_isi (by decide) (pe_callB call_isi (by rfl) T.bn_isinstance (by decide +kernel) (pa_cons (je_bor (pv 0)) (pa_cons (pe_bltn (by rfl) T.bn_tuple (by decide +kernel) rfl) pa_nil)))))) (jw_or1 (jt_not (jt_chain op_le op_le ok_le ok_le (je_int pe_int) (je_bi ok_len (pe_callB call_len (by rfl) T.bn_len (by decide +kernel) (ja_cons (je_bor (pv 0)) ja_nil))) (je_int (pe_glob (by rfl) T.c_MOST_STEPS ⟨_, rfl⟩))))))) (jss_cons (js_ret (je_bl pe_bl))
    jss_nil) jss_nil)
    (jss_cons (js_asgN (ps_set (i := 1) sc_are_steps.nd rfl (by first | exact Or.inl rfl | exact Or.inr rfl) (je_int pe_int)))
    (jss_cons (js_for (ps_for PassesOwn.never rfl (ji_enum (by rfl) T.bn_enumerate (je_var (pv 0))) (jg_tup rfl (jgs_cons (jg_name (pg_name (i := 2) sc_are_steps.nd rfl (by first | exact Or.inl rfl | exact Or.inr rfl))) (jgs_cons (jg_name (pg_name (i := 3) sc_are_steps.nd rfl (by first | exact Or.inl rfl | exact Or.inr rfl))) jgs_nil))) (jss_cons (js_if (PW.pt (jw_or (jt_not (jt_val (je_isi (by decide) (pe_callB call_isi (by rfl) T.bn_isinstance (by decide +kernel) (pa_cons (je_bor (pv 3)) (pa_cons (pe_bltn (by rfl) T.bn_tuple (by decide +kernel) rfl) pa_nil)))))) (jw_or (jt_cmp (op_neA hr.units) ok_ne (je_bi ok_len (pe_callB call_len (by rfl) T.bn_len (by decide +kernel) (ja_cons (je_bor (pv 3)) ja_nil))) (je_int pe_int) (nomark _)) (jw_or1 (jt_not (jt_val (je_fn rfl (pe_call (ok_is_number T) (hr.mono (by decide)) (by rfl) T.g_is_number T.F_is_number.kp T.b_is_number .nil pass0 (ja_cons (je_ix ix_seq ok_ix (je_bor (pv 3)) (je_int pe_int) (fun _ _ => rfl)) (ja_cons (je_int pe_int) (ja_cons (je_int (pe_glob (by rfl) T.c_MOST_PRICE ⟨_, rfl⟩)) ja_nil))))))))))) (jss_cons (js_ret (je_bl pe_bl))
    jss_nil) jss_nil)
    (jss_cons (js_if (jt_cmp (op_eqA hr.units) ok_eq (je_bor (pv 2)) (je_op op_sub ok_sub (je_bi ok_len (pe_callB call_len (by rfl) T.bn_len (by decide +kernel) (ja_cons (je_bor (pv 0)) ja_nil))) (je_int pe_int)) (nomark _)) (jss_cons (js_ret (je_cmp op_isN ok_is (je_ix ix_seq ok_ix (je_bor (pv 3)) (je_int pe_int) (fun _ _ => rfl)) (je_non pe_non) (nomark _)))
    jss_nil) jss_nil)
    (jss_cons (js_if (jt_not (jt_val (je_fn rfl (pe_call (ok_is_number T) (hr.mono (by decide)) (by rfl) T.g_is_number T.F_is_number.kp T.b_is_number .nil pass0 (ja_cons (je_ix ix_seq ok_ix (je_bor (pv 3)) (je_int pe_int) (fun _ _ => rfl)) (ja_cons (je_op op_addA ok_add (je_bor (pv 1)) (je_int pe_int)) (ja_cons (je_int (pe_glob (by rfl) T.c_MOST_UNITS ⟨_, rfl⟩)) ja_nil))))))) (jss_cons (js_ret (je_bl pe_bl))
    jss_nil) jss_nil)
    (jss_cons (js_asgN (ps_set (i := 1) sc_are_steps.nd rfl (by first | exact Or.inl rfl | exact Or.inr rfl) (je_ix ix_seq ok_ix (je_bor (pv 3)) (je_int pe_int) (fun _ _ => rfl))))
    jss_nil))))))
    (jss_cons (js_ret (je_bl pe_bl))
    jss_nil))))) (phi_are_steps_ok)
theorem sc_is_plan : FnScope N_is_plan ["plan", "names"] (defScope st_is_plan) := ⟨rfl, rfl, rfl, by decide +kernel, rfl, by decide +kernel, by decide +kernel⟩
theorem ok_is_plan (T : Txt K mg A) : FnOk P w K mg base CX0 3 A.f_is_plan A.d_is_plan ["plan", "names"] (spM K 2 (phi_is_plan)) :=
  FnOk.data (fn_ok (N := N_is_plan) (s_is_plan) T.F_is_plan sc_is_plan fun cdv Ar outer s H E hr =>
    (jss_cons (js_if (PW.pt (jw_or (jt_not (jt_val (je_isi (by decide) (pe_callB call_isi (by rfl) T.bn_isinstance (by decide +kernel) (pa_cons (je_bor (pv 0)) (pa_cons (pe_bltn (by rfl) T.bn_tuple (by decide +kernel) rfl) pa_nil)))))) (jw_or (jt_cmp (op_neA hr.units) ok_ne (je_bi ok_len (pe_callB call_len (by rfl) T.bn_len (by decide +kernel) (ja_cons (je_bor (pv 0)) ja_nil))) (je_int pe_int) (nomark _)) (jw_or (jt_not (jt_val (je_fn rfl (pe_call (ok_is_name T) (hr.mono (by decide)) (by rfl) T.g_is_name T.F_is_name.kp T.b_is_name .nil pass0 (ja_cons (je_ix ix_seq ok_ix (je_bor (pv 0)) (je_int pe_int) (fun _ _ => rfl)) ja_nil))))) (jw_or1 (jt_dIn (hu_of hr) (je_ix ix_seq ok_ix (je_bor (pv 0)) (je_int pe_int) (fun _ _ => rfl)) (je_bor (pv 1)))))))) (jss_cons (js_ret (je_bl pe_bl))
    jss_nil) jss_nil)
    (jss_cons (js_if (PW.pt (jw_or (jt_not (jt_val (je_fn rfl (pe_call (ok_are_steps T) (hr.mono (by decide)) (by rfl) T.g_are_steps T.F_are_steps.kp T.b_are_steps .nil pass0 (ja_cons (je_ix ix_seq ok_ix (je_bor (pv 0)) (je_int pe_int) (fun _ _ => rfl)) ja_nil))))) (jw_or1 (jt_not (jt_val (je_fn rfl (pe_call (ok_is_number T) (hr.mono (by decide)) (by rfl) T.g_is_number T.F_is_number.kp T.b_is_number .nil pass0 (ja_cons (je_ix ix_seq ok_ix (je_bor (pv 0)) (je_int pe_int) (fun _ _ => rfl)) (ja_cons (je_int pe_int) (ja_cons (je_int (pe_glob (by rfl) T.c_MOST_FEE ⟨_, rfl⟩)) ja_nil)))))))))) (jss_cons (js_ret (je_bl pe_bl))
    jss_nil) jss_nil)
    (jss_cons (js_ret (je_or (je_cmp op_isN ok_is (je_ix ix_seq ok_ix (je_bor (pv 0)) (je_int pe_int) (fun _ _ => rfl)) (je_non pe_non) (nomark _)) (je_one (je_fn rfl (pe_call (ok_is_number T) (hr.mono (by decide)) (by rfl) T.g_is_number T.F_is_number.kp T.b_is_number .nil pass0 (ja_cons (je_ix ix_seq ok_ix (je_bor (pv 0)) (je_int pe_int) (fun _ _ => rfl)) (ja_cons (je_int pe_int) (ja_cons (je_int (pe_glob (by rfl) T.c_MOST_CAP ⟨_, rfl⟩)) ja_nil))))))))
    jss_nil)))) (phi_is_plan_ok)
theorem sc_need_plans : FnScope N_need_plans ["plans"] (defScope st_need_plans) := ⟨rfl, rfl, rfl, by decide +kernel, rfl, by decide +kernel, by decide +kernel⟩
theorem ok_need_plans (T : Txt K mg A) : FnOk P w K mg base CX0 4 A.f_need_plans A.d_need_plans ["plans"] (spM K 1 (phi_need_plans)) :=
  FnOk.data (fn_ok (N := N_need_plans) (s_need_plans) T.F_need_plans sc_need_plans fun cdv Ar outer s H E hr =>
    (jss_cons (js_if (PW.pt (jw_or (jt_not (jt_val (je_isi (by decide) (pe_callB call_isi (by rfl) T.bn_isinstance (by decide +kernel) (pa_cons (je_bor (pv 0)) (pa_cons (pe_bltn (by rfl) T.bn_tuple (by decide +kernel) rfl) pa_nil)))))) (jw_or1 (jt_cmp (op_eqA hr.units) ok_eq (je_bor (pv 0)) (je_tup ja_nil) (nomark _))))) (jss_cons js_never
    jss_nil) jss_nil)
    (jss_cons (js_asgN (ps_set (i := 1) sc_need_plans.nd rfl (by first | exact Or.inl rfl | exact Or.inr rfl) je_newK))
    (jss_cons (js_for (ps_for PassesOwn.never rfl (ji_enum (by rfl) T.bn_enumerate (je_var (pv 0))) (jg_tup rfl (jgs_cons (jg_name (pg_name (i := 2) sc_need_plans.nd rfl (by first | exact Or.inl rfl | exact Or.inr rfl))) (jgs_cons (jg_name (pg_name (i := 3) sc_need_plans.nd rfl (by first | exact Or.inl rfl | exact Or.inr rfl))) jgs_nil))) (jss_cons (js_if (PW.pt (jw_or (jt_cmp (op_eqA hr.units) ok_eq (je_bor (pv 2)) (je_int (pe_glob (by rfl) T.c_MOST_PLANS ⟨_, rfl⟩)) (nomark _)) (jw_or1 (jt_not (jt_val (je_fn rfl (pe_call (ok_is_plan T) (hr.mono (by decide)) (by rfl) T.g_is_plan T.F_is_plan.kp T.b_is_plan .nil pass0 (ja_cons (je_var (pv 3)) (ja_cons (je_var (pv 1)) ja_nil))))))))) (jss_cons js_never
    jss_nil) jss_nil)
    (jss_cons (js_upd ok_setDict (ps_dput (hu_of hr) (je_bor (pv 1)) (je_ix ix_seq ok_ix (je_bor (pv 3)) (je_int pe_int) (fun _ _ => rfl)) (je_var (pv 2)) rfl))
    jss_nil))))
    jss_nil)))) (phi_need_plans_ok)
theorem sc_House_init : FnScope N_House_init ["self", "plans", "grace"] (defScope st_House_init) := ⟨rfl, rfl, rfl, by decide +kernel, rfl, by decide +kernel, by decide +kernel⟩
theorem ok_House_init (T : Txt K mg A) : FnOk P w K mg base CX0 5 A.f_House_init A.d_House_init ["self", "plans", "grace"] (spM K 3 (phi_House_init A.cH)) :=
  FnOk.data (fn_ok (N := N_House_init) (s_House_init A.cH) T.F_House_init sc_House_init fun cdv Ar outer s H E hr =>
    (jss_cons (js_expr (ps_expr (je_fn rfl (pe_call (ok_need_plans T) (hr.mono (by decide)) (by rfl) T.g_need_plans T.F_need_plans.kp T.b_need_plans .nil pass0 (ja_cons (je_var (pv 1)) ja_nil)))))
    (jss_cons (js_if (jt_not (jt_val (je_fn rfl (pe_call (ok_is_number T) (hr.mono (by decide)) (by rfl) T.g_is_number T.F_is_number.kp T.b_is_number .nil pass0 (ja_cons (je_var (pv 2)) (ja_cons (je_int pe_int) (ja_cons (je_int (pe_glob (by rfl) T.c_MOST_GRACE ⟨_, rfl⟩)) ja_nil))))))) (jss_cons js_never
    jss_nil) jss_nil)
    (jss_cons (js_setF T.cl_House T.na_plans (ps_fld (je_bor (pv 0)) (je_dcomp (own := [("plan", 3)]) rfl sc_House_init.nd (ji_seq (je_bor (pv 1))) (blkOk_by (own := [("plan", 3)]) (N := N_House_init) (sc := defScope st_House_init) (by decide +kernel)) (fun _ _ _ _ _ => (jg_name (pg_name (i := 3) sc_House_init.nd rfl (by first | exact Or.inl rfl | exact Or.inr rfl)))) (fun _ _ _ _ _ => jts_nil) (fun _ _ _ _ _ => (je_ix ix_seq ok_ix (je_bor (pv 3)) (je_int pe_int) (fun _ _ => rfl))) (fun _ _ _ _ _ => (je_var (pv 3)))) rfl))
    (jss_cons (js_setF T.cl_House T.na_grace (ps_fld (je_bor (pv 0)) (je_var (pv 2)) rfl))
    (jss_cons (js_setF T.cl_House T.na_today (ps_fld (je_bor (pv 0)) (je_int pe_int) rfl))
    (jss_cons (js_setF T.cl_House T.na_takes (ps_fld (je_bor (pv 0)) je_newT rfl))
    (jss_cons (js_setF T.cl_House T.na_measures (ps_fld (je_bor (pv 0)) (je_cell (jl_lst ja_nil)) rfl))
    (jss_cons (js_setF T.cl_House T.na_credits (ps_fld (je_bor (pv 0)) (je_cell (jl_lst ja_nil)) rfl))
    (jss_cons (js_setF T.cl_House T.na_bills (ps_fld (je_bor (pv 0)) (je_cell (jl_lst ja_nil)) rfl))
    (jss_cons (js_setF T.cl_House T.na_rows (ps_fld (je_bor (pv 0)) (je_cell (jl_lst ja_nil)) rfl))
    (jss_cons (js_setF T.cl_House T.na_many (ps_fld (je_bor (pv 0)) (je_int pe_int) rfl))
    (jss_cons (js_setF T.cl_House T.na_book (ps_fld (je_bor (pv 0)) (je_cell (jl_lst ja_nil)) rfl))
    (jss_cons (js_setF T.cl_House T.na_underway (ps_fld (je_bor (pv 0)) (je_int pe_int) rfl))
    jss_nil)))))))))))))) (phi_House_init_ok A.cH)
theorem sc_House_need_day : FnScope N_House_need_day ["self", "day"] (defScope st_House_need_day) := ⟨rfl, rfl, rfl, by decide +kernel, rfl, by decide +kernel, by decide +kernel⟩
theorem ok_House_need_day (T : Txt K mg A) : FnOk P w K mg base CX0 2 A.f_House_need_day A.d_House_need_day ["self", "day"] (spM K 2 (phi_House_need_day A.cH)) :=
  FnOk.data (fn_ok (N := N_House_need_day) (s_House_need_day A.cH) T.F_House_need_day sc_House_need_day fun cdv Ar outer s H E hr =>
    (jss_cons (js_if (jt_not (jt_val (je_fn rfl (pe_call (ok_is_number T) (hr.mono (by decide)) (by rfl) T.g_is_number T.F_is_number.kp T.b_is_number .nil pass0 (ja_cons (je_var (pv 1)) (ja_cons (je_fld T.cl_House T.na_today (pe_fld (je_bor (pv 0)) rfl)) (ja_cons (je_op op_addA ok_add (je_int (pe_glob (by rfl) T.c_YEAR ⟨_, rfl⟩)) (je_op op_mulA ok_mul (je_int (pe_glob (by rfl) T.c_MONTH ⟨_, rfl⟩)) (je_int pe_int))) ja_nil))))))) (jss_cons js_never
    jss_nil) jss_nil)
    jss_nil)) (phi_House_need_day_ok A.cH)
theorem sc_House_need_names : FnScope N_House_need_names ["self", "names"] (defScope st_House_need_names) := ⟨rfl, rfl, rfl, by decide +kernel, rfl, by decide +kernel, by decide +kernel⟩
theorem ok_House_need_names (T : Txt K mg A) : FnOk P w K mg base CX0 2 A.f_House_need_names A.d_House_need_names ["self", "names"] (spM K 2 (phi_House_need_names)) :=
  FnOk.data (fn_ok (N := N_House_need_names) (s_House_need_names) T.F_House_need_names sc_House_need_names fun cdv Ar outer s H E hr =>
    (jss_cons (js_if (jt_not (jt_val (je_bi ok_all (pe_callB (cr_all rfl) (by rfl) T.bn_all (by decide +kernel) (ja_cons (JL.frz (jl_comp (own := [("name", 2)]) rfl sc_House_need_names.nd (ji_seq (je_bor (pv 1))) (blkOk_by (own := [("name", 2)]) (N := N_House_need_names) (sc := defScope st_House_need_names) (by decide +kernel)) (fun _ _ _ _ _ => (jg_name (pg_name (i := 2) sc_House_need_names.nd rfl (by first | exact Or.inl rfl | exact Or.inr rfl)))) (fun _ _ _ _ _ => jts_nil) (fun _ _ _ _ _ => (je_fn rfl (pe_call (ok_is_name T) (hr.mono (by decide)) (by rfl) T.g_is_name T.F_is_name.kp T.b_is_name .nil pass0 (ja_cons (je_var (pv 2)) ja_nil))))) comp_isL) ja_nil))))) (jss_cons js_never
    jss_nil) jss_nil)
    jss_nil)) (phi_House_need_names_ok)
theorem sc_House_done : FnScope N_House_done ["self", "day", "row"] (defScope st_House_done) := ⟨rfl, rfl, rfl, by decide +kernel, rfl, by decide +kernel, by decide +kernel⟩
theorem ok_House_done (T : Txt K mg A) : FnOk P w K mg base CX0 1 A.f_House_done A.d_House_done ["self", "day", "row"] (spM K 3 (phi_House_done A.cH)) :=
  FnOk.data (fn_ok (N := N_House_done) (s_House_done A.cH) T.F_House_done sc_House_done fun cdv Ar outer s H E hr =>
    (jss_cons (js_setF T.cl_House T.na_today (ps_fld (je_bor (pv 0)) (je_var (pv 1)) rfl))
    (jss_cons (js_expr (ps_expr (je_bm ok_app (pe_bm PySem.F.plainAttrs_list PySem.F.slot_list_append PySem.F.type_list_append mt_append (je_fld T.cl_House T.na_rows (pe_fld (je_bor (pv 0)) rfl)) (ja_cons (je_var (pv 2)) ja_nil)))))
    (jss_cons (js_augF T.cl_House T.na_many ok_inadd (ps_fldaug (je_bor (pv 0)) (je_int pe_int) in_add))
    jss_nil)))) (phi_House_done_ok A.cH)
theorem sc_House_take : FnScope N_House_take ["self", "today", "client", "thing", "plan"] (defScope st_House_take) := ⟨rfl, rfl, rfl, by decide +kernel, rfl, by decide +kernel, by decide +kernel⟩
theorem ok_House_take (T : Txt K mg A) : FnOk P w K mg base CX0 3 A.f_House_take A.d_House_take ["self", "today", "client", "thing", "plan"] (spM K 5 (phi_House_take A.cH)) :=
  FnOk.data (fn_ok (N := N_House_take) (s_House_take A.cH) T.F_House_take sc_House_take fun cdv Ar outer s H E hr =>
    (jss_cons (js_expr (ps_expr (je_meth rfl (pe_meth (je_bor (pv 0)) T.cl_House T.me_need_day (ok_House_need_day T) (hr.mono (by decide)) T.b_House_need_day .nil pass0 (ja_cons (je_var (pv 1)) ja_nil)))))
    (jss_cons (js_if (jt_cmp op_ge ok_ge (je_bor (pv 1)) (je_int (pe_glob (by rfl) T.c_YEAR ⟨_, rfl⟩)) (nomark _)) (jss_cons js_never
    jss_nil) jss_nil)
    (jss_cons (js_expr (ps_expr (je_meth rfl (pe_meth (je_bor (pv 0)) T.cl_House T.me_need_names (ok_House_need_names T) (hr.mono (by decide)) T.b_House_need_names .nil pass0 (ja_cons (JL.frz (jl_lst (ja_cons (je_var (pv 2)) (ja_cons (je_var (pv 3)) ja_nil))) lst_isL) ja_nil)))))
    (jss_cons (js_if (PW.pt (jw_or (jt_not (jt_val (je_isi (by decide) (pe_callB call_isi (by rfl) T.bn_isinstance (by decide +kernel) (pa_cons (je_bor (pv 4)) (pa_cons (pe_bltn (by rfl) T.bn_str (by decide +kernel) rfl) pa_nil)))))) (jw_or1 (jt_dNotIn (hu_of hr) (je_var (pv 4)) (je_fld T.cl_House T.na_plans (pe_fld (je_bor (pv 0)) rfl)))))) (jss_cons js_never
    jss_nil) jss_nil)
    (jss_cons (js_own (ps_setLc (i := 5) rfl sc_House_take.nd rfl rfl (sw_true rfl rfl rfl (by decide +kernel)) (ji_seq (je_dGet2 (hu_of hr) (je_fld T.cl_House T.na_takes (pe_fld (je_bor (pv 0)) rfl)) (je_tup (ja_cons (je_var (pv 2)) (ja_cons (je_var (pv 3)) ja_nil))) (JL.frz (jl_lst ja_nil) lst_isL) ⟨rfl, rfl, rfl, rfl⟩)) (blkOk_by (own := [("one", 6)]) (N := N_House_take) (sc := defScope st_House_take) (by decide +kernel)) (fun _ _ _ _ _ => (jg_name (pg_name (i := 6) sc_House_take.nd rfl (by first | exact Or.inl rfl | exact Or.inr rfl)))) (fun _ _ _ _ _ => (jts_one (jt_cmp op_lt ok_lt (je_ix ix_seq ok_ix (je_bor (pv 6)) (je_int pe_int) (fun _ _ => rfl)) (je_bor (pv 1)) (nomark _)))) (fun _ _ _ _ _ => (je_var (pv 6)))) (fun _ _ _ h => tLc_of h))
    (jss_cons (js_if (PW.pt (jw_or (jt_cmp (op_eqA hr.units) ok_eq (je_bor (pv 5)) (JL.frz (jl_lst ja_nil) lst_isL) (nomark _)) (jw_or1 (jt_cmp (op_neA hr.units) ok_ne (je_ix ix_seq ok_ix (je_ix ix_seq ok_ix (je_bor (pv 5)) (je_neg (je_int pe_int)) (fun _ _ => rfl)) (je_int pe_int) (fun _ _ => rfl)) (je_bor (pv 4)) (nomark _))))) (jss_cons (js_expr (ps_expr (je_bm ok_app (pe_bm PySem.F.plainAttrs_list PySem.F.slot_list_append PySem.F.type_list_append mt_append (je_bor (pv 5)) (ja_cons (je_tup (ja_cons (je_var (pv 1)) (ja_cons (je_var (pv 4)) ja_nil))) ja_nil)))))
    jss_nil) jss_nil)
    (jss_cons (js_upd ok_setDict (ps_dput (hu_of hr) (je_fld T.cl_House T.na_takes (pe_fld (je_bor (pv 0)) rfl)) (je_tup (ja_cons (je_var (pv 2)) (ja_cons (je_var (pv 3)) ja_nil))) (je_var (pv 5)) rfl))
    (jss_cons (js_expr (ps_expr (je_methK2 (n := 1) (q := 1) rfl rfl rfl (pe_methK (ks := ["row"]) (je_bor (pv 0)) T.cl_House T.me_done (ok_House_done T) (hr.mono (by decide)) T.b_House_done pass0 (ja_cons (je_var (pv 1)) ja_nil) (jk_cons (je_tup (ja_cons (je_str pe_str) (ja_cons (je_var (pv 1)) (ja_cons (je_var (pv 2)) (ja_cons (je_var (pv 3)) (ja_cons (je_var (pv 4)) ja_nil)))))) jk_nil)))))
    jss_nil))))))))) (phi_House_take_ok A.cH)
theorem sc_Measure_init : FnScope N_Measure_init ["self", "client", "thing", "day", "units", "told_on"] (defScope st_Measure_init) := ⟨rfl, rfl, rfl, by decide +kernel, rfl, by decide +kernel, by decide +kernel⟩
theorem ok_Measure_init (T : Txt K mg A) : FnOk P w K mg base CX0 1 A.f_Measure_init A.d_Measure_init ["self", "client", "thing", "day", "units", "told_on"] (spM K 6 (phi_Measure_init A.cM)) :=
  FnOk.data (fn_ok (N := N_Measure_init) (s_Measure_init A.cM) T.F_Measure_init sc_Measure_init fun cdv Ar outer s H E hr =>
    (jss_cons (js_setF T.cl_Measure T.na_client (ps_fld (je_bor (pv 0)) (je_var (pv 1)) rfl))
    (jss_cons (js_setF T.cl_Measure T.na_thing (ps_fld (je_bor (pv 0)) (je_var (pv 2)) rfl))
    (jss_cons (js_setF T.cl_Measure T.na_day (ps_fld (je_bor (pv 0)) (je_var (pv 3)) rfl))
    (jss_cons (js_setF T.cl_Measure T.na_units (ps_fld (je_bor (pv 0)) (je_var (pv 4)) rfl))
    (jss_cons (js_setF T.cl_Measure T.na_told_on (ps_fld (je_bor (pv 0)) (je_var (pv 5)) rfl))
    (jss_cons (js_setF T.cl_Measure T.na_gone (ps_fld (je_bor (pv 0)) (je_non pe_non) rfl))
    jss_nil))))))) (phi_Measure_init_ok A.cM)
theorem sc_House_plan_on : FnScope N_House_plan_on ["self", "client", "thing", "day"] (defScope st_House_plan_on) := ⟨rfl, rfl, rfl, by decide +kernel, rfl, by decide +kernel, by decide +kernel⟩
theorem ok_House_plan_on (T : Txt K mg A) : FnOk P w K mg base CX0 1 A.f_House_plan_on A.d_House_plan_on ["self", "client", "thing", "day"] (spM K 4 (phi_House_plan_on A.cH)) :=
  FnOk.data (fn_ok (N := N_House_plan_on) (s_House_plan_on A.cH) T.F_House_plan_on sc_House_plan_on fun cdv Ar outer s H E hr =>
    (jss_cons (js_own (ps_setLc (i := 4) rfl sc_House_plan_on.nd rfl rfl (sw_true rfl rfl rfl (by decide +kernel)) (ji_seq (je_dGet2 (hu_of hr) (je_fld T.cl_House T.na_takes (pe_fld (je_bor (pv 0)) rfl)) (je_tup (ja_cons (je_var (pv 1)) (ja_cons (je_var (pv 2)) ja_nil))) (JL.frz (jl_lst ja_nil) lst_isL) ⟨rfl, rfl, rfl, rfl⟩)) (blkOk_by (own := [("begin", 5), ("name", 6)]) (N := N_House_plan_on) (sc := defScope st_House_plan_on) (by decide +kernel)) (fun _ _ _ _ _ => (jg_tup rfl (jgs_cons (jg_name (pg_name (i := 5) sc_House_plan_on.nd rfl (by first | exact Or.inl rfl | exact Or.inr rfl))) (jgs_cons (jg_name (pg_name (i := 6) sc_House_plan_on.nd rfl (by first | exact Or.inl rfl | exact Or.inr rfl))) jgs_nil)))) (fun _ _ _ _ _ => (jts_one (jt_cmp op_le ok_le (je_bor (pv 5)) (je_bor (pv 3)) (nomark _)))) (fun _ _ _ _ _ => (je_var (pv 6)))) (fun _ _ _ h => tLc_of h))
    (jss_cons (js_ret (je_ifx (jt_cmp (op_neA hr.units) ok_ne (je_bor (pv 4)) (JL.frz (jl_lst ja_nil) lst_isL) (nomark _)) (je_ix ix_seq ok_ix (je_bor (pv 4)) (je_neg (je_int pe_int)) (fun _ _ => rfl)) (je_non pe_non)))
    jss_nil))) (phi_House_plan_on_ok A.cH)
theorem sc_House_use : FnScope N_House_use ["self", "today", "client", "thing", "day", "units"] (defScope st_House_use) := ⟨rfl, rfl, rfl, by decide +kernel, rfl, by decide +kernel, by decide +kernel⟩
theorem ok_House_use (T : Txt K mg A) : FnOk P w K mg base CX0 3 A.f_House_use A.d_House_use ["self", "today", "client", "thing", "day", "units"] (spM K 6 (phi_House_use A.cH A.cM)) :=
  FnOk.data (fn_ok (N := N_House_use) (s_House_use A.cH A.cM) T.F_House_use sc_House_use fun cdv Ar outer s H E hr =>
    (jss_cons (js_expr (ps_expr (je_meth rfl (pe_meth (je_bor (pv 0)) T.cl_House T.me_need_day (ok_House_need_day T) (hr.mono (by decide)) T.b_House_need_day .nil pass0 (ja_cons (je_var (pv 1)) ja_nil)))))
    (jss_cons (js_expr (ps_expr (je_meth rfl (pe_meth (je_bor (pv 0)) T.cl_House T.me_need_names (ok_House_need_names T) (hr.mono (by decide)) T.b_House_need_names .nil pass0 (ja_cons (JL.frz (jl_lst (ja_cons (je_var (pv 2)) (ja_cons (je_var (pv 3)) ja_nil))) lst_isL) ja_nil)))))
    (jss_cons (js_if (PW.pt (jw_or (jt_not (jt_val (je_fn rfl (pe_call (ok_is_number T) (hr.mono (by decide)) (by rfl) T.g_is_number T.F_is_number.kp T.b_is_number .nil pass0 (ja_cons (je_var (pv 4)) (ja_cons (je_int pe_int) (ja_cons (je_bi ok_min2 (pe_callB (call_min2 rfl) (by rfl) T.bn_min (by decide +kernel) (ja_cons (je_bor (pv 1)) (ja_cons (je_op op_sub ok_sub (je_int (pe_glob (by rfl) T.c_YEAR ⟨_, rfl⟩)) (je_int pe_int)) ja_nil)))) ja_nil))))))) (jw_or1 (jt_cmp op_isN ok_is (je_meth rfl (pe_meth (je_bor (pv 0)) T.cl_House T.me_plan_on (ok_House_plan_on T) (hr.mono (by decide)) T.b_House_plan_on .nil pass0 (ja_cons (je_var (pv 2)) (ja_cons (je_var (pv 3)) (ja_cons (je_var (pv 4)) ja_nil))))) (je_non pe_non) (nomark _))))) (jss_cons js_never
    jss_nil) jss_nil)
    (jss_cons (js_if (jt_not (jt_val (je_fn rfl (pe_call (ok_is_number T) (hr.mono (by decide)) (by rfl) T.g_is_number T.F_is_number.kp T.b_is_number .nil pass0 (ja_cons (je_var (pv 5)) (ja_cons (je_int pe_int) (ja_cons (je_int (pe_glob (by rfl) T.c_MOST_UNITS ⟨_, rfl⟩)) ja_nil))))))) (jss_cons js_never
    jss_nil) jss_nil)
    (jss_cons (js_expr (ps_expr (je_bm ok_app (pe_bm PySem.F.plainAttrs_list PySem.F.slot_list_append PySem.F.type_list_append mt_append (je_fld T.cl_House T.na_measures (pe_fld (je_bor (pv 0)) rfl)) (ja_cons (je_make rfl (pe_make T.mk_Measure (ok_Measure_init T) (hr.mono (by decide)) (by rfl) T.gc_Measure T.b_Measure_init .nil pass0 (ja_cons (je_var (pv 2)) (ja_cons (je_var (pv 3)) (ja_cons (je_var (pv 4)) (ja_cons (je_var (pv 5)) (ja_cons (je_var (pv 1)) ja_nil))))))) ja_nil)))))
    (jss_cons (js_expr (ps_expr (je_methK2 (n := 1) (q := 1) rfl rfl rfl (pe_methK (ks := ["row"]) (je_bor (pv 0)) T.cl_House T.me_done (ok_House_done T) (hr.mono (by decide)) T.b_House_done pass0 (ja_cons (je_var (pv 1)) ja_nil) (jk_cons (je_tup (ja_cons (je_str pe_str) (ja_cons (je_var (pv 1)) (ja_cons (je_var (pv 2)) (ja_cons (je_var (pv 3)) (ja_cons (je_var (pv 4)) (ja_cons (je_var (pv 5)) ja_nil))))))) jk_nil)))))
    (jss_cons (js_ret (je_op op_sub ok_sub (je_bi ok_len (pe_callB call_len (by rfl) T.bn_len (by decide +kernel) (ja_cons (je_fld T.cl_House T.na_measures (pe_fld (je_bor (pv 0)) rfl)) ja_nil))) (je_int pe_int)))
    jss_nil)))))))) (phi_House_use_ok A.cH A.cM)
theorem sc_House_need_pair : FnScope N_House_need_pair ["self", "client", "thing"] (defScope st_House_need_pair) := ⟨rfl, rfl, rfl, by decide +kernel, rfl, by decide +kernel, by decide +kernel⟩
theorem ok_House_need_pair (T : Txt K mg A) : FnOk P w K mg base CX0 1 A.f_House_need_pair A.d_House_need_pair ["self", "client", "thing"] (spM K 3 (phi_House_need_pair A.cH)) :=
  FnOk.data (fn_ok (N := N_House_need_pair) (s_House_need_pair A.cH) T.F_House_need_pair sc_House_need_pair fun cdv Ar outer s H E hr =>
    (jss_cons (js_if (PW.pt (jw_or (jt_not (jt_val (je_isi (by decide) (pe_callB call_isi (by rfl) T.bn_isinstance (by decide +kernel) (pa_cons (je_bor (pv 1)) (pa_cons (pe_bltn (by rfl) T.bn_str (by decide +kernel) rfl) pa_nil)))))) (jw_or (jt_not (jt_val (je_isi (by decide) (pe_callB call_isi (by rfl) T.bn_isinstance (by decide +kernel) (pa_cons (je_bor (pv 2)) (pa_cons (pe_bltn (by rfl) T.bn_str (by decide +kernel) rfl) pa_nil)))))) (jw_or1 (jt_dNotIn (hu_of hr) (je_tup (ja_cons (je_var (pv 1)) (ja_cons (je_var (pv 2)) ja_nil))) (je_fld T.cl_House T.na_takes (pe_fld (je_bor (pv 0)) rfl))))))) (jss_cons js_never
    jss_nil) jss_nil)
    jss_nil)) (phi_House_need_pair_ok A.cH)
theorem sc_House_stretches : FnScope N_House_stretches ["self", "client", "thing", "month", "day"] (defScope st_House_stretches) := ⟨rfl, rfl, rfl, by decide +kernel, rfl, by decide +kernel, by decide +kernel⟩
theorem ok_House_stretches (T : Txt K mg A) : FnOk P w K mg base CX0 1 A.f_House_stretches A.d_House_stretches ["self", "client", "thing", "month", "day"] (spM K 5 (phi_House_stretches A.cH)) :=
  FnOk.data (fn_ok (N := N_House_stretches) (s_House_stretches A.cH) T.F_House_stretches sc_House_stretches fun cdv Ar outer s H E hr =>
    (jss_cons (js_asgN (ps_set (i := 5) sc_House_stretches.nd rfl (by first | exact Or.inl rfl | exact Or.inr rfl) (je_op op_mulA ok_mul (je_bor (pv 3)) (je_int (pe_glob (by rfl) T.c_MONTH ⟨_, rfl⟩)))))
    (jss_cons (js_own (ps_set (i := 6) sc_House_stretches.nd rfl (by first | exact Or.inl rfl | exact Or.inr rfl) (jl_lst ja_nil)) (fun _ _ _ h => h))
    (jss_cons (js_for (ps_for PassesOwn.never rfl (ji_seq (je_dGet2 (hu_of hr) (je_fld T.cl_House T.na_takes (pe_fld (je_bor (pv 0)) rfl)) (je_tup (ja_cons (je_var (pv 1)) (ja_cons (je_var (pv 2)) ja_nil))) (JL.frz (jl_lst ja_nil) lst_isL) ⟨rfl, rfl, rfl, rfl⟩)) (jg_tup rfl (jgs_cons (jg_name (pg_name (i := 7) sc_House_stretches.nd rfl (by first | exact Or.inl rfl | exact Or.inr rfl))) (jgs_cons (jg_name (pg_name (i := 8) sc_House_stretches.nd rfl (by first | exact Or.inl rfl | exact Or.inr rfl))) jgs_nil))) (jss_cons (js_if (PW.pt (jw_and (jt_cmp op_lt ok_lt (je_bor (pv 7)) (je_op op_addA ok_add (je_bor (pv 5)) (je_int (pe_glob (by rfl) T.c_MONTH ⟨_, rfl⟩))) (nomark _)) (jw_and1 (jt_cmp op_le ok_le (je_bor (pv 7)) (je_bor (pv 4)) (nomark _))))) (jss_cons (js_if (jt_cmp (op_neA hr.units) ok_ne (je_bor (pv 6)) (JL.frz (jl_lst ja_nil) lst_isL) (nomark _)) (jss_cons (js_upd ok_setL (ps_asg (je_op op_addA ok_add (je_sl01 (je_ix ix_seq ok_ix (je_bor (pv 6)) (je_neg (je_int pe_int)) (fun _ _ => rfl)) (je_int pe_int)) (je_tup (ja_cons (je_bi ok_max2 (pe_callB (call_max2 rfl) (by rfl) T.bn_max (by decide +kernel) (ja_cons (je_bor (pv 5)) (ja_cons (je_bor (pv 7)) ja_nil)))) ja_nil))) (pg_sub (je_bor (pv 6)) (je_neg (je_int pe_int)) set_list)))
    jss_nil) jss_nil)
    (jss_cons (js_expr (ps_expr (je_bm ok_app (pe_bm PySem.F.plainAttrs_list PySem.F.slot_list_append PySem.F.type_list_append mt_append (je_bor (pv 6)) (ja_cons (je_tup (ja_cons (je_var (pv 8)) (ja_cons (je_bi ok_max2 (pe_callB (call_max2 rfl) (by rfl) T.bn_max (by decide +kernel) (ja_cons (je_bor (pv 5)) (ja_cons (je_bor (pv 7)) ja_nil)))) (ja_cons (je_op op_addA ok_add (je_bor (pv 5)) (je_int (pe_glob (by rfl) T.c_MONTH ⟨_, rfl⟩))) ja_nil)))) ja_nil)))))
    jss_nil)) jss_nil)
    jss_nil)))
    (jss_cons (js_ret (JL.frz (jl_comp (own := [("one", 9)]) rfl sc_House_stretches.nd (ji_seq (je_bor (pv 6))) (blkOk_by (own := [("one", 9)]) (N := N_House_stretches) (sc := defScope st_House_stretches) (by decide +kernel)) (fun _ _ _ _ _ => (jg_name (pg_name (i := 9) sc_House_stretches.nd rfl (by first | exact Or.inl rfl | exact Or.inr rfl)))) (fun _ _ _ _ _ => (jts_one (jt_cmp op_lt ok_lt (je_ix ix_seq ok_ix (je_bor (pv 9)) (je_int pe_int) (fun _ _ => rfl)) (je_ix ix_seq ok_ix (je_bor (pv 9)) (je_int pe_int) (fun _ _ => rfl)) (nomark _)))) (fun _ _ _ _ _ => (je_var (pv 9)))) comp_isL))
    jss_nil))))) (phi_House_stretches_ok A.cH)
theorem sc_House_counts : FnScope N_House_counts ["self", "measure", "day"] (defScope st_House_counts) := ⟨rfl, rfl, rfl, by decide +kernel, rfl, by decide +kernel, by decide +kernel⟩
theorem ok_House_counts (T : Txt K mg A) : FnOk P w K mg base CX0 1 A.f_House_counts A.d_House_counts ["self", "measure", "day"] (spM K 3 (phi_House_counts A.cM)) :=
  FnOk.data (fn_ok (N := N_House_counts) (s_House_counts A.cM) T.F_House_counts sc_House_counts fun cdv Ar outer s H E hr =>
    (jss_cons (js_ret (je_and (je_cmp op_le ok_le (je_fld T.cl_Measure T.na_told_on (pe_fld (je_bor (pv 1)) rfl)) (je_bor (pv 2)) (nomark _)) (je_one (je_or (je_cmp op_isN ok_is (je_fld T.cl_Measure T.na_gone (pe_fld (je_bor (pv 1)) rfl)) (je_non pe_non) (nomark _)) (je_one (je_cmp op_gt ok_gt (je_fld T.cl_Measure T.na_gone (pe_fld (je_bor (pv 1)) rfl)) (je_bor (pv 2)) (nomark _)))))))
    jss_nil)) (phi_House_counts_ok A.cM)
theorem sc_share : FnScope N_share ["fee", "begin", "end"] (defScope st_share) := ⟨rfl, rfl, rfl, by decide +kernel, rfl, by decide +kernel, by decide +kernel⟩
theorem ok_share (T : Txt K mg A) : FnOk P w K mg base CX0 1 A.f_share A.d_share ["fee", "begin", "end"] (spM K 3 (phi_share)) :=
  FnOk.data (fn_ok (N := N_share) (s_share) T.F_share sc_share fun cdv Ar outer s H E hr =>
    (jss_cons (js_ret (je_op op_sub ok_sub (je_op op_fdiv ok_div (je_op op_mulA ok_mul (je_bor (pv 0)) (je_bor (pv 2))) (je_int (pe_glob (by rfl) T.c_MONTH ⟨_, rfl⟩))) (je_op op_fdiv ok_div (je_op op_mulA ok_mul (je_bor (pv 0)) (je_bor (pv 1))) (je_int (pe_glob (by rfl) T.c_MONTH ⟨_, rfl⟩)))))
    jss_nil)) (phi_share_ok)
theorem sc_by_steps : FnScope N_by_steps ["steps", "units"] (defScope st_by_steps) := ⟨rfl, rfl, rfl, by decide +kernel, rfl, by decide +kernel, by decide +kernel⟩
theorem ok_by_steps (T : Txt K mg A) : FnOk P w K mg base CX0 1 A.f_by_steps A.d_by_steps ["steps", "units"] (spM K 2 (phi_by_steps)) :=
  FnOk.data (fn_ok (N := N_by_steps) (s_by_steps) T.F_by_steps sc_by_steps fun cdv Ar outer s H E hr =>
    (jss_cons (js_own (ps_set (i := 2) sc_by_steps.nd rfl (by first | exact Or.inl rfl | exact Or.inr rfl) (jl_lst ja_nil)) (fun _ _ _ h => h))
    (jss_cons (js_asgN (ps_set (i := 3) sc_by_steps.nd rfl (by first | exact Or.inl rfl | exact Or.inr rfl) (je_int pe_int)))
    (jss_cons (js_for (ps_for PassesOwn.never rfl (ji_enum (by rfl) T.bn_enumerate (je_var (pv 0))) (jg_tup rfl (jgs_cons (jg_name (pg_name (i := 4) sc_by_steps.nd rfl (by first | exact Or.inl rfl | exact Or.inr rfl))) (jgs_cons (jg_tup rfl (jgs_cons (jg_name (pg_name (i := 5) sc_by_steps.nd rfl (by first | exact Or.inl rfl | exact Or.inr rfl))) (jgs_cons (jg_name (pg_name (i := 6) sc_by_steps.nd rfl (by first | exact Or.inl rfl | exact Or.inr rfl))) jgs_nil))) jgs_nil))) (jss_cons (js_asgN (ps_set (i := 7) sc_by_steps.nd rfl (by first | exact Or.inl rfl | exact Or.inr rfl) (je_ifx (jt_cmp op_isN ok_is (je_bor (pv 5)) (je_non pe_non) (nomark _)) (je_op op_sub ok_sub (je_bor (pv 1)) (je_bor (pv 3))) (je_op op_sub ok_sub (je_bi ok_min2 (pe_callB (call_min2 rfl) (by rfl) T.bn_min (by decide +kernel) (ja_cons (je_bor (pv 1)) (ja_cons (je_bor (pv 5)) ja_nil)))) (je_bor (pv 3))))))
    (jss_cons (js_if (jt_cmp op_gt ok_gt (je_bor (pv 7)) (je_int pe_int) (nomark _)) (jss_cons (js_expr (ps_expr (je_bm ok_app (pe_bm PySem.F.plainAttrs_list PySem.F.slot_list_append PySem.F.type_list_append mt_append (je_bor (pv 2)) (ja_cons (je_tup (ja_cons (je_var (pv 4)) (ja_cons (je_var (pv 7)) (ja_cons (je_var (pv 6)) (ja_cons (je_op op_mulA ok_mul (je_bor (pv 7)) (je_bor (pv 6))) ja_nil))))) ja_nil)))))
    jss_nil) jss_nil)
    (jss_cons (js_asgN (ps_set (i := 3) sc_by_steps.nd rfl (by first | exact Or.inl rfl | exact Or.inr rfl) (je_ifx (jt_cmp op_isN ok_is (je_bor (pv 5)) (je_non pe_non) (nomark _)) (je_var (pv 1)) (je_var (pv 5)))))
    jss_nil)))))
    (jss_cons (js_ret (je_var (pv 2)))
    jss_nil))))) (phi_by_steps_ok)
theorem sc_lines_by : FnScope N_lines_by ["plan", "begin", "end", "units"] (defScope st_lines_by) := ⟨rfl, rfl, rfl, by decide +kernel, rfl, by decide +kernel, by decide +kernel⟩
theorem ok_lines_by (T : Txt K mg A) : FnOk P w K mg base CX0 2 A.f_lines_by A.d_lines_by ["plan", "begin", "end", "units"] (spM K 4 (phi_lines_by)) :=
  FnOk.data (fn_ok (N := N_lines_by) (s_lines_by) T.F_lines_by sc_lines_by fun cdv Ar outer s H E hr =>
    (jss_cons (js_asg (ps_asg (je_var (pv 0)) (jg_tup rfl (jgs_cons (jg_name (pg_name (i := 4) sc_lines_by.nd rfl (by first | exact Or.inl rfl | exact Or.inr rfl))) (jgs_cons (jg_name (pg_name (i := 5) sc_lines_by.nd rfl (by first | exact Or.inl rfl | exact Or.inr rfl))) (jgs_cons (jg_name (pg_name (i := 6) sc_lines_by.nd rfl (by first | exact Or.inl rfl | exact Or.inr rfl))) (jgs_cons (jg_name (pg_name (i := 7) sc_lines_by.nd rfl (by first | exact Or.inl rfl | exact Or.inr rfl))) jgs_nil)))))))
    (jss_cons (js_own (ps_setLc (i := 8) rfl sc_lines_by.nd rfl rfl (sw_true rfl rfl rfl (by decide +kernel)) (ji_seq (je_fn rfl (pe_call (ok_by_steps T) (hr.mono (by decide)) (by rfl) T.g_by_steps T.F_by_steps.kp T.b_by_steps .nil pass0 (ja_cons (je_var (pv 5)) (ja_cons (je_var (pv 3)) ja_nil))))) (blkOk_by (own := [("one", 9)]) (N := N_lines_by) (sc := defScope st_lines_by) (by decide +kernel)) (fun _ _ _ _ _ => (jg_name (pg_name (i := 9) sc_lines_by.nd rfl (by first | exact Or.inl rfl | exact Or.inr rfl)))) (fun _ _ _ _ _ => jts_nil) (fun _ _ _ _ _ => (je_op op_addA ok_add (je_tup (ja_cons (je_str pe_str) (ja_cons (je_var (pv 4)) (ja_cons (je_var (pv 1)) (ja_cons (je_var (pv 2)) ja_nil))))) (je_bor (pv 9))))) (fun _ _ _ h => tLc_of h))
    (jss_cons (js_asgN (ps_set (i := 10) sc_lines_by.nd rfl (by first | exact Or.inl rfl | exact Or.inr rfl) (je_op op_mulA ok_mul (je_op op_fdiv ok_div (je_bor (pv 1)) (je_int (pe_glob (by rfl) T.c_MONTH ⟨_, rfl⟩))) (je_int (pe_glob (by rfl) T.c_MONTH ⟨_, rfl⟩)))))
    (jss_cons (js_asgN (ps_set (i := 11) sc_lines_by.nd rfl (by first | exact Or.inl rfl | exact Or.inr rfl) (je_fn rfl (pe_call (ok_share T) (hr.mono (by decide)) (by rfl) T.g_share T.F_share.kp T.b_share .nil pass0 (ja_cons (je_var (pv 6)) (ja_cons (je_op op_sub ok_sub (je_bor (pv 1)) (je_bor (pv 10))) (ja_cons (je_op op_sub ok_sub (je_bor (pv 2)) (je_bor (pv 10))) ja_nil)))))))
    (jss_cons (js_if (jt_cmp op_gt ok_gt (je_bor (pv 11)) (je_int pe_int) (nomark _)) (jss_cons (js_expr (ps_expr (je_bm ok_app (pe_bm PySem.F.plainAttrs_list PySem.F.slot_list_append PySem.F.type_list_append mt_append (je_bor (pv 8)) (ja_cons (je_tup (ja_cons (je_str pe_str) (ja_cons (je_var (pv 4)) (ja_cons (je_var (pv 1)) (ja_cons (je_var (pv 2)) (ja_cons (je_var (pv 11)) ja_nil)))))) ja_nil)))))
    jss_nil) jss_nil)
    (jss_cons (js_asgN (ps_set (i := 12) sc_lines_by.nd rfl (by first | exact Or.inl rfl | exact Or.inr rfl) (je_bi ok_sum (pe_callB (cr_sum rfl) (by rfl) T.bn_sum (by decide +kernel) (ja_cons (JL.frz (jl_comp (own := [("line", 13)]) rfl sc_lines_by.nd (ji_seq (je_bor (pv 8))) (blkOk_by (own := [("line", 13)]) (N := N_lines_by) (sc := defScope st_lines_by) (by decide +kernel)) (fun _ _ _ _ _ => (jg_name (pg_name (i := 13) sc_lines_by.nd rfl (by first | exact Or.inl rfl | exact Or.inr rfl)))) (fun _ _ _ _ _ => jts_nil) (fun _ _ _ _ _ => (je_ix ix_seq ok_ix (je_bor (pv 13)) (je_neg (je_int pe_int)) (fun _ _ => rfl)))) comp_isL) ja_nil)))))
    (jss_cons (js_if (PW.pt (jw_and (jt_cmp op_notN ok_isNot (je_bor (pv 7)) (je_non pe_non) (nomark _)) (jw_and1 (jt_cmp op_gt ok_gt (je_bor (pv 12)) (je_bor (pv 7)) (nomark _))))) (jss_cons (js_expr (ps_expr (je_bm ok_app (pe_bm PySem.F.plainAttrs_list PySem.F.slot_list_append PySem.F.type_list_append mt_append (je_bor (pv 8)) (ja_cons (je_tup (ja_cons (je_str pe_str) (ja_cons (je_var (pv 4)) (ja_cons (je_var (pv 1)) (ja_cons (je_var (pv 2)) (ja_cons (je_op op_sub ok_sub (je_bor (pv 7)) (je_bor (pv 12))) ja_nil)))))) ja_nil)))))
    jss_nil) jss_nil)
    (jss_cons (js_ret (je_var (pv 8)))
    jss_nil))))))))) (phi_lines_by_ok)
theorem sc_House_parts_in : FnScope N_House_parts_in ["self", "client", "thing", "month", "day"] (defScope st_House_parts_in) := ⟨rfl, rfl, rfl, by decide +kernel, rfl, by decide +kernel, by decide +kernel⟩
theorem ok_House_parts_in (T : Txt K mg A) : FnOk P w K mg base CX0 3 A.f_House_parts_in A.d_House_parts_in ["self", "client", "thing", "month", "day"] (spM K 5 (phi_House_parts_in A.cH A.cM)) :=
  FnOk.data (fn_ok (N := N_House_parts_in) (s_House_parts_in A.cH A.cM) T.F_House_parts_in sc_House_parts_in fun cdv Ar outer s H E hr =>
    (jss_cons (js_own (ps_set (i := 5) sc_House_parts_in.nd rfl (by first | exact Or.inl rfl | exact Or.inr rfl) (jl_lst ja_nil)) (fun _ _ _ h => h))
    (jss_cons (js_for (ps_for PassesOwn.never rfl (ji_seq (je_meth rfl (pe_meth (je_bor (pv 0)) T.cl_House T.me_stretches (ok_House_stretches T) (hr.mono (by decide)) T.b_House_stretches .nil pass0 (ja_cons (je_var (pv 1)) (ja_cons (je_var (pv 2)) (ja_cons (je_var (pv 3)) (ja_cons (je_var (pv 4)) ja_nil))))))) (jg_tup rfl (jgs_cons (jg_name (pg_name (i := 6) sc_House_parts_in.nd rfl (by first | exact Or.inl rfl | exact Or.inr rfl))) (jgs_cons (jg_name (pg_name (i := 7) sc_House_parts_in.nd rfl (by first | exact Or.inl rfl | exact Or.inr rfl))) (jgs_cons (jg_name (pg_name (i := 8) sc_House_parts_in.nd rfl (by first | exact Or.inl rfl | exact Or.inr rfl))) jgs_nil)))) (jss_cons (js_own (ps_set (i := 9) sc_House_parts_in.nd rfl (by first | exact Or.inl rfl | exact Or.inr rfl) (jl_lst ja_nil)) (fun _ _ _ h => h))
    (jss_cons (js_for (ps_for PassesOwn.never rfl (ji_enum (by rfl) T.bn_enumerate (je_fld T.cl_House T.na_measures (pe_fld (je_bor (pv 0)) rfl))) (jg_tup rfl (jgs_cons (jg_name (pg_name (i := 10) sc_House_parts_in.nd rfl (by first | exact Or.inl rfl | exact Or.inr rfl))) (jgs_cons (jg_name (pg_name (i := 11) sc_House_parts_in.nd rfl (by first | exact Or.inl rfl | exact Or.inr rfl))) jgs_nil))) (jss_cons (js_if (PW.pt (jw_and (jt_cmp (op_eqA hr.units) ok_eq (je_tup (ja_cons (je_fld T.cl_Measure T.na_client (pe_fld (je_bor (pv 11)) rfl)) (ja_cons (je_fld T.cl_Measure T.na_thing (pe_fld (je_bor (pv 11)) rfl)) ja_nil))) (je_tup (ja_cons (je_var (pv 1)) (ja_cons (je_var (pv 2)) ja_nil))) (nomark _)) (jw_and (jt_chain op_le op_lt ok_le ok_lt (je_bor (pv 7)) (je_fld T.cl_Measure T.na_day (pe_fld (je_bor (pv 11)) rfl)) (je_bor (pv 8))) (jw_and1 (jt_val (je_meth rfl (pe_meth (je_bor (pv 0)) T.cl_House T.me_counts (ok_House_counts T) (hr.mono (by decide)) T.b_House_counts .nil pass0 (ja_cons (je_var (pv 11)) (ja_cons (je_var (pv 4)) ja_nil))))))))) (jss_cons (js_expr (ps_expr (je_bm ok_app (pe_bm PySem.F.plainAttrs_list PySem.F.slot_list_append PySem.F.type_list_append mt_append (je_bor (pv 9)) (ja_cons (je_var (pv 10)) ja_nil)))))
    jss_nil) jss_nil)
    jss_nil)))
    (jss_cons (js_asgN (ps_set (i := 12) sc_House_parts_in.nd rfl (by first | exact Or.inl rfl | exact Or.inr rfl) (je_bi ok_sum (pe_callB (cr_sum rfl) (by rfl) T.bn_sum (by decide +kernel) (ja_cons (JL.frz (jl_comp (own := [("number", 10)]) rfl sc_House_parts_in.nd (ji_seq (je_bor (pv 9))) (blkOk_by (own := [("number", 10)]) (N := N_House_parts_in) (sc := defScope st_House_parts_in) (by decide +kernel)) (fun _ _ _ _ _ => (jg_name (pg_name (i := 10) sc_House_parts_in.nd rfl (by first | exact Or.inl rfl | exact Or.inr rfl)))) (fun _ _ _ _ _ => jts_nil) (fun _ _ _ _ _ => (je_fld T.cl_Measure T.na_units (pe_fld (je_ix ix_seq ok_ix (je_fld T.cl_House T.na_measures (pe_fld (je_bor (pv 0)) rfl)) (je_bor (pv 10)) (fun _ _ => rfl)) rfl)))) comp_isL) ja_nil)))))
    (jss_cons (js_expr (ps_expr (je_bm ok_app (pe_bm PySem.F.plainAttrs_list PySem.F.slot_list_append PySem.F.type_list_append mt_append (je_bor (pv 5)) (ja_cons (je_tup (ja_cons (je_tup (ja_cons (je_var (pv 6)) (ja_cons (je_var (pv 7)) (ja_cons (je_var (pv 8)) ja_nil)))) (ja_cons (je_var (pv 9)) (ja_cons (je_fn rfl (pe_call (ok_lines_by T) (hr.mono (by decide)) (by rfl) T.g_lines_by T.F_lines_by.kp T.b_lines_by .nil pass0 (ja_cons (je_dIx (hu_of hr) (je_fld T.cl_House T.na_plans (pe_fld (je_bor (pv 0)) rfl)) (je_var (pv 6)) (fun _ _ => rfl)) (ja_cons (je_var (pv 7)) (ja_cons (je_var (pv 8)) (ja_cons (je_var (pv 12)) ja_nil)))))) ja_nil)))) ja_nil)))))
    jss_nil))))))
    (jss_cons (js_ret (je_var (pv 5)))
    jss_nil)))) (phi_House_parts_in_ok A.cH A.cM)
theorem sc_House_lines_in : FnScope N_House_lines_in ["self", "client", "thing", "month", "day"] (defScope st_House_lines_in) := ⟨rfl, rfl, rfl, by decide +kernel, rfl, by decide +kernel, by decide +kernel⟩
theorem ok_House_lines_in (T : Txt K mg A) : FnOk P w K mg base CX0 4 A.f_House_lines_in A.d_House_lines_in ["self", "client", "thing", "month", "day"] (spM K 5 (phi_House_lines_in A.cH A.cM)) :=
  FnOk.data (fn_ok (N := N_House_lines_in) (s_House_lines_in A.cH A.cM) T.F_House_lines_in sc_House_lines_in fun cdv Ar outer s H E hr =>
    (jss_cons (js_ret (JL.frz (jl_comp2 (own := [("stretch", 5), ("numbers", 6), ("lines", 7), ("line", 8)]) rfl sc_House_lines_in.nd (ji_seq (je_meth rfl (pe_meth (je_bor (pv 0)) T.cl_House T.me_parts_in (ok_House_parts_in T) (hr.mono (by decide)) T.b_House_parts_in .nil pass0 (ja_cons (je_var (pv 1)) (ja_cons (je_var (pv 2)) (ja_cons (je_var (pv 3)) (ja_cons (je_var (pv 4)) ja_nil))))))) (blkOk_by (own := [("stretch", 5), ("numbers", 6), ("lines", 7), ("line", 8)]) (N := N_House_lines_in) (sc := defScope st_House_lines_in) (by decide +kernel)) (vs1 := [8]) (by decide) (fun _ _ _ _ _ => (jg_tup rfl (jgs_cons (jg_name (pg_name (i := 5) sc_House_lines_in.nd rfl (by first | exact Or.inl rfl | exact Or.inr rfl))) (jgs_cons (jg_name (pg_name (i := 6) sc_House_lines_in.nd rfl (by first | exact Or.inl rfl | exact Or.inr rfl))) (jgs_cons (jg_name (pg_name (i := 7) sc_House_lines_in.nd rfl (by first | exact Or.inl rfl | exact Or.inr rfl))) jgs_nil))))) (fun _ _ _ _ _ => jts_nil) (fun _ _ _ _ _ => (ji_seq (je_bor (pv 7)))) (fun _ _ _ _ _ => (jg_name (pg_name (i := 8) sc_House_lines_in.nd rfl (by first | exact Or.inl rfl | exact Or.inr rfl)))) (fun _ _ _ _ _ => jts_nil) (fun _ _ _ _ _ => (je_var (pv 8)))) comp2_isL))
    jss_nil)) (phi_House_lines_in_ok A.cH A.cM)
theorem sc_House_charge_in : FnScope N_House_charge_in ["self", "client", "thing", "month", "day"] (defScope st_House_charge_in) := ⟨rfl, rfl, rfl, by decide +kernel, rfl, by decide +kernel, by decide +kernel⟩
theorem ok_House_charge_in (T : Txt K mg A) : FnOk P w K mg base CX0 5 A.f_House_charge_in A.d_House_charge_in ["self", "client", "thing", "month", "day"] (spM K 5 (phi_House_charge_in A.cH A.cM)) :=
  FnOk.data (fn_ok (N := N_House_charge_in) (s_House_charge_in A.cH A.cM) T.F_House_charge_in sc_House_charge_in fun cdv Ar outer s H E hr =>
    (jss_cons (js_ret (je_bi ok_sum (pe_callB (cr_sum rfl) (by rfl) T.bn_sum (by decide +kernel) (ja_cons (JL.frz (jl_comp (own := [("line", 5)]) rfl sc_House_charge_in.nd (ji_seq (je_meth rfl (pe_meth (je_bor (pv 0)) T.cl_House T.me_lines_in (ok_House_lines_in T) (hr.mono (by decide)) T.b_House_lines_in .nil pass0 (ja_cons (je_var (pv 1)) (ja_cons (je_var (pv 2)) (ja_cons (je_var (pv 3)) (ja_cons (je_var (pv 4)) ja_nil))))))) (blkOk_by (own := [("line", 5)]) (N := N_House_charge_in) (sc := defScope st_House_charge_in) (by decide +kernel)) (fun _ _ _ _ _ => (jg_name (pg_name (i := 5) sc_House_charge_in.nd rfl (by first | exact Or.inl rfl | exact Or.inr rfl)))) (fun _ _ _ _ _ => jts_nil) (fun _ _ _ _ _ => (je_ix ix_seq ok_ix (je_bor (pv 5)) (je_neg (je_int pe_int)) (fun _ _ => rfl)))) comp_isL) ja_nil))))
    jss_nil)) (phi_House_charge_in_ok A.cH A.cM)
theorem sc_House_charge : FnScope N_House_charge ["self", "client", "thing", "month"] (defScope st_House_charge) := ⟨rfl, rfl, rfl, by decide +kernel, rfl, by decide +kernel, by decide +kernel⟩
theorem ok_House_charge (T : Txt K mg A) : FnOk P w K mg base CX0 6 A.f_House_charge A.d_House_charge ["self", "client", "thing", "month"] (spM K 4 (phi_House_charge A.cH A.cM)) :=
  FnOk.data (fn_ok (N := N_House_charge) (s_House_charge A.cH A.cM) T.F_House_charge sc_House_charge fun cdv Ar outer s H E hr =>
    (jss_cons (js_expr (ps_expr (je_meth rfl (pe_meth (je_bor (pv 0)) T.cl_House T.me_need_pair (ok_House_need_pair T) (hr.mono (by decide)) T.b_House_need_pair .nil pass0 (ja_cons (je_var (pv 1)) (ja_cons (je_var (pv 2)) ja_nil))))))
    (jss_cons (js_if (jt_not (jt_val (je_fn rfl (pe_call (ok_is_number T) (hr.mono (by decide)) (by rfl) T.g_is_number T.F_is_number.kp T.b_is_number .nil pass0 (ja_cons (je_var (pv 3)) (ja_cons (je_int pe_int) (ja_cons (je_op op_sub ok_sub (je_op op_fdiv ok_div (je_int (pe_glob (by rfl) T.c_YEAR ⟨_, rfl⟩)) (je_int (pe_glob (by rfl) T.c_MONTH ⟨_, rfl⟩))) (je_int pe_int)) ja_nil))))))) (jss_cons js_never
    jss_nil) jss_nil)
    (jss_cons (js_ret (je_meth rfl (pe_meth (je_bor (pv 0)) T.cl_House T.me_charge_in (ok_House_charge_in T) (hr.mono (by decide)) T.b_House_charge_in .nil pass0 (ja_cons (je_var (pv 1)) (ja_cons (je_var (pv 2)) (ja_cons (je_var (pv 3)) (ja_cons (je_fld T.cl_House T.na_today (pe_fld (je_bor (pv 0)) rfl)) ja_nil)))))))
    jss_nil)))) (phi_House_charge_ok A.cH A.cM)
theorem sc_law_charge : FnScope N_law_charge ["_law_plan", "_law_units", "_law_begin"] (defScope st_law_charge) := ⟨rfl, rfl, rfl, by decide +kernel, rfl, by decide +kernel, by decide +kernel⟩
theorem ok_law_charge (T : Txt K mg A) : FnOk P w K mg base CX0 7 A.f_law_charge A.d_law_charge ["_law_plan", "_law_units", "_law_begin"] (spM K 3 (phi_law_charge A.cH A.cM)) :=
  FnOk.data (fn_ok (N := N_law_charge) (s_law_charge A.cH A.cM) T.F_law_charge sc_law_charge fun cdv Ar outer s H E hr =>
    (jss_cons (js_asgN (ps_set (i := 3) sc_law_charge.nd rfl (by first | exact Or.inl rfl | exact Or.inr rfl) (je_make rfl (pe_make T.mk_House (ok_House_init T) (hr.mono (by decide)) (by rfl) T.gc_House T.b_House_init .nil pass0 (ja_cons (je_tup (ja_cons (je_var (pv 0)) ja_nil)) (ja_cons (je_int pe_int) ja_nil))))))
    (jss_cons (js_expr (ps_expr (je_meth rfl (pe_meth (je_bor (pv 3)) T.cl_House T.me_take (ok_House_take T) (hr.mono (by decide)) T.b_House_take .nil pass0 (ja_cons (je_var (pv 2)) (ja_cons (je_str pe_str) (ja_cons (je_str pe_str) (ja_cons (je_ix ix_seq ok_ix (je_bor (pv 0)) (je_int pe_int) (fun _ _ => rfl)) ja_nil))))))))
    (jss_cons (js_expr (ps_expr (je_meth rfl (pe_meth (je_bor (pv 3)) T.cl_House T.me_use (ok_House_use T) (hr.mono (by decide)) T.b_House_use .nil pass0 (ja_cons (je_int pe_int) (ja_cons (je_str pe_str) (ja_cons (je_str pe_str) (ja_cons (je_int pe_int) (ja_cons (je_var (pv 1)) ja_nil)))))))))
    (jss_cons (js_ret (je_meth rfl (pe_meth (je_bor (pv 3)) T.cl_House T.me_charge (ok_House_charge T) (hr.mono (by decide)) T.b_House_charge .nil pass0 (ja_cons (je_str pe_str) (ja_cons (je_str pe_str) (ja_cons (je_int pe_int) ja_nil))))))
    jss_nil))))) (phi_law_charge_ok A.cH A.cM)
theorem sc_law_plans : FnScope N_law_plans ["_law_row"] (defScope st_law_plans) := ⟨rfl, rfl, rfl, by decide +kernel, rfl, by decide +kernel, by decide +kernel⟩
theorem ok_law_plans (T : Txt K mg A) : FnOk P w K mg base CX0 2 A.f_law_plans A.d_law_plans ["_law_row"] (spM K 1 (phi_law_plans)) :=
  FnOk.data (fn_ok (N := N_law_plans) (s_law_plans) T.F_law_plans sc_law_plans fun cdv Ar outer s H E hr =>
    (jss_cons (js_own (ps_set (i := 1) sc_law_plans.nd rfl (by first | exact Or.inl rfl | exact Or.inr rfl) (jl_lst ja_nil)) (fun _ _ _ h => h))
    (jss_cons (js_for (ps_for PassesOwn.never rfl (ji_rng1 (by rfl) T.bn_range (je_op op_addA ok_add (je_int pe_int) (je_fn rfl (pe_call (ok_law_taken T) (hr.mono (by decide)) (by rfl) T.g_law_taken T.F_law_taken.kp T.b_law_taken .nil pass0 (ja_cons (je_var (pv 0)) (ja_cons (je_int pe_int) ja_nil)))))) (jg_name (pg_name (i := 2) sc_law_plans.nd rfl (by first | exact Or.inl rfl | exact Or.inr rfl))) (jss_cons (js_own2 (ps_par (i := 3) (j := 4) rfl sc_law_plans.nd rfl rfl (by decide) rfl rfl (pa_cons (jl_lst ja_nil) (pa_cons (je_int pe_int) pa_nil)) (by rfl)))
    (jss_cons (js_for (ps_for PassesOwn.never rfl (ji_rng1 (by rfl) T.bn_range (je_fn rfl (pe_call (ok_law_taken T) (hr.mono (by decide)) (by rfl) T.g_law_taken T.F_law_taken.kp T.b_law_taken .nil pass0 (ja_cons (je_var (pv 0)) (ja_cons (je_int pe_int) ja_nil))))) (jg_name (pg_name (i := 5) sc_law_plans.nd rfl (by first | exact Or.inl rfl | exact Or.inr rfl))) (jss_cons (js_asgN (ps_set (i := 4) sc_law_plans.nd rfl (by first | exact Or.inl rfl | exact Or.inr rfl) (je_op op_addA ok_add (je_op op_addA ok_add (je_bor (pv 4)) (je_int pe_int)) (je_fn rfl (pe_call (ok_law_taken T) (hr.mono (by decide)) (by rfl) T.g_law_taken T.F_law_taken.kp T.b_law_taken .nil pass0 (ja_cons (je_var (pv 0)) (ja_cons (je_ix ix_seq ok_ix (JL.frz (jl_lst (ja_cons (je_int pe_int) (ja_cons (je_int pe_int) ja_nil))) lst_isL) (je_fn rfl (pe_call (ok_law_taken T) (hr.mono (by decide)) (by rfl) T.g_law_taken T.F_law_taken.kp T.b_law_taken .nil pass0 (ja_cons (je_var (pv 0)) (ja_cons (je_int pe_int) ja_nil)))) (fun _ _ => rfl)) ja_nil)))))))
    (jss_cons (js_expr (ps_expr (je_bm ok_app (pe_bm PySem.F.plainAttrs_list PySem.F.slot_list_append PySem.F.type_list_append mt_append (je_bor (pv 3)) (ja_cons (je_tup (ja_cons (je_var (pv 4)) (ja_cons (je_fn rfl (pe_call (ok_law_taken T) (hr.mono (by decide)) (by rfl) T.g_law_taken T.F_law_taken.kp T.b_law_taken .nil pass0 (ja_cons (je_var (pv 0)) (ja_cons (je_int pe_int) ja_nil)))) ja_nil))) ja_nil)))))
    jss_nil))))
    (jss_cons (js_expr (ps_expr (je_bm ok_app (pe_bm PySem.F.plainAttrs_list PySem.F.slot_list_append PySem.F.type_list_append mt_append (je_bor (pv 3)) (ja_cons (je_tup (ja_cons (je_non pe_non) (ja_cons (je_fn rfl (pe_call (ok_law_taken T) (hr.mono (by decide)) (by rfl) T.g_law_taken T.F_law_taken.kp T.b_law_taken .nil pass0 (ja_cons (je_var (pv 0)) (ja_cons (je_int pe_int) ja_nil)))) ja_nil))) ja_nil)))))
    (jss_cons (js_asgN (ps_set (i := 6) sc_law_plans.nd rfl (by first | exact Or.inl rfl | exact Or.inr rfl) (je_ix ix_seq ok_ix (JL.frz (jl_lst (ja_cons (je_int pe_int) (ja_cons (je_fn rfl (pe_call (ok_law_taken T) (hr.mono (by decide)) (by rfl) T.g_law_taken T.F_law_taken.kp T.b_law_taken .nil pass0 (ja_cons (je_var (pv 0)) (ja_cons (je_int pe_int) ja_nil)))) (ja_cons (je_op op_mulA ok_mul (je_int pe_int) (je_fn rfl (pe_call (ok_law_taken T) (hr.mono (by decide)) (by rfl) T.g_law_taken T.F_law_taken.kp T.b_law_taken .nil pass0 (ja_cons (je_var (pv 0)) (ja_cons (je_int pe_int) ja_nil))))) (ja_cons (je_fn rfl (pe_call (ok_law_taken T) (hr.mono (by decide)) (by rfl) T.g_law_taken T.F_law_taken.kp T.b_law_taken .nil pass0 (ja_cons (je_var (pv 0)) (ja_cons (je_int pe_int) ja_nil)))) ja_nil))))) lst_isL) (je_fn rfl (pe_call (ok_law_taken T) (hr.mono (by decide)) (by rfl) T.g_law_taken T.F_law_taken.kp T.b_law_taken .nil pass0 (ja_cons (je_var (pv 0)) (ja_cons (je_int pe_int) ja_nil)))) (fun _ _ => rfl))))
    (jss_cons (js_asgN (ps_set (i := 7) sc_law_plans.nd rfl (by first | exact Or.inl rfl | exact Or.inr rfl) (je_ix ix_seq ok_ix (JL.frz (jl_lst (ja_cons (je_non pe_non) (ja_cons (je_non pe_non) (ja_cons (je_fn rfl (pe_call (ok_law_taken T) (hr.mono (by decide)) (by rfl) T.g_law_taken T.F_law_taken.kp T.b_law_taken .nil pass0 (ja_cons (je_var (pv 0)) (ja_cons (je_int pe_int) ja_nil)))) (ja_cons (je_fn rfl (pe_call (ok_law_taken T) (hr.mono (by decide)) (by rfl) T.g_law_taken T.F_law_taken.kp T.b_law_taken .nil pass0 (ja_cons (je_var (pv 0)) (ja_cons (je_int pe_int) ja_nil)))) ja_nil))))) lst_isL) (je_fn rfl (pe_call (ok_law_taken T) (hr.mono (by decide)) (by rfl) T.g_law_taken T.F_law_taken.kp T.b_law_taken .nil pass0 (ja_cons (je_var (pv 0)) (ja_cons (je_int pe_int) ja_nil)))) (fun _ _ => rfl))))
    (jss_cons (js_expr (ps_expr (je_bm ok_app (pe_bm PySem.F.plainAttrs_list PySem.F.slot_list_append PySem.F.type_list_append mt_append (je_bor (pv 1)) (ja_cons (je_tup (ja_cons (je_op op_mulS ok_mulS (je_ix ix_seq ok_ix (je_str pe_str) (je_bor (pv 2)) (fun _ _ => rfl)) (je_op op_addA ok_add (je_int pe_int) (je_fn rfl (pe_call (ok_law_taken T) (hr.mono (by decide)) (by rfl) T.g_law_taken T.F_law_taken.kp T.b_law_taken .nil pass0 (ja_cons (je_var (pv 0)) (ja_cons (je_int pe_int) ja_nil)))))) (ja_cons (je_bi ok_tuple (pe_callTy call_tuple_of (by rfl) T.bn_tuple (by decide +kernel) (ja_cons (je_bor (pv 3)) ja_nil))) (ja_cons (je_var (pv 6)) (ja_cons (je_var (pv 7)) ja_nil))))) ja_nil)))))
    jss_nil))))))))
    (jss_cons (js_ret (je_bi ok_tuple (pe_callTy call_tuple_of (by rfl) T.bn_tuple (by decide +kernel) (ja_cons (je_bor (pv 1)) ja_nil))))
    jss_nil)))) (phi_law_plans_ok)
theorem sc_law : FnScope N_law ["_law_script"] (defScope st_law) := ⟨rfl, rfl, rfl, by decide +kernel, rfl, by decide +kernel, by decide +kernel⟩
theorem ok_law (T : Txt K mg A) : FnOk P w K mg base CX0 8 A.f_law A.d_law ["_law_script"] (spM K 1 (phi_law A.cH A.cM)) :=
  FnOk.data (fn_ok (N := N_law) (s_law A.cH A.cM) T.F_law sc_law fun cdv Ar outer s H E hr =>
    (jss_cons (js_asgN (ps_set (i := 1) sc_law.nd rfl (by first | exact Or.inl rfl | exact Or.inr rfl) (je_cell (jl_lst (ja_cons (je_var (pv 0)) (ja_cons (je_int pe_int) (ja_cons (je_int pe_int) (ja_cons (je_int pe_int) ja_nil))))))))
    (jss_cons (js_for (ps_for PassesOwn.never rfl (ji_rng1 (by rfl) T.bn_range (je_int pe_int)) (jg_name (pg_name (i := 2) sc_law.nd rfl (by first | exact Or.inl rfl | exact Or.inr rfl))) (jss_cons (js_par (ps_par (i := 3) (j := 4) rfl sc_law.nd rfl rfl (by decide) rfl rfl (ja_cons (je_ix ix_seq ok_ix (je_fn rfl (pe_call (ok_law_plans T) (hr.mono (by decide)) (by rfl) T.g_law_plans T.F_law_plans.kp T.b_law_plans .nil pass0 (ja_cons (je_var (pv 1)) ja_nil))) (je_int pe_int) (fun _ _ => rfl)) (ja_cons (je_ix ix_seq ok_ix (JL.frz (jl_lst (ja_cons (je_int pe_int) (ja_cons (je_fn rfl (pe_call (ok_law_taken T) (hr.mono (by decide)) (by rfl) T.g_law_taken T.F_law_taken.kp T.b_law_taken .nil pass0 (ja_cons (je_var (pv 1)) (ja_cons (je_int pe_int) ja_nil)))) ja_nil))) lst_isL) (je_fn rfl (pe_call (ok_law_taken T) (hr.mono (by decide)) (by rfl) T.g_law_taken T.F_law_taken.kp T.b_law_taken .nil pass0 (ja_cons (je_var (pv 1)) (ja_cons (je_int pe_int) ja_nil)))) (fun _ _ => rfl)) ja_nil)) (by rfl)))
    (jss_cons (js_asg (ps_asg (je_var (pv 3)) (jg_tup rfl (jgs_cons (jg_name (pg_name (i := 5) sc_law.nd rfl (by first | exact Or.inl rfl | exact Or.inr rfl))) (jgs_cons (jg_name (pg_name (i := 6) sc_law.nd rfl (by first | exact Or.inl rfl | exact Or.inr rfl))) (jgs_cons (jg_name (pg_name (i := 7) sc_law.nd rfl (by first | exact Or.inl rfl | exact Or.inr rfl))) (jgs_cons (jg_name (pg_name (i := 8) sc_law.nd rfl (by first | exact Or.inl rfl | exact Or.inr rfl))) jgs_nil)))))))
    (jss_cons (js_asgN (ps_set (i := 9) sc_law.nd rfl (by first | exact Or.inl rfl | exact Or.inr rfl) (je_fn rfl (pe_call (ok_law_taken T) (hr.mono (by decide)) (by rfl) T.g_law_taken T.F_law_taken.kp T.b_law_taken .nil pass0 (ja_cons (je_var (pv 1)) (ja_cons (je_int pe_int) ja_nil))))))
    (jss_cons (js_asgN (ps_set (i := 10) sc_law.nd rfl (by first | exact Or.inl rfl | exact Or.inr rfl) (je_fn rfl (pe_call (ok_law_charge T) (hr.mono (by decide)) (by rfl) T.g_law_charge T.F_law_charge.kp T.b_law_charge .nil pass0 (ja_cons (je_var (pv 3)) (ja_cons (je_var (pv 9)) (ja_cons (je_var (pv 4)) ja_nil)))))))
    (jss_cons (js_if (jt_cmp op_lt ok_lt (je_fn rfl (pe_call (ok_law_charge T) (hr.mono (by decide)) (by rfl) T.g_law_charge T.F_law_charge.kp T.b_law_charge .nil pass0 (ja_cons (je_var (pv 3)) (ja_cons (je_op op_addA ok_add (je_op op_addA ok_add (je_bor (pv 9)) (je_int pe_int)) (je_fn rfl (pe_call (ok_law_taken T) (hr.mono (by decide)) (by rfl) T.g_law_taken T.F_law_taken.kp T.b_law_taken .nil pass0 (ja_cons (je_var (pv 1)) (ja_cons (je_int pe_int) ja_nil))))) (ja_cons (je_var (pv 4)) ja_nil))))) (je_bor (pv 10)) (nomark _)) (jss_cons (js_ret (je_bl pe_bl))
    jss_nil) jss_nil)
    (jss_cons (js_if (jt_cmp op_lt ok_lt (je_bi ok_len (pe_callB call_len (by rfl) T.bn_len (by decide +kernel) (ja_cons (je_bor (pv 6)) ja_nil))) (je_int pe_int) (nomark _)) (jss_cons (js_asgN (ps_set (i := 11) sc_law.nd rfl (by first | exact Or.inl rfl | exact Or.inr rfl) (je_ix ix_seq ok_ix (je_bor (pv 6)) (je_op op_sub ok_sub (je_bi ok_len (pe_callB call_len (by rfl) T.bn_len (by decide +kernel) (ja_cons (je_bor (pv 6)) ja_nil))) (je_int pe_int)) (fun _ _ => rfl))))
    (jss_cons (js_asgN (ps_set (i := 12) sc_law.nd rfl (by first | exact Or.inl rfl | exact Or.inr rfl) (je_ifx (jt_cmp op_gt ok_gt (je_bi ok_len (pe_callB call_len (by rfl) T.bn_len (by decide +kernel) (ja_cons (je_bor (pv 6)) ja_nil))) (je_int pe_int) (nomark _)) (je_ix ix_seq ok_ix (je_ix ix_seq ok_ix (je_bor (pv 6)) (je_op op_sub ok_sub (je_bi ok_len (pe_callB call_len (by rfl) T.bn_len (by decide +kernel) (ja_cons (je_bor (pv 6)) ja_nil))) (je_int pe_int)) (fun _ _ => rfl)) (je_int pe_int) (fun _ _ => rfl)) (je_int pe_int))))
    (jss_cons (js_asgN (ps_set (i := 13) sc_law.nd rfl (by first | exact Or.inl rfl | exact Or.inr rfl) (je_op op_addA ok_add (je_sl01 (je_bor (pv 6)) (je_op op_sub ok_sub (je_bi ok_len (pe_callB call_len (by rfl) T.bn_len (by decide +kernel) (ja_cons (je_bor (pv 6)) ja_nil))) (je_int pe_int))) (je_tup (ja_cons (je_tup (ja_cons (je_op op_addA ok_add (je_op op_addA ok_add (je_bor (pv 12)) (je_int pe_int)) (je_fn rfl (pe_call (ok_law_taken T) (hr.mono (by decide)) (by rfl) T.g_law_taken T.F_law_taken.kp T.b_law_taken .nil pass0 (ja_cons (je_var (pv 1)) (ja_cons (je_int pe_int) ja_nil))))) (ja_cons (je_ix ix_seq ok_ix (je_bor (pv 11)) (je_int pe_int) (fun _ _ => rfl)) ja_nil))) (ja_cons (je_var (pv 11)) ja_nil))))))
    (jss_cons (js_if (jt_cmp (op_neA hr.units) ok_ne (je_fn rfl (pe_call (ok_law_charge T) (hr.mono (by decide)) (by rfl) T.g_law_charge T.F_law_charge.kp T.b_law_charge .nil pass0 (ja_cons (je_tup (ja_cons (je_var (pv 5)) (ja_cons (je_var (pv 13)) (ja_cons (je_var (pv 7)) (ja_cons (je_var (pv 8)) ja_nil))))) (ja_cons (je_var (pv 9)) (ja_cons (je_var (pv 4)) ja_nil))))) (je_bor (pv 10)) (nomark _)) (jss_cons (js_ret (je_bl pe_bl))
    jss_nil) jss_nil)
    jss_nil)))) jss_nil)
    (jss_cons (js_asgN (ps_set (i := 14) sc_law.nd rfl (by first | exact Or.inl rfl | exact Or.inr rfl) (je_fn rfl (pe_call (ok_law_charge T) (hr.mono (by decide)) (by rfl) T.g_law_charge T.F_law_charge.kp T.b_law_charge .nil pass0 (ja_cons (je_tup (ja_cons (je_var (pv 5)) (ja_cons (je_var (pv 6)) (ja_cons (je_var (pv 7)) (ja_cons (je_non pe_non) ja_nil))))) (ja_cons (je_var (pv 9)) (ja_cons (je_var (pv 4)) ja_nil)))))))
    (jss_cons (js_if (jt_cmp (op_neA hr.units) ok_ne (je_fn rfl (pe_call (ok_law_charge T) (hr.mono (by decide)) (by rfl) T.g_law_charge T.F_law_charge.kp T.b_law_charge .nil pass0 (ja_cons (je_tup (ja_cons (je_var (pv 5)) (ja_cons (je_var (pv 6)) (ja_cons (je_var (pv 7)) (ja_cons (je_bi ok_min2 (pe_callB (call_min2 rfl) (by rfl) T.bn_min (by decide +kernel) (ja_cons (je_bor (pv 14)) (ja_cons (je_int pe_int) ja_nil)))) ja_nil))))) (ja_cons (je_var (pv 9)) (ja_cons (je_var (pv 4)) ja_nil))))) (je_bor (pv 14)) (nomark _)) (jss_cons (js_ret (je_bl pe_bl))
    jss_nil) jss_nil)
    (jss_cons (js_if (jt_cmp (op_neA hr.units) ok_ne (je_bor (pv 10)) (je_ifx (jt_cmp op_isN ok_is (je_bor (pv 8)) (je_non pe_non) (nomark _)) (je_var (pv 14)) (je_bi ok_min2 (pe_callB (call_min2 rfl) (by rfl) T.bn_min (by decide +kernel) (ja_cons (je_bor (pv 14)) (ja_cons (je_bor (pv 8)) ja_nil))))) (nomark _)) (jss_cons (js_ret (je_bl pe_bl))
    jss_nil) jss_nil)
    (jss_cons (js_asgN (ps_set (i := 15) sc_law.nd rfl (by first | exact Or.inl rfl | exact Or.inr rfl) (je_bi ok_tuple (pe_callTy call_tuple_of (by rfl) T.bn_tuple (by decide +kernel) (ja_cons (JL.frz (jl_comp (own := [("_law_upto", 16), ("_law_price", 17)]) rfl sc_law.nd (ji_seq (je_bor (pv 6))) (blkOk_by (own := [("_law_upto", 16), ("_law_price", 17)]) (N := N_law) (sc := defScope st_law) (by decide +kernel)) (fun _ _ _ _ _ => (jg_tup rfl (jgs_cons (jg_name (pg_name (i := 16) sc_law.nd rfl (by first | exact Or.inl rfl | exact Or.inr rfl))) (jgs_cons (jg_name (pg_name (i := 17) sc_law.nd rfl (by first | exact Or.inl rfl | exact Or.inr rfl))) jgs_nil)))) (fun _ _ _ _ _ => jts_nil) (fun _ _ _ _ _ => (je_tup (ja_cons (je_var (pv 16)) (ja_cons (je_op op_mulA ok_mul (je_int pe_int) (je_bor (pv 17))) ja_nil))))) comp_isL) ja_nil)))))
    (jss_cons (js_asgN (ps_set (i := 18) sc_law.nd rfl (by first | exact Or.inl rfl | exact Or.inr rfl) (je_op op_sub ok_sub (je_fn rfl (pe_call (ok_law_charge T) (hr.mono (by decide)) (by rfl) T.g_law_charge T.F_law_charge.kp T.b_law_charge .nil pass0 (ja_cons (je_tup (ja_cons (je_var (pv 5)) (ja_cons (je_var (pv 15)) (ja_cons (je_op op_mulA ok_mul (je_int pe_int) (je_bor (pv 7))) (ja_cons (je_non pe_non) ja_nil))))) (ja_cons (je_var (pv 9)) (ja_cons (je_var (pv 4)) ja_nil))))) (je_op op_mulA ok_mul (je_int pe_int) (je_bor (pv 14))))))
    (jss_cons (js_if (jt_not (jt_chain op_lt op_lt ok_lt ok_lt (je_op op_sub ok_sub (je_int pe_int) (je_int pe_int)) (je_bor (pv 18)) (je_int pe_int))) (jss_cons (js_ret (je_bl pe_bl))
    jss_nil) jss_nil)
    (jss_cons (js_asgN (ps_set (i := 19) sc_law.nd rfl (by first | exact Or.inl rfl | exact Or.inr rfl) (je_make rfl (pe_make T.mk_House (ok_House_init T) (hr.mono (by decide)) (by rfl) T.gc_House T.b_House_init .nil pass0 (ja_cons (je_tup (ja_cons (je_var (pv 3)) (ja_cons (je_tup (ja_cons (je_str pe_str) (ja_cons (je_var (pv 6)) (ja_cons (je_var (pv 7)) (ja_cons (je_non pe_non) ja_nil))))) ja_nil))) (ja_cons (je_int pe_int) ja_nil))))))
    (jss_cons (js_for (ps_for PassesOwn.never rfl (ji_seq (JL.frz (jl_sortSet (by rfl) T.bn_sorted (by rfl) T.bn_set (ja_cons (JL.frz (jl_lst (ja_cons (je_var (pv 4)) (ja_cons (je_bi ok_min2 (pe_callB (call_min2 rfl) (by rfl) T.bn_min (by decide +kernel) (ja_cons (je_int pe_int) (ja_cons (je_op op_addA ok_add (je_bor (pv 4)) (je_fn rfl (pe_call (ok_law_taken T) (hr.mono (by decide)) (by rfl) T.g_law_taken T.F_law_taken.kp T.b_law_taken .nil pass0 (ja_cons (je_var (pv 1)) (ja_cons (je_int pe_int) ja_nil))))) ja_nil)))) ja_nil))) lst_isL) ja_nil)) opSortSet_isL)) (jg_name (pg_name (i := 20) sc_law.nd rfl (by first | exact Or.inl rfl | exact Or.inr rfl))) (jss_cons (js_expr (ps_expr (je_meth rfl (pe_meth (je_bor (pv 19)) T.cl_House T.me_take (ok_House_take T) (hr.mono (by decide)) T.b_House_take .nil pass0 (ja_cons (je_var (pv 20)) (ja_cons (je_str pe_str) (ja_cons (je_str pe_str) (ja_cons (je_var (pv 5)) ja_nil))))))))
    jss_nil)))
    (jss_cons (js_expr (ps_expr (je_meth rfl (pe_meth (je_bor (pv 19)) T.cl_House T.me_use (ok_House_use T) (hr.mono (by decide)) T.b_House_use .nil pass0 (ja_cons (je_int pe_int) (ja_cons (je_str pe_str) (ja_cons (je_str pe_str) (ja_cons (je_int pe_int) (ja_cons (je_var (pv 9)) ja_nil)))))))))
    (jss_cons (js_if (jt_cmp (op_neA hr.units) ok_ne (je_meth rfl (pe_meth (je_bor (pv 19)) T.cl_House T.me_charge (ok_House_charge T) (hr.mono (by decide)) T.b_House_charge .nil pass0 (ja_cons (je_str pe_str) (ja_cons (je_str pe_str) (ja_cons (je_int pe_int) ja_nil))))) (je_bor (pv 10)) (nomark _)) (jss_cons (js_ret (je_bl pe_bl))
    jss_nil) jss_nil)
    jss_nil))))))))))))))))))
    (jss_cons (js_ret (je_bl pe_bl))
    jss_nil)))) (phi_law_ok A.cH A.cM)
end
def spLaw (K : PySem.W.Frag) : Sp := fun vs H Q _ => ∃ (a : Addr) (ns : List Int), vs = [.ref a] ∧ SqL K H a (ns.map V.int) ∧ ns.length ≤ 63 ∧ ∀ H', Q (.bl true) H'
theorem all_mk {l : PySem.W.OpenLaw} {w : World} {K : PySem.W.Frag} {h : Heap} {mg : Str → Option Value} {fa cH cM f_law_taken f_is_number f_is_name f_are_steps f_is_plan f_need_plans f_House_init f_House_need_day f_House_need_names f_House_done f_House_take f_Measure_init f_House_plan_on f_House_use f_House_need_pair f_House_stretches f_House_counts f_share f_by_steps f_lines_by f_House_parts_in f_House_lines_in f_House_charge_in f_House_charge f_law_charge f_law_plans f_law : Addr} {t_LETTERS t_MONTH t_MOST_CAP t_MOST_FEE t_MOST_GRACE t_MOST_LETTERS t_MOST_PLANS t_MOST_PRICE t_MOST_STEPS t_MOST_UNITS t_YEAR : Tok}
    (lawHolds : ∀ cH cM : Addr, ∀ ns : List Int, ns.length ≤ 63 → ∃ M, phi_law cH cM [.scr ns] [] = some (.bl true, M)) (X : K.In h) (G : h.Ns mainGlobals mg) (hfa : mg "law" = some (.ref fa))
    {od0 an0 : Option Addr} {sl0 : Array (Option Value)} {oc0 kV0 dc0 pm0 cd0 ct0 : Value}
    {od1 an1 : Option Addr} {sl1 : Array (Option Value)} {oc1 kV1 dc1 pm1 cd1 ct1 : Value}
    {od2 an2 : Option Addr} {sl2 : Array (Option Value)} {oc2 kV2 dc2 pm2 cd2 ct2 : Value}
    {od3 an3 : Option Addr} {sl3 : Array (Option Value)} {oc3 kV3 dc3 pm3 cd3 ct3 : Value}
    {od4 an4 : Option Addr} {sl4 : Array (Option Value)} {oc4 kV4 dc4 pm4 cd4 ct4 : Value}
    {od5 an5 : Option Addr} {sl5 : Array (Option Value)} {oc5 kV5 dc5 pm5 cd5 ct5 : Value}
    {od6 an6 : Option Addr} {sl6 : Array (Option Value)} {oc6 kV6 dc6 pm6 cd6 ct6 : Value}
    {od7 an7 : Option Addr} {sl7 : Array (Option Value)} {oc7 kV7 dc7 pm7 cd7 ct7 : Value}
    {od8 an8 : Option Addr} {sl8 : Array (Option Value)} {oc8 kV8 dc8 pm8 cd8 ct8 : Value}
    {od9 an9 : Option Addr} {sl9 : Array (Option Value)} {oc9  dc9 pm9 cd9 ct9 : Value}
    {od10 an10 : Option Addr} {sl10 : Array (Option Value)} {oc10 kV10 dc10 pm10 cd10 ct10 : Value}
    {od11 an11 : Option Addr} {sl11 : Array (Option Value)} {oc11 kV11 dc11 pm11 cd11 ct11 : Value}
    {od12 an12 : Option Addr} {sl12 : Array (Option Value)} {oc12 kV12 dc12 pm12 cd12 ct12 : Value}
    {od13 an13 : Option Addr} {sl13 : Array (Option Value)} {oc13 kV13 dc13 pm13 cd13 ct13 : Value}
    {od14 an14 : Option Addr} {sl14 : Array (Option Value)} {oc14 kV14 dc14 pm14 cd14 ct14 : Value}
    {od15 an15 : Option Addr} {sl15 : Array (Option Value)} {oc15 kV15 dc15 pm15 cd15 ct15 : Value}
    {od16 an16 : Option Addr} {sl16 : Array (Option Value)} {oc16 kV16 dc16 pm16 cd16 ct16 : Value}
    {od17 an17 : Option Addr} {sl17 : Array (Option Value)} {oc17 kV17 dc17 pm17 cd17 ct17 : Value}
    {od18 an18 : Option Addr} {sl18 : Array (Option Value)} {oc18 kV18 dc18 pm18 cd18 ct18 : Value}
    {od19 an19 : Option Addr} {sl19 : Array (Option Value)} {oc19 kV19 dc19 pm19 cd19 ct19 : Value}
    {od20 an20 : Option Addr} {sl20 : Array (Option Value)} {oc20 kV20 dc20 pm20 cd20 ct20 : Value}
    {od21 an21 : Option Addr} {sl21 : Array (Option Value)} {oc21 kV21 dc21 pm21 cd21 ct21 : Value}
    {od22 an22 : Option Addr} {sl22 : Array (Option Value)} {oc22 kV22 dc22 pm22 cd22 ct22 : Value}
    {od23 an23 : Option Addr} {sl23 : Array (Option Value)} {oc23 kV23 dc23 pm23 cd23 ct23 : Value}
    {od24 an24 : Option Addr} {sl24 : Array (Option Value)} {oc24 kV24 dc24 pm24 cd24 ct24 : Value}
    {od25 an25 : Option Addr} {sl25 : Array (Option Value)} {oc25 kV25 dc25 pm25 cd25 ct25 : Value}
    {od26 an26 : Option Addr} {sl26 : Array (Option Value)} {oc26 kV26 dc26 pm26 cd26 ct26 : Value}
    (acH : PySem.W.nsIn K mainGlobals "House" = some (some (.ref cH)))
    (acM : PySem.W.nsIn K mainGlobals "Measure" = some (some (.ref cM)))
    (a0 : PySem.W.nsIn K mainGlobals "_law_taken" = some (some (.ref f_law_taken)))
    (l0 : K.lookup f_law_taken = some ⟨oc0, od0, .func (PySem.W.fnOf "_law_taken" "_law_taken" (defArgs st_law_taken) (defBody st_law_taken) (defScope st_law_taken) .none kV0 dc0 pm0 an0 cd0 ct0), sl0⟩)
    (c0 : PySem.W.codeIn K cd0 "_law_taken" = true)
    (k0 : PySem.W.keepIn K (.ref f_law_taken) = true)
    (a1 : PySem.W.nsIn K mainGlobals "is_number" = some (some (.ref f_is_number)))
    (l1 : K.lookup f_is_number = some ⟨oc1, od1, .func (PySem.W.fnOf "is_number" "is_number" (defArgs st_is_number) (defBody st_is_number) (defScope st_is_number) .none kV1 dc1 pm1 an1 cd1 ct1), sl1⟩)
    (c1 : PySem.W.codeIn K cd1 "is_number" = true)
    (k1 : PySem.W.keepIn K (.ref f_is_number) = true)
    (a2 : PySem.W.nsIn K mainGlobals "is_name" = some (some (.ref f_is_name)))
    (l2 : K.lookup f_is_name = some ⟨oc2, od2, .func (PySem.W.fnOf "is_name" "is_name" (defArgs st_is_name) (defBody st_is_name) (defScope st_is_name) .none kV2 dc2 pm2 an2 cd2 ct2), sl2⟩)
    (c2 : PySem.W.codeIn K cd2 "is_name" = true)
    (k2 : PySem.W.keepIn K (.ref f_is_name) = true)
    (a3 : PySem.W.nsIn K mainGlobals "are_steps" = some (some (.ref f_are_steps)))
    (l3 : K.lookup f_are_steps = some ⟨oc3, od3, .func (PySem.W.fnOf "are_steps" "are_steps" (defArgs st_are_steps) (defBody st_are_steps) (defScope st_are_steps) .none kV3 dc3 pm3 an3 cd3 ct3), sl3⟩)
    (c3 : PySem.W.codeIn K cd3 "are_steps" = true)
    (k3 : PySem.W.keepIn K (.ref f_are_steps) = true)
    (a4 : PySem.W.nsIn K mainGlobals "is_plan" = some (some (.ref f_is_plan)))
    (l4 : K.lookup f_is_plan = some ⟨oc4, od4, .func (PySem.W.fnOf "is_plan" "is_plan" (defArgs st_is_plan) (defBody st_is_plan) (defScope st_is_plan) .none kV4 dc4 pm4 an4 cd4 ct4), sl4⟩)
    (c4 : PySem.W.codeIn K cd4 "is_plan" = true)
    (k4 : PySem.W.keepIn K (.ref f_is_plan) = true)
    (a5 : PySem.W.nsIn K mainGlobals "need_plans" = some (some (.ref f_need_plans)))
    (l5 : K.lookup f_need_plans = some ⟨oc5, od5, .func (PySem.W.fnOf "need_plans" "need_plans" (defArgs st_need_plans) (defBody st_need_plans) (defScope st_need_plans) .none kV5 dc5 pm5 an5 cd5 ct5), sl5⟩)
    (c5 : PySem.W.codeIn K cd5 "need_plans" = true)
    (k5 : PySem.W.keepIn K (.ref f_need_plans) = true)
    (a6 : PySem.W.findIn K (.ref cH) "__init__" = some (some (.ref f_House_init)))
    (i6 : PySem.W.isFn K (.ref f_House_init) = true)
    (l6 : K.lookup f_House_init = some ⟨oc6, od6, .func (PySem.W.fnOf "__init__" "House.__init__" (defArgs st_House_init) (defBody st_House_init) (defScope st_House_init) .none kV6 dc6 pm6 an6 cd6 ct6), sl6⟩)
    (c6 : PySem.W.codeIn K cd6 "House.__init__" = true)
    (k6 : PySem.W.keepIn K (.ref f_House_init) = true)
    (a7 : PySem.W.findIn K (.ref cH) "need_day" = some (some (.ref f_House_need_day)))
    (i7 : PySem.W.isFn K (.ref f_House_need_day) = true)
    (l7 : K.lookup f_House_need_day = some ⟨oc7, od7, .func (PySem.W.fnOf "need_day" "House.need_day" (defArgs st_House_need_day) (defBody st_House_need_day) (defScope st_House_need_day) .none kV7 dc7 pm7 an7 cd7 ct7), sl7⟩)
    (c7 : PySem.W.codeIn K cd7 "House.need_day" = true)
    (k7 : PySem.W.keepIn K (.ref f_House_need_day) = true)
    (a8 : PySem.W.findIn K (.ref cH) "need_names" = some (some (.ref f_House_need_names)))
    (i8 : PySem.W.isFn K (.ref f_House_need_names) = true)
    (l8 : K.lookup f_House_need_names = some ⟨oc8, od8, .func (PySem.W.fnOf "need_names" "House.need_names" (defArgs st_House_need_names) (defBody st_House_need_names) (defScope st_House_need_names) .none kV8 dc8 pm8 an8 cd8 ct8), sl8⟩)
    (c8 : PySem.W.codeIn K cd8 "House.need_names" = true)
    (k8 : PySem.W.keepIn K (.ref f_House_need_names) = true)
    (a9 : PySem.W.findIn K (.ref cH) "done" = some (some (.ref f_House_done)))
    (i9 : PySem.W.isFn K (.ref f_House_done) = true)
    (l9 : K.lookup f_House_done = some ⟨oc9, od9, .func (PySem.W.fnOf "done" "House.done" (defArgs st_House_done) (defBody st_House_done) (defScope st_House_done) .none .none dc9 pm9 an9 cd9 ct9), sl9⟩)
    (c9 : PySem.W.codeIn K cd9 "House.done" = true)
    (k9 : PySem.W.keepIn K (.ref f_House_done) = true)
    (a10 : PySem.W.findIn K (.ref cH) "take" = some (some (.ref f_House_take)))
    (i10 : PySem.W.isFn K (.ref f_House_take) = true)
    (l10 : K.lookup f_House_take = some ⟨oc10, od10, .func (PySem.W.fnOf "take" "House.take" (defArgs st_House_take) (defBody st_House_take) (defScope st_House_take) .none kV10 dc10 pm10 an10 cd10 ct10), sl10⟩)
    (c10 : PySem.W.codeIn K cd10 "House.take" = true)
    (k10 : PySem.W.keepIn K (.ref f_House_take) = true)
    (a11 : PySem.W.findIn K (.ref cM) "__init__" = some (some (.ref f_Measure_init)))
    (i11 : PySem.W.isFn K (.ref f_Measure_init) = true)
    (l11 : K.lookup f_Measure_init = some ⟨oc11, od11, .func (PySem.W.fnOf "__init__" "Measure.__init__" (defArgs st_Measure_init) (defBody st_Measure_init) (defScope st_Measure_init) .none kV11 dc11 pm11 an11 cd11 ct11), sl11⟩)
    (c11 : PySem.W.codeIn K cd11 "Measure.__init__" = true)
    (k11 : PySem.W.keepIn K (.ref f_Measure_init) = true)
    (a12 : PySem.W.findIn K (.ref cH) "plan_on" = some (some (.ref f_House_plan_on)))
    (i12 : PySem.W.isFn K (.ref f_House_plan_on) = true)
    (l12 : K.lookup f_House_plan_on = some ⟨oc12, od12, .func (PySem.W.fnOf "plan_on" "House.plan_on" (defArgs st_House_plan_on) (defBody st_House_plan_on) (defScope st_House_plan_on) .none kV12 dc12 pm12 an12 cd12 ct12), sl12⟩)
    (c12 : PySem.W.codeIn K cd12 "House.plan_on" = true)
    (k12 : PySem.W.keepIn K (.ref f_House_plan_on) = true)
    (a13 : PySem.W.findIn K (.ref cH) "use" = some (some (.ref f_House_use)))
    (i13 : PySem.W.isFn K (.ref f_House_use) = true)
    (l13 : K.lookup f_House_use = some ⟨oc13, od13, .func (PySem.W.fnOf "use" "House.use" (defArgs st_House_use) (defBody st_House_use) (defScope st_House_use) .none kV13 dc13 pm13 an13 cd13 ct13), sl13⟩)
    (c13 : PySem.W.codeIn K cd13 "House.use" = true)
    (k13 : PySem.W.keepIn K (.ref f_House_use) = true)
    (a14 : PySem.W.findIn K (.ref cH) "need_pair" = some (some (.ref f_House_need_pair)))
    (i14 : PySem.W.isFn K (.ref f_House_need_pair) = true)
    (l14 : K.lookup f_House_need_pair = some ⟨oc14, od14, .func (PySem.W.fnOf "need_pair" "House.need_pair" (defArgs st_House_need_pair) (defBody st_House_need_pair) (defScope st_House_need_pair) .none kV14 dc14 pm14 an14 cd14 ct14), sl14⟩)
    (c14 : PySem.W.codeIn K cd14 "House.need_pair" = true)
    (k14 : PySem.W.keepIn K (.ref f_House_need_pair) = true)
    (a15 : PySem.W.findIn K (.ref cH) "stretches" = some (some (.ref f_House_stretches)))
    (i15 : PySem.W.isFn K (.ref f_House_stretches) = true)
    (l15 : K.lookup f_House_stretches = some ⟨oc15, od15, .func (PySem.W.fnOf "stretches" "House.stretches" (defArgs st_House_stretches) (defBody st_House_stretches) (defScope st_House_stretches) .none kV15 dc15 pm15 an15 cd15 ct15), sl15⟩)
    (c15 : PySem.W.codeIn K cd15 "House.stretches" = true)
    (k15 : PySem.W.keepIn K (.ref f_House_stretches) = true)
    (a16 : PySem.W.findIn K (.ref cH) "counts" = some (some (.ref f_House_counts)))
    (i16 : PySem.W.isFn K (.ref f_House_counts) = true)
    (l16 : K.lookup f_House_counts = some ⟨oc16, od16, .func (PySem.W.fnOf "counts" "House.counts" (defArgs st_House_counts) (defBody st_House_counts) (defScope st_House_counts) .none kV16 dc16 pm16 an16 cd16 ct16), sl16⟩)
    (c16 : PySem.W.codeIn K cd16 "House.counts" = true)
    (k16 : PySem.W.keepIn K (.ref f_House_counts) = true)
    (a17 : PySem.W.nsIn K mainGlobals "share" = some (some (.ref f_share)))
    (l17 : K.lookup f_share = some ⟨oc17, od17, .func (PySem.W.fnOf "share" "share" (defArgs st_share) (defBody st_share) (defScope st_share) .none kV17 dc17 pm17 an17 cd17 ct17), sl17⟩)
    (c17 : PySem.W.codeIn K cd17 "share" = true)
    (k17 : PySem.W.keepIn K (.ref f_share) = true)
    (a18 : PySem.W.nsIn K mainGlobals "by_steps" = some (some (.ref f_by_steps)))
    (l18 : K.lookup f_by_steps = some ⟨oc18, od18, .func (PySem.W.fnOf "by_steps" "by_steps" (defArgs st_by_steps) (defBody st_by_steps) (defScope st_by_steps) .none kV18 dc18 pm18 an18 cd18 ct18), sl18⟩)
    (c18 : PySem.W.codeIn K cd18 "by_steps" = true)
    (k18 : PySem.W.keepIn K (.ref f_by_steps) = true)
    (a19 : PySem.W.nsIn K mainGlobals "lines_by" = some (some (.ref f_lines_by)))
    (l19 : K.lookup f_lines_by = some ⟨oc19, od19, .func (PySem.W.fnOf "lines_by" "lines_by" (defArgs st_lines_by) (defBody st_lines_by) (defScope st_lines_by) .none kV19 dc19 pm19 an19 cd19 ct19), sl19⟩)
    (c19 : PySem.W.codeIn K cd19 "lines_by" = true)
    (k19 : PySem.W.keepIn K (.ref f_lines_by) = true)
    (a20 : PySem.W.findIn K (.ref cH) "parts_in" = some (some (.ref f_House_parts_in)))
    (i20 : PySem.W.isFn K (.ref f_House_parts_in) = true)
    (l20 : K.lookup f_House_parts_in = some ⟨oc20, od20, .func (PySem.W.fnOf "parts_in" "House.parts_in" (defArgs st_House_parts_in) (defBody st_House_parts_in) (defScope st_House_parts_in) .none kV20 dc20 pm20 an20 cd20 ct20), sl20⟩)
    (c20 : PySem.W.codeIn K cd20 "House.parts_in" = true)
    (k20 : PySem.W.keepIn K (.ref f_House_parts_in) = true)
    (a21 : PySem.W.findIn K (.ref cH) "lines_in" = some (some (.ref f_House_lines_in)))
    (i21 : PySem.W.isFn K (.ref f_House_lines_in) = true)
    (l21 : K.lookup f_House_lines_in = some ⟨oc21, od21, .func (PySem.W.fnOf "lines_in" "House.lines_in" (defArgs st_House_lines_in) (defBody st_House_lines_in) (defScope st_House_lines_in) .none kV21 dc21 pm21 an21 cd21 ct21), sl21⟩)
    (c21 : PySem.W.codeIn K cd21 "House.lines_in" = true)
    (k21 : PySem.W.keepIn K (.ref f_House_lines_in) = true)
    (a22 : PySem.W.findIn K (.ref cH) "charge_in" = some (some (.ref f_House_charge_in)))
    (i22 : PySem.W.isFn K (.ref f_House_charge_in) = true)
    (l22 : K.lookup f_House_charge_in = some ⟨oc22, od22, .func (PySem.W.fnOf "charge_in" "House.charge_in" (defArgs st_House_charge_in) (defBody st_House_charge_in) (defScope st_House_charge_in) .none kV22 dc22 pm22 an22 cd22 ct22), sl22⟩)
    (c22 : PySem.W.codeIn K cd22 "House.charge_in" = true)
    (k22 : PySem.W.keepIn K (.ref f_House_charge_in) = true)
    (a23 : PySem.W.findIn K (.ref cH) "charge" = some (some (.ref f_House_charge)))
    (i23 : PySem.W.isFn K (.ref f_House_charge) = true)
    (l23 : K.lookup f_House_charge = some ⟨oc23, od23, .func (PySem.W.fnOf "charge" "House.charge" (defArgs st_House_charge) (defBody st_House_charge) (defScope st_House_charge) .none kV23 dc23 pm23 an23 cd23 ct23), sl23⟩)
    (c23 : PySem.W.codeIn K cd23 "House.charge" = true)
    (k23 : PySem.W.keepIn K (.ref f_House_charge) = true)
    (a24 : PySem.W.nsIn K mainGlobals "_law_charge" = some (some (.ref f_law_charge)))
    (l24 : K.lookup f_law_charge = some ⟨oc24, od24, .func (PySem.W.fnOf "_law_charge" "_law_charge" (defArgs st_law_charge) (defBody st_law_charge) (defScope st_law_charge) .none kV24 dc24 pm24 an24 cd24 ct24), sl24⟩)
    (c24 : PySem.W.codeIn K cd24 "_law_charge" = true)
    (k24 : PySem.W.keepIn K (.ref f_law_charge) = true)
    (a25 : PySem.W.nsIn K mainGlobals "_law_plans" = some (some (.ref f_law_plans)))
    (l25 : K.lookup f_law_plans = some ⟨oc25, od25, .func (PySem.W.fnOf "_law_plans" "_law_plans" (defArgs st_law_plans) (defBody st_law_plans) (defScope st_law_plans) .none kV25 dc25 pm25 an25 cd25 ct25), sl25⟩)
    (c25 : PySem.W.codeIn K cd25 "_law_plans" = true)
    (k25 : PySem.W.keepIn K (.ref f_law_plans) = true)
    (a26 : PySem.W.nsIn K mainGlobals "law" = some (some (.ref f_law)))
    (l26 : K.lookup f_law = some ⟨oc26, od26, .func (PySem.W.fnOf "law" "law" (defArgs st_law) (defBody st_law) (defScope st_law) .none kV26 dc26 pm26 an26 cd26 ct26), sl26⟩)
    (c26 : PySem.W.codeIn K cd26 "law" = true)
    (k26 : PySem.W.keepIn K (.ref f_law) = true)
    (pgcH : PySem.W.plainGet K cH Str.empty = true)
    (hdcH : PySem.W.hasDictIn K cH = true)
    (pocH : PySem.W.plainOver K cH = true)
    (sacH : PySem.W.findIn K (.ref cH) "__setattr__" = some (some (.builtin "object.__setattr__")))
    (mkcH : PySem.W.makesIn K cH = true)
    (kccH : PySem.W.keepIn K (.ref cH) = true)
    (pgcM : PySem.W.plainGet K cM Str.empty = true)
    (hdcM : PySem.W.hasDictIn K cM = true)
    (pocM : PySem.W.plainOver K cM = true)
    (sacM : PySem.W.findIn K (.ref cM) "__setattr__" = some (some (.builtin "object.__setattr__")))
    (mkcM : PySem.W.makesIn K cM = true)
    (kccM : PySem.W.keepIn K (.ref cM) = true)
    (n_bills : PySem.W.findIn K (.ref cH) "bills" = some none)
    (n_book : PySem.W.findIn K (.ref cH) "book" = some none)
    (n_client : PySem.W.findIn K (.ref cM) "client" = some none)
    (n_credits : PySem.W.findIn K (.ref cH) "credits" = some none)
    (n_day : PySem.W.findIn K (.ref cM) "day" = some none)
    (n_gone : PySem.W.findIn K (.ref cM) "gone" = some none)
    (n_grace : PySem.W.findIn K (.ref cH) "grace" = some none)
    (n_many : PySem.W.findIn K (.ref cH) "many" = some none)
    (n_measures : PySem.W.findIn K (.ref cH) "measures" = some none)
    (n_plans : PySem.W.findIn K (.ref cH) "plans" = some none)
    (n_rows : PySem.W.findIn K (.ref cH) "rows" = some none)
    (n_takes : PySem.W.findIn K (.ref cH) "takes" = some none)
    (n_thing : PySem.W.findIn K (.ref cM) "thing" = some none)
    (n_today : PySem.W.findIn K (.ref cH) "today" = some none)
    (n_told_on : PySem.W.findIn K (.ref cM) "told_on" = some none)
    (n_underway : PySem.W.findIn K (.ref cH) "underway" = some none)
    (n_units : PySem.W.findIn K (.ref cM) "units" = some none)
    (v_LETTERS : PySem.W.nsIn K mainGlobals "LETTERS" = some (some (.str "abcdefghijklmnopqrstuvwxyz" t_LETTERS)))
    (v_MONTH : PySem.W.nsIn K mainGlobals "MONTH" = some (some (.int 30 t_MONTH)))
    (v_MOST_CAP : PySem.W.nsIn K mainGlobals "MOST_CAP" = some (some (.int 999999 t_MOST_CAP)))
    (v_MOST_FEE : PySem.W.nsIn K mainGlobals "MOST_FEE" = some (some (.int 9999 t_MOST_FEE)))
    (v_MOST_GRACE : PySem.W.nsIn K mainGlobals "MOST_GRACE" = some (some (.int 29 t_MOST_GRACE)))
    (v_MOST_LETTERS : PySem.W.nsIn K mainGlobals "MOST_LETTERS" = some (some (.int 6 t_MOST_LETTERS)))
    (v_MOST_PLANS : PySem.W.nsIn K mainGlobals "MOST_PLANS" = some (some (.int 8 t_MOST_PLANS)))
    (v_MOST_PRICE : PySem.W.nsIn K mainGlobals "MOST_PRICE" = some (some (.int 999 t_MOST_PRICE)))
    (v_MOST_STEPS : PySem.W.nsIn K mainGlobals "MOST_STEPS" = some (some (.int 5 t_MOST_STEPS)))
    (v_MOST_UNITS : PySem.W.nsIn K mainGlobals "MOST_UNITS" = some (some (.int 9999 t_MOST_UNITS)))
    (v_YEAR : PySem.W.nsIn K mainGlobals "YEAR" = some (some (.int 360 t_YEAR)))
    (z_all : PySem.W.nsIn K mainGlobals "all" = some none)
    (z_bool : PySem.W.nsIn K mainGlobals "bool" = some none)
    (z_enumerate : PySem.W.nsIn K mainGlobals "enumerate" = some none)
    (z_int : PySem.W.nsIn K mainGlobals "int" = some none)
    (z_isinstance : PySem.W.nsIn K mainGlobals "isinstance" = some none)
    (z_len : PySem.W.nsIn K mainGlobals "len" = some none)
    (z_max : PySem.W.nsIn K mainGlobals "max" = some none)
    (z_min : PySem.W.nsIn K mainGlobals "min" = some none)
    (z_range : PySem.W.nsIn K mainGlobals "range" = some none)
    (z_set : PySem.W.nsIn K mainGlobals "set" = some none)
    (z_sorted : PySem.W.nsIn K mainGlobals "sorted" = some none)
    (z_str : PySem.W.nsIn K mainGlobals "str" = some none)
    (z_sum : PySem.W.nsIn K mainGlobals "sum" = some none)
    (z_tuple : PySem.W.nsIn K mainGlobals "tuple" = some none) :
    ∃ fd : FuncData, (∀ (s : Shared) (v : Value), BindsTo s fd ⟨[v], []⟩ [("_law_script", v)]) ∧ ∀ base : Heap, K.In base → base.Ns mainGlobals mg → FnOk l.prog w K mg base CX0 8 fa fd ["_law_script"] (spLaw K) := by
  have e := hfa.symm.trans (PySem.W.mg_of X G a26)
  cases e
  have F0 := fun_mk (st := st_law_taken) l0 c0 k0
  have F1 := fun_mk (st := st_is_number) l1 c1 k1
  have F2 := fun_mk (st := st_is_name) l2 c2 k2
  have F3 := fun_mk (st := st_are_steps) l3 c3 k3
  have F4 := fun_mk (st := st_is_plan) l4 c4 k4
  have F5 := fun_mk (st := st_need_plans) l5 c5 k5
  have F6 := fun_mk (st := st_House_init) l6 c6 k6
  have F7 := fun_mk (st := st_House_need_day) l7 c7 k7
  have F8 := fun_mk (st := st_House_need_names) l8 c8 k8
  have F9 := fun_mk (st := st_House_done) l9 c9 k9
  have F10 := fun_mk (st := st_House_take) l10 c10 k10
  have F11 := fun_mk (st := st_Measure_init) l11 c11 k11
  have F12 := fun_mk (st := st_House_plan_on) l12 c12 k12
  have F13 := fun_mk (st := st_House_use) l13 c13 k13
  have F14 := fun_mk (st := st_House_need_pair) l14 c14 k14
  have F15 := fun_mk (st := st_House_stretches) l15 c15 k15
  have F16 := fun_mk (st := st_House_counts) l16 c16 k16
  have F17 := fun_mk (st := st_share) l17 c17 k17
  have F18 := fun_mk (st := st_by_steps) l18 c18 k18
  have F19 := fun_mk (st := st_lines_by) l19 c19 k19
  have F20 := fun_mk (st := st_House_parts_in) l20 c20 k20
  have F21 := fun_mk (st := st_House_lines_in) l21 c21 k21
  have F22 := fun_mk (st := st_House_charge_in) l22 c22 k22
  have F23 := fun_mk (st := st_House_charge) l23 c23 k23
  have F24 := fun_mk (st := st_law_charge) l24 c24 k24
  have F25 := fun_mk (st := st_law_plans) l25 c25 k25
  have F26 := fun_mk (st := st_law) l26 c26 k26
  have T : Txt K mg ⟨cH, cM, f_law_taken, _, f_is_number, _, f_is_name, _, f_are_steps, _, f_is_plan, _, f_need_plans, _, f_House_init, _, f_House_need_day, _, f_House_need_names, _, f_House_done, _, f_House_take, _, f_Measure_init, _, f_House_plan_on, _, f_House_use, _, f_House_need_pair, _, f_House_stretches, _, f_House_counts, _, f_share, _, f_by_steps, _, f_lines_by, _, f_House_parts_in, _, f_House_lines_in, _, f_House_charge_in, _, f_House_charge, _, f_law_charge, _, f_law_plans, _, fa, _, t_LETTERS, t_MONTH, t_MOST_CAP, t_MOST_FEE, t_MOST_GRACE, t_MOST_LETTERS, t_MOST_PLANS, t_MOST_PRICE, t_MOST_STEPS, t_MOST_UNITS, t_YEAR⟩ := ⟨F0,
    F0.binds (ps := ["_law_row", "_law_many"]) fun _ _ _ _ _ _ us hl => match us, hl with | [_, _], _ => rfl,
    PySem.W.mg_of X G a0,
    F1,
    F1.binds (ps := ["thing", "low", "high"]) fun _ _ _ _ _ _ us hl => match us, hl with | [_, _, _], _ => rfl,
    PySem.W.mg_of X G a1,
    F2,
    F2.binds (ps := ["thing"]) fun _ _ _ _ _ _ us hl => match us, hl with | [_], _ => rfl,
    PySem.W.mg_of X G a2,
    F3,
    F3.binds (ps := ["steps"]) fun _ _ _ _ _ _ us hl => match us, hl with | [_], _ => rfl,
    PySem.W.mg_of X G a3,
    F4,
    F4.binds (ps := ["plan", "names"]) fun _ _ _ _ _ _ us hl => match us, hl with | [_, _], _ => rfl,
    PySem.W.mg_of X G a4,
    F5,
    F5.binds (ps := ["plans"]) fun _ _ _ _ _ _ us hl => match us, hl with | [_], _ => rfl,
    PySem.W.mg_of X G a5,
    F6,
    F6.binds (ps := ["self", "plans", "grace"]) fun _ _ _ _ _ _ us hl => match us, hl with | [_, _, _], _ => rfl,
    F7,
    F7.binds (ps := ["self", "day"]) fun _ _ _ _ _ _ us hl => match us, hl with | [_, _], _ => rfl,
    ⟨a7, i7, k7⟩,
    F8,
    F8.binds (ps := ["self", "names"]) fun _ _ _ _ _ _ us hl => match us, hl with | [_, _], _ => rfl,
    ⟨a8, i8, k8⟩,
    F9,
    ⟨fun s us ws _ hu hw => match us, hu, ws, hw with | [_, _], _, [_], _ => .of_eq rfl, fun r1 r2 => r1.append r2⟩,
    ⟨a9, i9, k9⟩,
    F10,
    F10.binds (ps := ["self", "today", "client", "thing", "plan"]) fun _ _ _ _ _ _ us hl => match us, hl with | [_, _, _, _, _], _ => rfl,
    ⟨a10, i10, k10⟩,
    F11,
    F11.binds (ps := ["self", "client", "thing", "day", "units", "told_on"]) fun _ _ _ _ _ _ us hl => match us, hl with | [_, _, _, _, _, _], _ => rfl,
    F12,
    F12.binds (ps := ["self", "client", "thing", "day"]) fun _ _ _ _ _ _ us hl => match us, hl with | [_, _, _, _], _ => rfl,
    ⟨a12, i12, k12⟩,
    F13,
    F13.binds (ps := ["self", "today", "client", "thing", "day", "units"]) fun _ _ _ _ _ _ us hl => match us, hl with | [_, _, _, _, _, _], _ => rfl,
    ⟨a13, i13, k13⟩,
    F14,
    F14.binds (ps := ["self", "client", "thing"]) fun _ _ _ _ _ _ us hl => match us, hl with | [_, _, _], _ => rfl,
    ⟨a14, i14, k14⟩,
    F15,
    F15.binds (ps := ["self", "client", "thing", "month", "day"]) fun _ _ _ _ _ _ us hl => match us, hl with | [_, _, _, _, _], _ => rfl,
    ⟨a15, i15, k15⟩,
    F16,
    F16.binds (ps := ["self", "measure", "day"]) fun _ _ _ _ _ _ us hl => match us, hl with | [_, _, _], _ => rfl,
    ⟨a16, i16, k16⟩,
    F17,
    F17.binds (ps := ["fee", "begin", "end"]) fun _ _ _ _ _ _ us hl => match us, hl with | [_, _, _], _ => rfl,
    PySem.W.mg_of X G a17,
    F18,
    F18.binds (ps := ["steps", "units"]) fun _ _ _ _ _ _ us hl => match us, hl with | [_, _], _ => rfl,
    PySem.W.mg_of X G a18,
    F19,
    F19.binds (ps := ["plan", "begin", "end", "units"]) fun _ _ _ _ _ _ us hl => match us, hl with | [_, _, _, _], _ => rfl,
    PySem.W.mg_of X G a19,
    F20,
    F20.binds (ps := ["self", "client", "thing", "month", "day"]) fun _ _ _ _ _ _ us hl => match us, hl with | [_, _, _, _, _], _ => rfl,
    ⟨a20, i20, k20⟩,
    F21,
    F21.binds (ps := ["self", "client", "thing", "month", "day"]) fun _ _ _ _ _ _ us hl => match us, hl with | [_, _, _, _, _], _ => rfl,
    ⟨a21, i21, k21⟩,
    F22,
    F22.binds (ps := ["self", "client", "thing", "month", "day"]) fun _ _ _ _ _ _ us hl => match us, hl with | [_, _, _, _, _], _ => rfl,
    ⟨a22, i22, k22⟩,
    F23,
    F23.binds (ps := ["self", "client", "thing", "month"]) fun _ _ _ _ _ _ us hl => match us, hl with | [_, _, _, _], _ => rfl,
    ⟨a23, i23, k23⟩,
    F24,
    F24.binds (ps := ["_law_plan", "_law_units", "_law_begin"]) fun _ _ _ _ _ _ us hl => match us, hl with | [_, _, _], _ => rfl,
    PySem.W.mg_of X G a24,
    F25,
    F25.binds (ps := ["_law_row"]) fun _ _ _ _ _ _ us hl => match us, hl with | [_], _ => rfl,
    PySem.W.mg_of X G a25,
    F26,
    ⟨pgcH, hdcH, pocH, sacH⟩,
    ⟨mkcH, a6, i6, kccH⟩,
    PySem.W.mg_of X G acH,
    ⟨pgcM, hdcM, pocM, sacM⟩,
    ⟨mkcM, a11, i11, kccM⟩,
    PySem.W.mg_of X G acM,
    n_bills,
    n_book,
    n_client,
    n_credits,
    n_day,
    n_gone,
    n_grace,
    n_many,
    n_measures,
    n_plans,
    n_rows,
    n_takes,
    n_thing,
    n_today,
    n_told_on,
    n_underway,
    n_units,
    PySem.W.mg_of X G v_LETTERS,
    PySem.W.mg_of X G v_MONTH,
    PySem.W.mg_of X G v_MOST_CAP,
    PySem.W.mg_of X G v_MOST_FEE,
    PySem.W.mg_of X G v_MOST_GRACE,
    PySem.W.mg_of X G v_MOST_LETTERS,
    PySem.W.mg_of X G v_MOST_PLANS,
    PySem.W.mg_of X G v_MOST_PRICE,
    PySem.W.mg_of X G v_MOST_STEPS,
    PySem.W.mg_of X G v_MOST_UNITS,
    PySem.W.mg_of X G v_YEAR,
    PySem.W.mg_none_of X G z_all,
    PySem.W.mg_none_of X G z_bool,
    PySem.W.mg_none_of X G z_enumerate,
    PySem.W.mg_none_of X G z_int,
    PySem.W.mg_none_of X G z_isinstance,
    PySem.W.mg_none_of X G z_len,
    PySem.W.mg_none_of X G z_max,
    PySem.W.mg_none_of X G z_min,
    PySem.W.mg_none_of X G z_range,
    PySem.W.mg_none_of X G z_set,
    PySem.W.mg_none_of X G z_sorted,
    PySem.W.mg_none_of X G z_str,
    PySem.W.mg_none_of X G z_sum,
    PySem.W.mg_none_of X G z_tuple⟩
  exact ⟨_, fun s v => .of_eq rfl, fun base _ _ => (ok_law T).imp fun vs H Q E h => by
    obtain ⟨a, ns, rfl, hs, hn, k⟩ := h
    obtain ⟨M, hM⟩ := lawHolds cH cM ns hn
    exact ⟨H, [], [], [.scr ns], .bl true, M, hr_nil, ⟨_, _, rfl, ⟨a, rfl, hs⟩, rfl⟩, rfl, hM, fun Z' io' v H' _ _ r => by have r' : v = .bl true := r; subst r'; exact k H'⟩⟩
theorem walk {l : PySem.W.OpenLaw} {q : Program} {loose : List Str} {XP : (Str → Option Value) → Heap → Prop} {YP : World → Heap → Prop} {d : DefRec} {K : Params → PySem.W.Frag} (hn : l.most = some 63) (hdf : d.params.defaults = [])
    (hY : ∀ (w : World) (h : Heap), YP w h → (K w.params).In h)
    (F : ∀ (w : World) (mg : Str → Option Value) (fa : Addr) (h : Heap), (K w.params).In h → h.Ns mainGlobals mg → mg d.name = some (.ref fa) →
      ∃ fd : FuncData, (∀ (s : Shared) (u : Value), BindsTo s fd ⟨[u], []⟩ [("_law_script", u)]) ∧ ∀ base : Heap, (K w.params).In base → base.Ns mainGlobals mg → FnOk l.prog w (K w.params) mg base CX0 8 fa fd ["_law_script"] (spLaw (K w.params))) :
    PySem.W.WalkO q loose XP YP l.row.toRowW d [] (fun f vs => PySem.call f vs) :=
  L2.walk_of (n := 63) (k := 8) (x := "_law_script") (CX := fun _ => CX0) (sp := fun w => spLaw (K w.params)) hn (by decide) hdf ⟨rfl, by decide, by decide⟩ hY F (fun _ _ a ns hl _ hS => ⟨a, ns, rfl, hS, hl, fun _ => rfl⟩) fun _ _ _ _ _ z => z
end Wk
end Sim
set_option Elab.async false
set_option linter.all false
set_option maxRecDepth 100000
set_option maxHeartbeats 4000000
open PySem PySem.W PyProof.Rows in
set_option maxRecDepth 100000 in
set_option maxHeartbeats 0 in
theorem PySem.Challenge.cw_chargehouse_k22_whole_more_is_no_less_holds : PySem.Challenge.rw_chargehouse_k22_whole_more_is_no_less.Holds := by
  w_on; o_law; k_head; (case hw => w_witness2)
  k_fill
  refine Sim.Wk.walk (l := PySem.Challenge.rw_chargehouse_k22_whole_more_is_no_less) rfl rfl (fun w h Y => PySem.W.kIn_of Y) ?F
  case F =>
    intro w mg fa h KX G hmg
    refine' Sim.Wk.all_mk Sim.law_holds KX G hmg ?acH ?acM ?a0 ?l0 ?c0 ?k0 ?a1 ?l1 ?c1 ?k1 ?a2 ?l2 ?c2 ?k2 ?a3 ?l3 ?c3 ?k3 ?a4 ?l4 ?c4 ?k4 ?a5 ?l5 ?c5 ?k5 ?a6 ?i6 ?l6 ?c6 ?k6 ?a7 ?i7 ?l7 ?c7 ?k7 ?a8 ?i8 ?l8 ?c8 ?k8 ?a9 ?i9 ?l9 ?c9 ?k9 ?a10 ?i10 ?l10 ?c10 ?k10 ?a11 ?i11 ?l11 ?c11 ?k11 ?a12 ?i12 ?l12 ?c12 ?k12 ?a13 ?i13 ?l13 ?c13 ?k13 ?a14 ?i14 ?l14 ?c14 ?k14 ?a15 ?i15 ?l15 ?c15 ?k15 ?a16 ?i16 ?l16 ?c16 ?k16 ?a17 ?l17 ?c17 ?k17 ?a18 ?l18 ?c18 ?k18 ?a19 ?l19 ?c19 ?k19 ?a20 ?i20 ?l20 ?c20 ?k20 ?a21 ?i21 ?l21 ?c21 ?k21 ?a22 ?i22 ?l22 ?c22 ?k22 ?a23 ?i23 ?l23 ?c23 ?k23 ?a24 ?l24 ?c24 ?k24 ?a25 ?l25 ?c25 ?k25 ?a26 ?l26 ?c26 ?k26 ?pgcH ?hdcH ?pocH ?sacH ?mkcH ?kccH ?pgcM ?hdcM ?pocM ?sacM ?mkcM ?kccM ?n_bills ?n_book ?n_client ?n_credits ?n_day ?n_gone ?n_grace ?n_many ?n_measures ?n_plans ?n_rows ?n_takes ?n_thing ?n_today ?n_told_on ?n_underway ?n_units ?v_LETTERS ?v_MONTH ?v_MOST_CAP ?v_MOST_FEE ?v_MOST_GRACE ?v_MOST_LETTERS ?v_MOST_PLANS ?v_MOST_PRICE ?v_MOST_STEPS ?v_MOST_UNITS ?v_YEAR ?z_all ?z_bool ?z_enumerate ?z_int ?z_isinstance ?z_len ?z_max ?z_min ?z_range ?z_set ?z_sorted ?z_str ?z_sum ?z_tuple
    (case acH => k_is)
    (case acM => k_is)
    (case a0 => k_is)
    (case l0 => k_is)
    (case c0 => k_is)
    (case k0 => k_is)
    (case a1 => k_is)
    (case l1 => k_is)
    (case c1 => k_is)
    (case k1 => k_is)
    (case a2 => k_is)
    (case l2 => k_is)
    (case c2 => k_is)
    (case k2 => k_is)
    (case a3 => k_is)
    (case l3 => k_is)
    (case c3 => k_is)
    (case k3 => k_is)
    (case a4 => k_is)
    (case l4 => k_is)
    (case c4 => k_is)
    (case k4 => k_is)
    (case a5 => k_is)
    (case l5 => k_is)
    (case c5 => k_is)
    (case k5 => k_is)
    (case a6 => k_is)
    (case i6 => k_is)
    (case l6 => k_is)
    (case c6 => k_is)
    (case k6 => k_is)
    (case a7 => k_is)
    (case i7 => k_is)
    (case l7 => k_is)
    (case c7 => k_is)
    (case k7 => k_is)
    (case a8 => k_is)
    (case i8 => k_is)
    (case l8 => k_is)
    (case c8 => k_is)
    (case k8 => k_is)
    (case a9 => k_is)
    (case i9 => k_is)
    (case l9 => k_is)
    (case c9 => k_is)
    (case k9 => k_is)
    (case a10 => k_is)
    (case i10 => k_is)
    (case l10 => k_is)
    (case c10 => k_is)
    (case k10 => k_is)
    (case a11 => k_is)
    (case i11 => k_is)
    (case l11 => k_is)
    (case c11 => k_is)
    (case k11 => k_is)
    (case a12 => k_is)
    (case i12 => k_is)
    (case l12 => k_is)
    (case c12 => k_is)
    (case k12 => k_is)
    (case a13 => k_is)
    (case i13 => k_is)
    (case l13 => k_is)
    (case c13 => k_is)
    (case k13 => k_is)
    (case a14 => k_is)
    (case i14 => k_is)
    (case l14 => k_is)
    (case c14 => k_is)
    (case k14 => k_is)
    (case a15 => k_is)
    (case i15 => k_is)
    (case l15 => k_is)
    (case c15 => k_is)
    (case k15 => k_is)
    (case a16 => k_is)
    (case i16 => k_is)
    (case l16 => k_is)
    (case c16 => k_is)
    (case k16 => k_is)
    (case a17 => k_is)
    (case l17 => k_is)
    (case c17 => k_is)
    (case k17 => k_is)
    (case a18 => k_is)
    (case l18 => k_is)
    (case c18 => k_is)
    (case k18 => k_is)
    (case a19 => k_is)
    (case l19 => k_is)
    (case c19 => k_is)
    (case k19 => k_is)
    (case a20 => k_is)
    (case i20 => k_is)
    (case l20 => k_is)
    (case c20 => k_is)
    (case k20 => k_is)
    (case a21 => k_is)
    (case i21 => k_is)
    (case l21 => k_is)
    (case c21 => k_is)
    (case k21 => k_is)
    (case a22 => k_is)
    (case i22 => k_is)
    (case l22 => k_is)
    (case c22 => k_is)
    (case k22 => k_is)
    (case a23 => k_is)
    (case i23 => k_is)
    (case l23 => k_is)
    (case c23 => k_is)
    (case k23 => k_is)
    (case a24 => k_is)
    (case l24 => k_is)
    (case c24 => k_is)
    (case k24 => k_is)
    (case a25 => k_is)
    (case l25 => k_is)
    (case c25 => k_is)
    (case k25 => k_is)
    (case a26 => k_is)
    (case l26 => k_is)
    (case c26 => k_is)
    (case k26 => k_is)
    (case pgcH => k_is)
    (case hdcH => k_is)
    (case pocH => k_is)
    (case sacH => k_is)
    (case mkcH => k_is)
    (case kccH => k_is)
    (case pgcM => k_is)
    (case hdcM => k_is)
    (case pocM => k_is)
    (case sacM => k_is)
    (case mkcM => k_is)
    (case kccM => k_is)
    (case n_bills => k_is)
    (case n_book => k_is)
    (case n_client => k_is)
    (case n_credits => k_is)
    (case n_day => k_is)
    (case n_gone => k_is)
    (case n_grace => k_is)
    (case n_many => k_is)
    (case n_measures => k_is)
    (case n_plans => k_is)
    (case n_rows => k_is)
    (case n_takes => k_is)
    (case n_thing => k_is)
    (case n_today => k_is)
    (case n_told_on => k_is)
    (case n_underway => k_is)
    (case n_units => k_is)
    (case v_LETTERS => k_is)
    (case v_MONTH => k_is)
    (case v_MOST_CAP => k_is)
    (case v_MOST_FEE => k_is)
    (case v_MOST_GRACE => k_is)
    (case v_MOST_LETTERS => k_is)
    (case v_MOST_PLANS => k_is)
    (case v_MOST_PRICE => k_is)
    (case v_MOST_STEPS => k_is)
    (case v_MOST_UNITS => k_is)
    (case v_YEAR => k_is)
    (case z_all => k_is)
    (case z_bool => k_is)
    (case z_enumerate => k_is)
    (case z_int => k_is)
    (case z_isinstance => k_is)
    (case z_len => k_is)
    (case z_max => k_is)
    (case z_min => k_is)
    (case z_range => k_is)
    (case z_set => k_is)
    (case z_sorted => k_is)
    (case z_str => k_is)
    (case z_sum => k_is)
    (case z_tuple => k_is)
