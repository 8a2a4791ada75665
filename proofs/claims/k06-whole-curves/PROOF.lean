import PyProof.Rows.All
import Wide.All
import OpenK.AllK
import Wide.FinOn
import HandS.ForMost
import HandS.ForExc
import HandS.CallSlots
import HandS.Wide
import HandS.IsInst
import HandS.Style
import HandS.Lambda
import HandS.Defaults
import HandS.TupAny
import KE.GoesEnum
import HandS.Iter
import HandS.Set
import HandS.More
import KE.KExcSuper
import HandS.TryMany
import PyProof.ReprReads
import PyProof.StrHeap
import PyProof.InstNe
import HandS.Dict
import HandS.EndTab
import HandS.EndBits
import HandS.Head0
import HandS.Head1
import HandS.Head2
import HandS.HeadHook4
import PySem.Challenge.RW_zeropoles_k06_whole_curves
set_option Elab.async false
set_option maxRecDepth 100000
set_option linter.all false
/-! Den: a functional reading over the hand layer's judgements: values as data, a heap that only grows, lists of a frame's own that change in place. -/
namespace Zp
open PySem PySem.Spec PyProof.Rows L2
/-! ### data -/
/-- the draws' state -/
structure PenS where
  cells : List Int
  at_ : Nat
  digits : Int
  count : Int
  fold : Int
inductive D where
  | non | bl (b : Bool) | int (i : Int) | str (x : Str) | tup (xs : List D) | lst (xs : List D) | obj (c : Nat) (xs : List D) | pen
/-- the ghosts: classes by number, their fields, where the pen stands -/
structure Gm where
  cl : Nat → Addr
  fl : Nat → List Str
  pa : Option Addr
  pl : Addr
  sf : Option Addr := none
  tb : List (Addr × Str) := []
inductive Rep (K : PySem.W.Frag) (g : Gm) (G : Hp) : V → D → Prop
  | non : Rep K g G .non .non
  | bl (b : Bool) : Rep K g G (.bl b) (.bl b)
  | int (i : Int) : Rep K g G (.int i) (.int i)
  | str (x : Str) : Rep K g G (.str x) (.str x)
  | tup {a : Addr} {vs : List V} {ds : List D} (h : SqT K G a vs) (hl : vs.length = ds.length) (hi : ∀ (i : Nat) v d, vs[i]? = some v → ds[i]? = some d → Rep K g G v d) : Rep K g G (.ref a) (.tup ds)
  | lst {a : Addr} {vs : List V} {ds : List D} (h : G a = some (.lst vs)) (hl : vs.length = ds.length) (hi : ∀ (i : Nat) v d, vs[i]? = some v → ds[i]? = some d → Rep K g G v d) : Rep K g G (.ref a) (.lst ds)
  | obj {a dx : Addr} {c : Nat} {fs : List (Str × V)} {ds : List D} (vv : Nat → V) (h : G a = some (.ins (g.cl c) dx fs)) (hn : ∀ m, m ∉ g.fl c → fs.lookup m = none) (hf : ∀ (i : Nat) f, (g.fl c)[i]? = some f → fs.lookup f = some (vv i))
      (hl : (g.fl c).length = ds.length) (hi : ∀ (i : Nat) d, ds[i]? = some d → Rep K g G (vv i) d) : Rep K g G (.ref a) (.obj c ds)
  | pen {a : Addr} (h : g.pa = some a) : Rep K g G (.ref a) .pen
def Reps (K : PySem.W.Frag) (g : Gm) (G : Hp) (vs : List V) (ds : List D) : Prop := vs.length = ds.length ∧ ∀ (i : Nat) v d, vs[i]? = some v → ds[i]? = some d → Rep K g G v d
section
variable {K : PySem.W.Frag} {g : Gm} {G G' H H' : Hp}
theorem sameSqT {a : Addr} {xs : List V} (e : Same G G') (h : SqT K G a xs) : SqT K G' a xs := by
  rcases h with (h | ⟨o, h⟩) | h
  · exact .inl (.inl (e _ _ h))
  · exact .inl (.inr ⟨o, e _ _ h⟩)
  · exact .inr h
theorem Rep.mono {v : V} {d : D} (r : Rep K g G v d) (e : Same G G') : Rep K g G' v d := by
  induction r with
  | non => exact .non
  | bl b => exact .bl b
  | int i => exact .int i
  | str x => exact .str x
  | tup h hl _ ih => exact .tup (sameSqT e h) hl ih
  | lst h hl _ ih => exact .lst (e _ _ h) hl ih
  | obj vv h hn hf hl _ ih => exact .obj vv (e _ _ h) hn hf hl ih
  | pen h => exact .pen h
theorem Reps.mono {vs : List V} {ds : List D} (r : Reps K g G vs ds) (e : Same G G') : Reps K g G' vs ds := ⟨r.1, fun i v d h1 h2 => (r.2 i v d h1 h2).mono e⟩
theorem Reps.nil : Reps K g G [] [] := ⟨rfl, fun i v d h _ => by simp at h⟩
theorem Reps.cons {v : V} {d : D} {vs : List V} {ds : List D} (r : Rep K g G v d) (t : Reps K g G vs ds) : Reps K g G (v :: vs) (d :: ds) := by
  refine ⟨by simp [t.1], fun i x y h1 h2 => ?_⟩
  cases i with
  | zero =>
    simp at h1 h2
    subst h1
    subst h2
    exact r
  | succ i =>
    simp at h1 h2
    exact t.2 i x y h1 h2
theorem Reps.get {vs : List V} {ds : List D} (r : Reps K g G vs ds) {i : Nat} {d : D} (h : ds[i]? = some d) : ∃ v, vs[i]? = some v ∧ Rep K g G v d := by
  have hi : i < vs.length := by
    rw [r.1]
    exact (List.getElem?_eq_some_iff.mp h).1
  exact ⟨vs[i], List.getElem?_eq_getElem hi, r.2 i _ d (List.getElem?_eq_getElem hi) h⟩
theorem Reps.append {vs ws : List V} {ds es : List D} (r : Reps K g G vs ds) (t : Reps K g G ws es) : Reps K g G (vs ++ ws) (ds ++ es) := by
  refine ⟨by simp [r.1, t.1], fun i x y h1 h2 => ?_⟩
  by_cases hi : i < vs.length
  · rw [List.getElem?_append_left hi] at h1
    rw [List.getElem?_append_left (by rw [← r.1]; exact hi)] at h2
    exact r.2 i x y h1 h2
  · rw [List.getElem?_append_right (by omega)] at h1
    rw [List.getElem?_append_right (by rw [← r.1]; omega), ← r.1] at h2
    exact t.2 _ x y h1 h2
theorem Reps.set {vs : List V} {ds : List D} {v : V} {d : D} (r : Reps K g G vs ds) (j : Nat) (h : Rep K g G v d) : Reps K g G (vs.set j v) (ds.set j d) := by
  refine ⟨by simp [r.1], fun i x y h1 h2 => ?_⟩
  by_cases e : j = i
  · subst e
    have hj : j < vs.length := by
      have := (List.getElem?_eq_some_iff.mp h1).1
      simpa using this
    rw [List.getElem?_set_self hj] at h1
    rw [List.getElem?_set_self (by rw [← r.1]; exact hj)] at h2
    cases h1
    cases h2
    exact h
  · rw [List.getElem?_set_ne e] at h1 h2
    exact r.2 i x y h1 h2
theorem Reps.take {vs : List V} {ds : List D} (r : Reps K g G vs ds) (n : Nat) : Reps K g G (vs.take n) (ds.take n) := by
  refine ⟨by simp [r.1], fun i x y h1 h2 => ?_⟩
  rw [List.getElem?_take] at h1 h2
  split at h1
  · rw [if_pos (by assumption)] at h2
    exact r.2 i x y h1 h2
  · cases h1
theorem Reps.drop {vs : List V} {ds : List D} (r : Reps K g G vs ds) (n : Nat) : Reps K g G (vs.drop n) (ds.drop n) := by
  refine ⟨by simp [r.1], fun i x y h1 h2 => ?_⟩
  rw [List.getElem?_drop] at h1 h2
  exact r.2 _ x y h1 h2
theorem Reps.reverse {vs : List V} {ds : List D} (r : Reps K g G vs ds) : Reps K g G vs.reverse ds.reverse := by
  refine ⟨by simp [r.1], fun i x y h1 h2 => ?_⟩
  have hi : i < vs.length := by
    have := (List.getElem?_eq_some_iff.mp h1).1
    simpa using this
  rw [List.getElem?_reverse hi] at h1
  rw [List.getElem?_reverse (by rw [← r.1]; exact hi), ← r.1] at h2
  exact r.2 _ x y h1 h2
theorem Reps.dropLast {vs : List V} {ds : List D} (r : Reps K g G vs ds) : Reps K g G vs.dropLast ds.dropLast := by
  rw [List.dropLast_eq_take, List.dropLast_eq_take, ← r.1]
  exact r.take _
theorem Reps.rep {vs : List V} {ds : List D} (r : Reps K g G vs ds) : ∀ k : Nat, Reps K g G (List.replicate k vs).flatten (List.replicate k ds).flatten
  | 0 => Reps.nil
  | k + 1 => by
    rw [List.replicate_succ, List.replicate_succ, List.flatten_cons, List.flatten_cons]
    exact r.append (Reps.rep r k)
end
/-! ### the pen -/
def penKv (l : Addr) (s : PenS) : List (Key × V) := [(.inr "cells", .ref l), (.inr "at", .int s.at_), (.inr "digits", .int s.digits), (.inr "count", .int s.count), (.inr "fold", .int s.fold)]
structure PenAt (g : Gm) (G H : Hp) (a : Addr) (s : PenS) : Prop where
  no : G a = none
  cs : G g.pl = some (.lst (s.cells.map V.int))
  at_ : H a = some (.dK (penKv g.pl s))
structure PenOk (g : Gm) (G H : Hp) (s : PenS) : Prop where
  pen : ∀ a, g.pa = some a → PenAt g G H a s
  tb : LamX.Tabs g.tb H
  nt : ∀ a ps, G a ≠ some (.tbl ps)
instance {g : Gm} {G H : Hp} {s : PenS} : CoeFun (PenOk g G H s) fun _ => ∀ a, g.pa = some a → PenAt g G H a s := ⟨PenOk.pen⟩
/-- the tables stay where another object changes -/
theorem tabs_upd {T : List (Addr × Str)} {H : Hp} {a : Addr} {o o' : HO} (h : H a = some o) (n1 : ∀ ps, o ≠ .tbl ps) (n2 : ∀ φ, o ≠ .ext φ) (t : LamX.Tabs T H) : LamX.Tabs T (upd H a o') := fun p hp => by
  obtain ⟨ps, h1, h2, h3⟩ := t p hp
  refine ⟨ps, by rw [upd_ne (fun z => by rw [z, h] at h1; exact n1 ps (Option.some.inj h1))]; exact h1, h2, fun pos cv hc => ?_⟩
  obtain ⟨c, e1, e2⟩ := h3 pos cv hc
  refine ⟨c, e1, ?_⟩
  rw [upd_ne (fun z => by rw [z, h] at e2; exact n2 _ (Option.some.inj e2))]
  exact e2
/-! ### what a piece of code may do to the heap -/
/-- a thing is there, no table -/
def Lv (H : Hp) (a : Addr) : Prop := ∃ o, H a = some o ∧ ∀ ps, o ≠ .tbl ps
theorem lv_none {H : Hp} {a : Addr} (h : H a = none) : ¬ Lv H a := fun ⟨o, e, _⟩ => by rw [h] at e; cases e
structure Stp (g : Gm) (G H G' H' : Hp) : Prop where
  gg : Same G G'
  gh : Same G' H'
  hh : ∀ a o, H a = some o → g.pa ≠ some a → (∀ ps, o ≠ .tbl ps) → H' a = some o
  nw : ∀ a, G a = none → Lv H a → G' a = none
  al : ∀ a, Lv H a → Lv H' a
theorem Stp.refl {g : Gm} {G H : Hp} (h : Same G H) : Stp g G H G H := ⟨Same.refl _, h, fun _ _ q _ _ => q, fun _ q _ => q, fun _ q => q⟩
theorem Stp.fr {g : Gm} {G H G' H' : Hp} (a : Stp g G H G' H') {x : Addr} (h : H' x = none) : ¬ Lv H x := fun l => lv_none h (a.al x l)
theorem Stp.fr' {g : Gm} {G H G' H' : Hp} (a : Stp g G H G' H') {x : Addr} (h : ¬ Lv H' x) : ¬ Lv H x := fun l => h (a.al x l)
theorem Stp.trans {g : Gm} {G H G1 H1 G2 H2 : Hp} (a : Stp g G H G1 H1) (b : Stp g G1 H1 G2 H2) (hp : ∀ x, g.pa = some x → H x ≠ none → H1 x ≠ none) : Stp g G H G2 H2 := by
  exact ⟨a.gg.trans b.gg, b.gh, fun x o h n t => b.hh x o (a.hh x o h n t) n t, fun x h n => b.nw x (a.nw x h n) (a.al x n), fun x n => b.al x (a.al x n)⟩
theorem PenOk.there {g : Gm} {G H : Hp} {s : PenS} (p : PenOk g G H s) {x : Addr} (h : g.pa = some x) : H x ≠ none := by
  rw [(p x h).at_]
  exact fun z => by cases z
theorem PenOk.lv {g : Gm} {G H : Hp} {s : PenS} (p : PenOk g G H s) {x : Addr} (h : g.pa = some x) : Lv H x := ⟨_, (p x h).at_, fun ps z => by cases z⟩
/-- nothing at all is changed -/
structure StpS (G H G' H' : Hp) : Prop where
  gg : Same G G'
  gh : Same G' H'
  hh : Same H H'
  nw : ∀ a, G a = none → Lv H a → G' a = none
  nt : (∀ a ps, G a ≠ some (.tbl ps)) → ∀ a ps, G' a ≠ some (.tbl ps)
theorem StpS.stp {g : Gm} {G H G' H' : Hp} (a : StpS G H G' H') : Stp g G H G' H' := ⟨a.gg, a.gh, fun x o h _ _ => a.hh x o h, a.nw, fun x ⟨o, e, t⟩ => ⟨o, a.hh x o e, t⟩⟩
theorem StpS.refl {G H : Hp} (h : Same G H) : StpS G H G H := ⟨Same.refl _, h, Same.refl _, fun _ q _ => q, fun q => q⟩
theorem StpS.pen {g : Gm} {G H G' H' : Hp} {s : PenS} (a : StpS G H G' H') (p : PenOk g G H s) : PenOk g G' H' s := ⟨fun x e => by
  have q := p x e
  exact ⟨a.nw x q.no (p.lv e), a.gg _ _ q.cs, a.hh _ _ q.at_⟩, p.tb.ext a.hh, a.nt p.nt⟩
theorem al_upd {H0 H : Hp} {a : Addr} {o : HO} (ho : ∀ ps, o ≠ .tbl ps) (al : ∀ b, Lv H0 b → Lv H b) : ∀ b, Lv H0 b → Lv (upd H a o) b := fun b n => by
  by_cases e : b = a
  · subst e
    exact ⟨o, upd_same, ho⟩
  · obtain ⟨u, h1, h2⟩ := al b n
    exact ⟨u, by rw [upd_ne e]; exact h1, h2⟩
/-- a new frozen object -/
theorem nt_upd {G : Hp} {p : Addr} {o : HO} (ho : ∀ ps, o ≠ .tbl ps) (n : ∀ a ps, G a ≠ some (.tbl ps)) : ∀ a ps, upd G p o a ≠ some (.tbl ps) := fun a ps => by
  by_cases e : a = p
  · subst e
    rw [upd_same]
    exact fun z => ho ps (Option.some.inj z)
  · rw [upd_ne e]
    exact n a ps
theorem StpS.new {G H : Hp} {p : Addr} {o : HO} (h : Same G H) (hp : H p = none) (ho : ∀ ps, o ≠ .tbl ps := by intro ps z; cases z) : StpS G H (upd G p o) (upd H p o) := by
  have hg : G p = none := h.free hp
  refine ⟨fun b x e => ?_, fun b x e => ?_, fun b x e => ?_, fun b e n => ?_, nt_upd ho⟩
  · rw [upd_ne (ne_of_none e hg)]
    exact e
  · by_cases hb : b = p
    · subst hb
      rw [upd_same] at e ⊢
      exact e
    · rw [upd_ne hb] at e ⊢
      exact h _ _ e
  · rw [upd_ne (ne_of_none e hp)]
    exact e
  · have hb : b ≠ p := fun z => lv_none hp (by rw [← z]; exact n)
    rw [upd_ne hb]
    exact e
/-- a new object, not frozen -/
theorem StpS.newO {G H : Hp} {p : Addr} {o : HO} (h : Same G H) (hp : H p = none) : StpS G H G (upd H p o) := by
  have q : Same H (upd H p o) := fun b x e => by
    rw [upd_ne (ne_of_none e hp)]
    exact e
  exact ⟨Same.refl _, h.trans q, q, fun _ e _ => e, fun n => n⟩
/-! ### frames -/
inductive Sv where
  | no | val (d : D) | own (ds : List D) | ins (c : Nat) (fs : List (Str × D))
/-- the attributes of an object that is being made -/
def FReps (K : PySem.W.Frag) (g : Gm) (G : Hp) (vfs : List (Str × V)) (fs : List (Str × D)) : Prop := vfs.map (·.1) = fs.map (·.1) ∧ Reps K g G (vfs.map (·.2)) (fs.map (·.2))
theorem FReps.mono {K : PySem.W.Frag} {g : Gm} {G G' : Hp} {vfs : List (Str × V)} {fs : List (Str × D)} (r : FReps K g G vfs fs) (e : Same G G') : FReps K g G' vfs fs := ⟨r.1, r.2.mono e⟩
/-- the object that a frame is making, at a -/
structure FRepA (K : PySem.W.Frag) (g : Gm) (G : Hp) (a : Addr) (vfs : List (Str × V)) (fs : List (Str × D)) : Prop where
  fr : FReps K g G vfs fs
  sf : g.sf = some a
theorem FRepA.mono {K : PySem.W.Frag} {g : Gm} {G G' : Hp} {a : Addr} {vfs : List (Str × V)} {fs : List (Str × D)} (r : FRepA K g G a vfs fs) (e : Same G G') : FRepA K g G' a vfs fs := ⟨r.fr.mono e, r.sf⟩
structure Fq (K : PySem.W.Frag) (g : Gm) (G H : Hp) (σ : L2.St) (ρ : List Sv) (s : PenS) : Prop where
  gh : Same G H
  pen : PenOk g G H s
  len : ρ.length = σ.length
  val : ∀ (i : Nat) d, ρ[i]? = some (.val d) → ∃ v, σ[i]? = some (some v) ∧ Rep K g G v d
  own : ∀ (i : Nat) ds, ρ[i]? = some (.own ds) → ∃ a vs, σ[i]? = some (some (.ref a)) ∧ H a = some (.lst vs) ∧ G a = none ∧ g.pa ≠ some a ∧ Reps K g G vs ds
  dist : ∀ (i j : Nat) a ds es, ρ[i]? = some (.own ds) → ρ[j]? = some (.own es) → σ[i]? = some (some (.ref a)) → σ[j]? = some (some (.ref a)) → i = j
  ins : ∀ (i : Nat) c fs, ρ[i]? = some (.ins c fs) → ∃ a dx vfs, σ[i]? = some (some (.ref a)) ∧ H a = some (.ins (g.cl c) dx vfs) ∧ G a = none ∧ g.pa ≠ some a ∧ FRepA K g G a vfs fs
  disti : ∀ (i j : Nat) a c d fs es, ρ[i]? = some (.ins c fs) → ρ[j]? = some (.ins d es) → σ[i]? = some (some (.ref a)) → σ[j]? = some (some (.ref a)) → i = j
theorem Fq.step {K : PySem.W.Frag} {g : Gm} {G H G' H' : Hp} {σ : L2.St} {ρ : List Sv} {s s' : PenS} (f : Fq K g G H σ ρ s) (st : Stp g G H G' H') (pn : PenOk g G' H' s') : Fq K g G' H' σ ρ s' := by
  refine ⟨st.gh, pn, f.len, fun i d h => ?_, fun i ds h => ?_, f.dist, fun i c fs h => ?_, f.disti⟩
  · obtain ⟨v, h1, h2⟩ := f.val i d h
    exact ⟨v, h1, h2.mono st.gg⟩
  · obtain ⟨a, vs, h1, h2, h3, h4, h5⟩ := f.own i ds h
    exact ⟨a, vs, h1, st.hh _ _ h2 h4 (fun ps z => by cases z), st.nw _ h3 ⟨_, h2, fun ps z => by cases z⟩, h4, h5.mono st.gg⟩
  · obtain ⟨a, dx, vfs, h1, h2, h3, h4, h5⟩ := f.ins i c fs h
    exact ⟨a, dx, vfs, h1, st.hh _ _ h2 h4 (fun ps z => by cases z), st.nw _ h3 ⟨_, h2, fun ps z => by cases z⟩, h4, h5.mono st.gg⟩
/-! ### outcomes -/
inductive ResE (α : Type) where
  | ok (a : α) (s : PenS) | exc (c : Nat) (ds : List D) (s : PenS) | bad
def ResE.bind {α β : Type} : ResE α → (α → PenS → ResE β) → ResE β
  | .ok a s, k => k a s
  | .exc c ds s, _ => .exc c ds s
  | .bad, _ => .bad
def lift {α : Type} (o : Option α) (s : PenS) : ResE α := match o with
  | some a => .ok a s
  | none => .bad
/-- what a raised exception keeps -/
def XRep (K : PySem.W.Frag) (g : Gm) (G H : Hp) (od : Option Addr) (c : Nat) (ds : List D) : Prop :=
  (od = none ∧ ds = []) ∨ ∃ (x : Addr) (fs : List (Str × V)) (vv : Nat → V), od = some x ∧ H x = some (.xd fs) ∧ (∀ (i : Nat) f, (g.fl c)[i]? = some f → fs.lookup f = some (vv i)) ∧ ∀ (i : Nat) d, ds[i]? = some d → Rep K g G (vv i) d
section
variable (K : PySem.W.Frag) (g : Gm) (W : WX) (G H : Hp) (σ : L2.St)
def OutX (c : Nat) (ds : List D) (s : PenS) : Prop := ∀ od G' H', Stp g G H G' H' → PenOk g G' H' s → XRep K g G' H' od c ds → W (.ref (g.cl c)) od σ H'
def OutG {α β : Type} (R : Hp → Hp → β → α → Prop) (Q : β → Hp → Prop) : ResE α → Prop
  | .ok d s => ∀ v G' H', Stp g G H G' H' → PenOk g G' H' s → R G' H' v d → Q v H'
  | .exc c ds s => OutX K g W G H σ c ds s
  | .bad => False
end
abbrev RD (K : PySem.W.Frag) (g : Gm) : Hp → Hp → V → D → Prop := fun G _ v d => Rep K g G v d
abbrev RA (K : PySem.W.Frag) (g : Gm) : Hp → Hp → List V → List D → Prop := fun G _ vs ds => Reps K g G vs ds
abbrev RT : Hp → Hp → Bool → Bool → Prop := fun _ _ a b => a = b
/-- a list just made, nobody else's -/
abbrev RO (K : PySem.W.Frag) (g : Gm) (H0 : Hp) : Hp → Hp → V → List D → Prop := fun G H v ds => ∃ a vs, v = .ref a ∧ H a = some (.lst vs) ∧ G a = none ∧ ¬ Lv H0 a ∧ g.pa ≠ some a ∧ Reps K g G vs ds
/-- a list or a tuple to be read -/
abbrev RB (K : PySem.W.Frag) (g : Gm) : Hp → Hp → V → (Bool × List D) → Prop := fun G H v p => ∃ a vs, v = .ref a ∧ (if p.1 = true then SqT K G a vs else H a = some (.lst vs)) ∧ Reps K g G vs p.2
section
variable {K : PySem.W.Frag} {g : Gm} {W : WX} {G H G1 H1 : Hp} {σ : L2.St} {ρ : List Sv} {s s1 : PenS}
theorem OutG.from {α β : Type} {R : Hp → Hp → β → α → Prop} {Q : β → Hp → Prop} {r : ResE α} (h : OutG K g W G H σ R Q r) (pn : PenOk g G1 H1 s1) (st : Stp g G H G1 H1) : OutG K g W G1 H1 σ R Q r := by
  cases r with
  | ok d s2 => exact fun v G' H' a p r => h v G' H' (st.trans a fun x e _ => pn.there e) p r
  | exc c ds s2 => exact fun od G' H' a p r => h od G' H' (st.trans a fun x e _ => pn.there e) p r
  | bad => exact h
theorem OutG.bind {α α' β β' : Type} {R : Hp → Hp → β → α → Prop} {R' : Hp → Hp → β' → α' → Prop} {Q : β → Hp → Prop} {Q' : β' → Hp → Prop} {r : ResE α'} {k : α' → PenS → ResE α} (h : OutG K g W G H σ R Q (r.bind k))
    (hk : ∀ d s' v G' H', Stp g G H G' H' → PenOk g G' H' s' → R' G' H' v d → OutG K g W G' H' σ R Q (k d s') → Q' v H') : OutG K g W G H σ R' Q' r := by
  cases r with
  | ok d s2 => exact fun v G' H' a p r => hk d s2 v G' H' a p r (OutG.from h p a)
  | exc c ds s2 => exact h
  | bad => exact h
/-- a value at the end, nothing changed -/
theorem OutG.lift {α β : Type} {R : Hp → Hp → β → α → Prop} {Q : β → Hp → Prop} {o : Option α} {s : PenS} (h : OutG K g W G H σ R Q (lift o s)) (pn : PenOk g G H s) {d : α} (e : o = some d) {v : β} {G' H' : Hp} (st : StpS G H G' H') (r : R G' H' v d) : Q v H' := by
  subst e
  exact h v G' H' st.stp (st.pen pn) r
theorem OutG.lift_some {α β : Type} {R : Hp → Hp → β → α → Prop} {Q : β → Hp → Prop} {o : Option α} {s : PenS} (h : OutG K g W G H σ R Q (Zp.lift o s)) : ∃ d, o = some d := by
  cases o with
  | none => exact h.elim
  | some d => exact ⟨d, rfl⟩
end
/-! ### the judgements -/
abbrev EF := List Sv → PenS → ResE D
abbrev AF := List Sv → PenS → ResE (List D)
abbrev TF := List Sv → PenS → ResE Bool
abbrev BF := List Sv → PenS → ResE (Bool × List D)
section
variable (X : Cx) (g : Gm) (W : WX)
structure DP (e : Expr) (t : TE) (f : EF) : Prop where
  pe : PE X e t
  den : ∀ G H σ ρ s Q, Fq X.K g G H σ ρ s → OutG X.K g W G H σ (RD X.K g) Q (f ρ s) → t σ H Q
structure DT (e : Expr) (t : TT) (f : TF) : Prop where
  pt : PT X e t
  den : ∀ G H σ ρ s Q, Fq X.K g G H σ ρ s → OutG X.K g W G H σ RT Q (f ρ s) → t σ H Q
structure DA (es : List Expr) (t : TA) (f : AF) : Prop where
  pa : PA X es t
  den : ∀ G H σ ρ s Q, Fq X.K g G H σ ρ s → OutG X.K g W G H σ (RA X.K g) Q (f ρ s) → t σ H Q
/-- a list just made -/
structure DO (e : Expr) (t : TE) (f : AF) : Prop where
  pe : PE X e t
  den : ∀ G H σ ρ s Q, Fq X.K g G H σ ρ s → OutG X.K g W G H σ (RO X.K g H) Q (f ρ s) → t σ H Q
/-- a list or tuple to be read -/
structure DB (e : Expr) (t : TE) (f : BF) : Prop where
  pe : PE X e t
  den : ∀ G H σ ρ s Q, Fq X.K g G H σ ρ s → OutG X.K g W G H σ (RB X.K g) Q (f ρ s) → t σ H Q
end
end Zp
set_option Elab.async false
set_option maxRecDepth 100000
set_option linter.all false
namespace Zp
open PySem PySem.Spec PyProof.Rows L2
/-! ### the functional words -/
def eVar (i : Nat) : EF := fun ρ s => match ρ[i]? with
  | some (.val d) => .ok d s
  | _ => .bad
def eC (d : D) : EF := fun _ s => .ok d s
def eOp (o : D → D → Option D) (f h : EF) : EF := fun ρ s => (f ρ s).bind fun a s1 => (h ρ s1).bind fun b s2 => lift (o a b) s2
def eUn (o : D → Option D) (f : EF) : EF := fun ρ s => (f ρ s).bind fun a s1 => lift (o a) s1
def aNil : AF := fun _ s => .ok [] s
def aCons (f : EF) (h : AF) : AF := fun ρ s => (f ρ s).bind fun a s1 => (h ρ s1).bind fun as s2 => .ok (a :: as) s2
def szB (n : Nat) : Bool := decide (n ≤ 16777216)
def eTup (f : AF) : EF := fun ρ s => (f ρ s).bind fun ds s1 => lift (if szB ds.length = true then some (.tup ds) else none) s1
def oLst (f : AF) : AF := fun ρ s => (f ρ s).bind fun ds s1 => lift (if szB ds.length = true then some ds else none) s1
def eFrz (f : AF) : EF := fun ρ s => (f ρ s).bind fun ds s1 => .ok (.lst ds) s1
def seqOf : D → Option (Bool × List D)
  | .tup ds => some (true, ds)
  | .lst ds => some (false, ds)
  | _ => none
def bOf (f : EF) : BF := fun ρ s => (f ρ s).bind fun d s1 => lift (seqOf d) s1
def bOwn (i : Nat) : BF := fun ρ s => match ρ[i]? with
  | some (.own ds) => .ok (false, ds) s
  | _ => .bad
def eB (o : Bool × List D → Option D) (f : BF) : EF := fun ρ s => (f ρ s).bind fun p s1 => lift (o p) s1
def eBE (o : Bool × List D → D → Option D) (f : BF) (h : EF) : EF := fun ρ s => (f ρ s).bind fun p s1 => (h ρ s1).bind fun d s2 => lift (o p d) s2
def eEB (o : D → Bool × List D → Option D) (f : EF) (h : BF) : EF := fun ρ s => (f ρ s).bind fun d s1 => (h ρ s1).bind fun p s2 => lift (o d p) s2
def oB (o : Bool × List D → Option (List D)) (f : BF) : AF := fun ρ s => (f ρ s).bind fun p s1 => lift (o p) s1
def boolOf : D → Option Bool
  | .bl b => some b
  | _ => none
def tOf (f : EF) : TF := fun ρ s => (f ρ s).bind fun d s1 => lift (boolOf d) s1
def tAndF (f h : TF) : TF := fun ρ s => (f ρ s).bind fun b s1 => if b = true then h ρ s1 else .ok false s1
def tOrF (f h : TF) : TF := fun ρ s => (f ρ s).bind fun b s1 => if b = true then .ok true s1 else h ρ s1
def tNotF (f : TF) : TF := fun ρ s => (f ρ s).bind fun b s1 => .ok (!b) s1
def eAndV (f h : EF) : EF := fun ρ s => (f ρ s).bind fun d s1 => match d with
  | .bl true => h ρ s1
  | .bl false => .ok (.bl false) s1
  | _ => .bad
def eOrV (f h : EF) : EF := fun ρ s => (f ρ s).bind fun d s1 => match d with
  | .bl true => .ok (.bl true) s1
  | .bl false => h ρ s1
  | _ => .bad
def eNotV (f : EF) : EF := fun ρ s => (f ρ s).bind fun d s1 => match d with
  | .bl b => .ok (.bl (!b)) s1
  | _ => .bad
def eIf (c : TF) (f h : EF) : EF := fun ρ s => (c ρ s).bind fun b s1 => if b = true then f ρ s1 else h ρ s1
def chainB (c : D) (s : PenS) (k : PenS → ResE D) : ResE D := match c with
  | .bl true => k s
  | .bl false => .ok (.bl false) s
  | _ => .bad
def eChain (o o' : D → D → Option D) (f h k : EF) : EF := fun ρ s => (f ρ s).bind fun a s1 => (h ρ s1).bind fun b s2 => (lift (o a b) s2).bind fun c s3 => chainB c s3 fun s3 => (k ρ s3).bind fun e s4 => lift (o' b e) s4
/-! ### operations on data -/
def dAdd : D → D → Option D
  | .int i, .int j => some (.int (i + j))
  | .lst a, .lst b => if szB (a.length + b.length) = true then some (.lst (a ++ b)) else none
  | .str a, .str b => if szB (a.length + b.length) = true then some (.str (a ++ b)) else none
  | _, _ => none
def dSub : D → D → Option D
  | .int i, .int j => some (.int (i - j))
  | _, _ => none
/-- a factor that is small, or both not too great -/
def mulOk (i j : Int) : Bool := decide (i.natAbs.log2 + j.natAbs.log2 < 1000000)
def dMul : D → D → Option D
  | .int i, .int j => if mulOk i j = true then some (.int (i * j)) else none
  | .lst a, .int k => if (decide (-(2 ^ 63) ≤ k) && decide (k < 2 ^ 63) && szB (a.length * k.toNat)) = true then some (.lst (List.replicate k.toNat a).flatten) else none
  | _, _ => none
def dMod : D → D → Option D
  | .int i, .int j => if 0 < j then some (.int (i % j)) else none
  | _, _ => none
def dDiv : D → D → Option D
  | .int i, .int j => if (decide (0 < j) && decide (j.natAbs.log2 < 9000)) = true then some (.int (i / j)) else none
  | _, _ => none
def dPow : D → D → Option D
  | .int i, .int j => if (decide (0 ≤ j) && decide (j ≤ 1000000) && decide (i.natAbs < 2 ^ 64)) = true then some (.int (i ^ j.toNat)) else none
  | _, _ => none
def dNeg : D → Option D
  | .int i => some (.int (-i))
  | _ => none
def dCmpI (p : Int → Int → Bool) : D → D → Option D
  | .int i, .int j => some (.bl (p i j))
  | _, _ => none
def dLt := dCmpI fun i j => decide (i < j)
def dLe := dCmpI fun i j => decide (i ≤ j)
def dGt := dCmpI fun i j => decide (j < i)
def dGe := dCmpI fun i j => decide (j ≤ i)
def dIsN : D → D → Option D
  | .non, .non => some (.bl true)
  | _, .non => some (.bl false)
  | _, _ => none
def dNotN : D → D → Option D
  | .non, .non => some (.bl false)
  | _, .non => some (.bl true)
  | _, _ => none
def dLen : Bool × List D → Option D := fun p => some (.int p.2.length)
def dIx : Bool × List D → D → Option D := fun p d => match d with
  | .int i => atI p.2 i
  | _ => none
def dListOf : Bool × List D → Option (List D) := fun p => some p.2
def dTupOf : Bool × List D → Option D := fun p => some (.tup p.2)
def blsOf : List D → Option (List Bool)
  | [] => some []
  | .bl b :: r => (blsOf r).map (b :: ·)
  | _ => none
def dAll : Bool × List D → Option D := fun p => if p.1 = true then none else (blsOf p.2).map fun bs => .bl (bs.all id)
section
variable {K : PySem.W.Frag} {g : Gm} {G G' H H' : Hp}
theorem szB_le {n : Nat} (h : szB n = true) : n ≤ sizeLine := by
  rw [sizeLine_eq]
  exact of_decide_eq_true h
theorem seqOf_rep {v : V} {d : D} {p : Bool × List D} (r : Rep K g G v d) (h : seqOf d = some p) (e : Same G H) : RB K g G H v p := by
  cases r with
  | tup h1 hl hi =>
    cases h
    exact ⟨_, _, rfl, h1, hl, hi⟩
  | lst h1 hl hi =>
    cases h
    exact ⟨_, _, rfl, e _ _ h1, hl, hi⟩
  | _ => cases h
theorem RB.seq {v : V} {p : Bool × List D} (r : RB K g G H v p) (e : Same G H) : ∃ a vs, v = .ref a ∧ (SqL K H a vs ∨ SqT K H a vs) ∧ Reps K g G vs p.2 := by
  obtain ⟨a, vs, h1, h2, h3⟩ := r
  refine ⟨a, vs, h1, ?_, h3⟩
  split at h2
  · exact .inr (sameSqT e h2)
  · exact .inl (SqL.of h2)
/-- a list that is read stays as it is while an expression runs -/
theorem RB.mono {v : V} {p : Bool × List D} (r : RB K g G H v p) (st : Stp g G H G' H') {s : PenS} (pn : PenOk g G H s) : RB K g G' H' v p := by
  obtain ⟨a, vs, rfl, h2, h3⟩ := r
  refine ⟨a, vs, rfl, ?_, h3.mono st.gg⟩
  split at h2
  · rename_i e
    rw [if_pos e]
    exact sameSqT st.gg h2
  · rename_i e
    rw [if_neg e]
    refine st.hh _ _ h2 (fun z => ?_) fun ps z => by cases z
    rw [(pn a z).at_] at h2
    cases h2
theorem atI_rep {vs : List V} {ds : List D} {i : Int} {d : D} (r : Reps K g G vs ds) (h : atI ds i = some d) : ∃ v, atI vs i = some v ∧ Rep K g G v d := by
  unfold atI at h ⊢
  rw [r.1]
  cases e : ixN ds.length i with
  | none =>
    rw [e] at h
    cases h
  | some j =>
    rw [e] at h
    exact r.get h
end
/-! ### operations by rule -/
section
variable (X : Cx) (g : Gm)
structure ROp (f : Value → Value → Sem Value) (r : R2) (o : D → D → Option D) : Prop where
  op : OpR X f r
  den : ∀ {G H : Hp} {x y : V} {a b d : D} {Q : VK}, Same G H → Rep X.K g G x a → Rep X.K g G y b → o a b = some d → (∀ v G' H', StpS G H G' H' → Rep X.K g G' v d → Q v H') → r x y H Q
end
section
variable {X : Cx} {g : Gm}
theorem rop_I0 {f : Value → Value → Sem Value} {h : Int → Int → V} {o : D → D → Option D} (op : OpR X f (rI0 h)) (ho : ∀ a b d, o a b = some d → ∃ i j, a = .int i ∧ b = .int j ∧ ∀ G, Rep X.K g G (h i j) d) : ROp X g f (rI0 h) o :=
  ⟨op, fun {G H x y a b d Q} e rx ry hd k => by
    obtain ⟨i, j, rfl, rfl, q⟩ := ho _ _ _ hd
    cases rx
    cases ry
    exact ⟨i, j, rfl, rfl, k _ G H (StpS.refl e) (q G)⟩⟩
theorem rop_I {f : Value → Value → Sem Value} {C : Int → Int → Prop} {h : Int → Int → V} {o : D → D → Option D} (op : OpR X f (rI C h)) (ho : ∀ a b d, o a b = some d → ∃ i j, a = .int i ∧ b = .int j ∧ C i j ∧ ∀ G, Rep X.K g G (h i j) d) : ROp X g f (rI C h) o :=
  ⟨op, fun {G H x y a b d Q} e rx ry hd k => by
    obtain ⟨i, j, rfl, rfl, c, q⟩ := ho _ _ _ hd
    cases rx
    cases ry
    exact ⟨i, j, rfl, rfl, c, k _ G H (StpS.refl e) (q G)⟩⟩
theorem rop_sub : ROp X g (binaryOp .Sub) (rI0 fun i j => .int (i - j)) dSub := rop_I0 op_sub fun a b d h => by
  cases a <;> cases b <;> simp only [dSub, reduceCtorEq, Option.some.injEq] at h
  subst h
  exact ⟨_, _, rfl, rfl, fun _ => .int _⟩
theorem rop_mod : ROp X g (binaryOp .Mod) (rI (fun _ j => 0 < j) fun i j => .int (i % j)) dMod := rop_I op_mod fun a b d h => by
  cases a <;> cases b <;> simp only [dMod, reduceCtorEq] at h
  split at h
  · cases h
    exact ⟨_, _, rfl, rfl, by assumption, fun _ => .int _⟩
  · cases h
theorem rop_div : ROp X g (binaryOp .FloorDiv) (rI CDivW fun i j => .int (i / j)) dDiv := rop_I op_fdivW fun a b d h => by
  cases a <;> cases b <;> simp only [dDiv, reduceCtorEq] at h
  split at h
  · rename_i q
    cases h
    rw [Bool.and_eq_true, decide_eq_true_eq, decide_eq_true_eq] at q
    exact ⟨_, _, rfl, rfl, q, fun _ => .int _⟩
  · cases h
theorem rop_pow : ROp X g (binaryOp .Pow) (rI CPow fun i j => .int (i ^ j.toNat)) dPow := rop_I op_pow fun a b d h => by
  cases a <;> cases b <;> simp only [dPow, reduceCtorEq] at h
  split at h
  · rename_i q
    cases h
    rw [Bool.and_eq_true, Bool.and_eq_true, decide_eq_true_eq, decide_eq_true_eq, decide_eq_true_eq] at q
    exact ⟨_, _, rfl, rfl, ⟨q.1.1, q.1.2, q.2⟩, fun _ => .int _⟩
  · cases h
theorem rop_cmp {f : Value → Value → Sem Value} {p : Int → Int → Bool} (op : OpR X f (rI0 fun i j => .bl (p i j))) : ROp X g f (rI0 fun i j => .bl (p i j)) (dCmpI p) := rop_I0 op fun a b d h => by
  cases a <;> cases b <;> simp only [dCmpI, reduceCtorEq, Option.some.injEq] at h
  subst h
  exact ⟨_, _, rfl, rfl, fun _ => .bl _⟩
theorem rop_lt : ROp X g (compareOp .Lt) (rI0 fun i j => .bl (decide (i < j))) dLt := rop_cmp op_lt
theorem rop_le : ROp X g (compareOp .LtE) (rI0 fun i j => .bl (decide (i ≤ j))) dLe := rop_cmp op_le
theorem rop_gt : ROp X g (compareOp .Gt) (rI0 fun i j => .bl (decide (j < i))) dGt := rop_cmp op_gt
theorem rop_ge : ROp X g (compareOp .GtE) (rI0 fun i j => .bl (decide (j ≤ i))) dGe := rop_cmp op_ge
def rAddD : R2 := fun x y H Q => rI0 (fun i j => .int (i + j)) x y H Q ∨ rCat x y H Q ∨ ∃ i j, x = .str i ∧ y = .str j ∧ i.length + j.length ≤ sizeLine ∧ Q (.str (i ++ j)) H
theorem rop_add : ROp X g (binaryOp .Add) rAddD dAdd := by
  refine ⟨op_add.or (op_cat.or op_add_str), fun {G H x y a b d Q} e rx ry hd k => ?_⟩
  cases rx with
  | int i =>
    cases ry with
    | int j =>
      cases hd
      exact .inl ⟨i, j, rfl, rfl, k _ G H (StpS.refl e) (.int _)⟩
    | _ => cases hd
  | @lst p vs ds h1 hl hi =>
    cases ry with
    | @lst q ws es h2 hl2 hi2 =>
      simp only [dAdd] at hd
      split at hd
      · rename_i z
        cases hd
        refine .inr (.inl ⟨_, _, _, _, rfl, rfl, e _ _ h1, e _ _ h2, by rw [hl, hl2]; exact szB_le z, fun n hn => k _ _ _ (StpS.new e hn) ?_⟩)
        have R : Reps X.K g G (vs ++ ws) (ds ++ es) := Reps.append ⟨hl, hi⟩ ⟨hl2, hi2⟩
        have R' := R.mono (StpS.new (o := .lst (vs ++ ws)) e hn).gg
        exact .lst upd_same R'.1 R'.2
      · cases hd
    | _ => cases hd
  | str i =>
    cases ry with
    | str j =>
      simp only [dAdd] at hd
      split at hd
      · rename_i z
        cases hd
        exact .inr (.inr ⟨i, j, rfl, rfl, szB_le z, k _ G H (StpS.refl e) (.str _)⟩)
      · cases hd
    | _ => cases hd
  | _ => cases ry <;> cases hd
def rMulD : R2 := fun x y H Q => rI CMulW (fun i j => .int (i * j)) x y H Q ∨ rRep x y H Q
theorem rop_mul : ROp X g (binaryOp .Mult) rMulD dMul := by
  refine ⟨op_mulW.or op_rep, fun {G H x y a b d Q} e rx ry hd k => ?_⟩
  cases rx with
  | int i =>
    cases ry with
    | int j =>
      simp only [dMul] at hd
      split at hd
      · rename_i z
        cases hd
        exact .inl ⟨i, j, rfl, rfl, (show CMulW i j from (of_decide_eq_true z : i.natAbs.log2 + j.natAbs.log2 < 1000000)), k _ G H (StpS.refl e) (.int _)⟩
      · cases hd
    | _ => cases hd
  | @lst p vs ds h1 hl hi =>
    cases ry with
    | int j =>
      simp only [dMul] at hd
      split at hd
      · rename_i z
        cases hd
        rw [Bool.and_eq_true, Bool.and_eq_true, decide_eq_true_eq, decide_eq_true_eq] at z
        refine .inr ⟨_, _, _, rfl, rfl, e _ _ h1, z.1.1, z.1.2, by rw [hl]; exact szB_le z.2, fun n hn => k _ _ _ (StpS.new e hn) ?_⟩
        have R := (Reps.rep (K := X.K) (g := g) (G := G) ⟨hl, hi⟩ j.toNat).mono (StpS.new (o := .lst (List.replicate j.toNat vs).flatten) e hn).gg
        exact .lst upd_same R.1 R.2
      · cases hd
    | _ => cases hd
  | _ => cases ry <;> cases hd
theorem rop_isN : ROp X g (compareOp .Is) (fun x y H Q => y = .non ∧ Q (.bl (decide (x = .non))) H) dIsN := by
  refine ⟨op_isN, fun {G H x y a b d Q} e rx ry hd k => ?_⟩
  cases ry with
  | non => cases rx <;> (cases hd; exact ⟨rfl, k _ G H (StpS.refl e) (.bl _)⟩)
  | _ => cases rx <;> cases hd
theorem rop_notN : ROp X g (compareOp .IsNot) (fun x y H Q => y = .non ∧ Q (.bl (!decide (x = .non))) H) dNotN := by
  refine ⟨op_notN, fun {G H x y a b d Q} e rx ry hd k => ?_⟩
  cases ry with
  | non => cases rx <;> (cases hd; exact ⟨rfl, k _ G H (StpS.refl e) (.bl _)⟩)
  | _ => cases rx <;> cases hd
end
/-! ### expressions -/
section
variable {X : Cx} {g : Gm} {W : WX} {a b c e : Expr} {ta tb tc te : TE} {fa fb fc fe : EF} {pos : Pos}
theorem dp_var (i : Nat) {x : Str} (hN : X.N[i]? = some x := by rfl) (hv : Vis X.env.scope x := by first | exact Or.inl rfl | exact Or.inr (Or.inl rfl) | exact Or.inr (Or.inr rfl)) (hd : (x == ("__debug__" : Str)) = false := by decide)
    (hcd : (x == ("__classdict__" : Str)) = false := by decide) : DP X g W (.Name x pos) (tVar i) (eVar i) := by
  refine ⟨pe_var hN hv hd hcd, fun G H σ ρ s Q f h => ?_⟩
  unfold eVar at h
  split at h
  · rename_i d q
    obtain ⟨v, h1, h2⟩ := f.val i d q
    exact ⟨v, h1, h v G H (Stp.refl f.gh) f.pen h2⟩
  · exact h.elim
theorem dp_c {v : V} {d : D} (p : PE X e (tC v)) (r : ∀ G, Rep X.K g G v d) : DP X g W e (tC v) (eC d) :=
  ⟨p, fun G H σ ρ s Q f h => h v G H (Stp.refl f.gh) f.pen (r G)⟩
theorem dp_int {i j} : DP X g W (.Constant (.int i) j pos) (tC (.int i)) (eC (.int i)) := dp_c pe_int fun _ => .int _
theorem dp_bl {i j} : DP X g W (.Constant (.bool i) j pos) (tC (.bl i)) (eC (.bl i)) := dp_c pe_bl fun _ => .bl _
theorem dp_non {j} : DP X g W (.Constant .none j pos) (tC .non) (eC .non) := dp_c pe_non fun _ => .non
theorem dp_str {x j} : DP X g W (.Constant (.str x) j pos) (tC (.str x)) (eC (.str x)) := dp_c pe_str fun _ => .str _
theorem dp_glob {x : Str} {v : V} {u : Value} {d : D} (hm : X.mg x = some u) (r : RelV v u) (q : ∀ G, Rep X.K g G v d) (hg : Gl X x := by rfl) (hd : (x == ("__debug__" : Str)) = false := by decide) : DP X g W (.Name x pos) (tC v) (eC d) :=
  dp_c (pe_glob hg hm r hd) q
theorem den_op {r : R2} {o : D → D → Option D} {f : Value → Value → Sem Value} (R : ROp X g f r o) (A : DP X g W a ta fa) (B : DP X g W b tb fb) :
    ∀ G H σ ρ s Q, Fq X.K g G H σ ρ s → OutG X.K g W G H σ (RD X.K g) Q (eOp o fa fb ρ s) → tOp r ta tb σ H Q := fun G H σ ρ s Q f h =>
  A.den G H σ ρ s _ f (OutG.bind h fun d1 s1 v1 G1 H1 st1 pn1 r1 h1 => B.den G1 H1 σ ρ s1 _ (f.step st1 pn1) (OutG.bind h1 fun d2 s2 v2 G2 H2 st2 pn2 r2 h2 => by
    obtain ⟨d, hd⟩ := OutG.lift_some h2
    exact R.den st2.gh (r1.mono st2.gg) r2 hd fun v G' H' st r' => OutG.lift h2 pn2 hd st r'))
theorem dp_op {op : Operator} {r : R2} {o : D → D → Option D} (R : ROp X g (binaryOp op) r o) (A : DP X g W a ta fa) (B : DP X g W b tb fb) : DP X g W (.BinOp a op b pos) (tOp r ta tb) (eOp o fa fb) := ⟨pe_op R.op A.pe B.pe, den_op R A B⟩
theorem dp_cmp {op : CmpOp} {r : R2} {o : D → D → Option D} (R : ROp X g (compareOp op) r o) (A : DP X g W a ta fa) (B : DP X g W b tb fb) (hm : behindInMarks op b = false := by first | exact nomark _ | rfl) : DP X g W (.Compare a [op] [b] pos) (tOp r ta tb) (eOp o fa fb) :=
  ⟨pe_cmpR R.op A.pe B.pe hm, den_op R A B⟩
theorem dp_neg (A : DP X g W a ta fa) : DP X g W (.UnaryOp .USub a pos) (tUn (rU fun i => .int (-i)) ta) (eUn dNeg fa) := by
  refine ⟨pe_un un_neg A.pe, fun G H σ ρ s Q f h => A.den G H σ ρ s _ f (OutG.bind h fun d1 s1 v1 G1 H1 st1 pn1 r1 h1 => ?_)⟩
  obtain ⟨d, hd⟩ := OutG.lift_some h1
  cases r1 with
  | int i =>
    cases hd
    exact ⟨i, rfl, OutG.lift h1 pn1 rfl (StpS.refl st1.gh) (.int _)⟩
  | _ => cases hd
/-! arguments, displays -/
theorem da_nil : DA X g W [] tNil aNil := ⟨pa_nil, fun G H σ ρ s Q f h => h [] G H (Stp.refl f.gh) f.pen Reps.nil⟩
theorem da_cons {es : List Expr} {t : TA} {fs : AF} (A : DP X g W e te fe) (B : DA X g W es t fs) (hs : starEach (e :: es) X.env = (false, eval e X.env) :: starEach es X.env := by rfl) : DA X g W (e :: es) (tCons te t) (aCons fe fs) :=
  ⟨pa_cons A.pe B.pa hs, fun G H σ ρ s Q f h => A.den G H σ ρ s _ f (OutG.bind h fun d1 s1 v1 G1 H1 st1 pn1 r1 h1 => B.den G1 H1 σ ρ s1 _ (f.step st1 pn1) (OutG.bind h1 fun d2 s2 v2 G2 H2 st2 pn2 r2 h2 =>
    h2 (v1 :: v2) G2 H2 (Stp.refl st2.gh) pn2 (Reps.cons (r1.mono st2.gg) r2)))⟩
theorem dp_tup {es : List Expr} {t : TA} {fs : AF} {x1} (A : DA X g W es t fs) : DP X g W (.Tuple es x1 pos) (tTup t) (eTup fs) := by
  refine ⟨pe_tup A.pa, fun G H σ ρ s Q f h => A.den G H σ ρ s _ f (OutG.bind h fun ds s1 vs G1 H1 st1 pn1 r1 h1 => ?_)⟩
  obtain ⟨d, hd⟩ := OutG.lift_some h1
  have hd' := hd
  split at hd'
  · rename_i z
    cases hd'
    refine ⟨by rw [r1.1]; exact szB_le z, fun p hp => OutG.lift h1 pn1 hd (StpS.new st1.gh hp) ?_⟩
    have R := r1.mono (StpS.new (o := .tup vs) st1.gh hp).gg
    exact .tup (SqT.of upd_same) R.1 R.2
  · cases hd'
theorem do_lst {es : List Expr} {t : TA} {fs : AF} (A : DA X g W es t fs) : DO X g W (.List es pos) (tLst t) (oLst fs) := by
  refine ⟨pe_lst A.pa, fun G H σ ρ s Q f h => A.den G H σ ρ s _ f (OutG.bind h fun ds s1 vs G1 H1 st1 pn1 r1 h1 => ?_)⟩
  obtain ⟨d, hd⟩ := OutG.lift_some h1
  have hd' := hd
  split at hd'
  · rename_i z
    cases hd'
    refine ⟨by rw [r1.1]; exact szB_le z, fun p hp => OutG.lift h1 pn1 hd (StpS.newO st1.gh hp) ⟨p, vs, rfl, upd_same, st1.gh.free hp, ?_, fun q => pn1.there q hp, r1⟩⟩
    exact st1.fr hp
  · cases hd'
theorem dp_frz {t : TE} {fs : AF} (A : DO X g W e t fs) : DP X g W e t (eFrz fs) := by
  refine ⟨A.pe, fun G H σ ρ s Q f h => A.den G H σ ρ s _ f ?_⟩
  unfold eFrz at h
  cases q : fs ρ s with
  | bad => rw [q] at h; exact h
  | exc c ds s1 => rw [q] at h; exact h
  | ok ds s1 =>
    rw [q] at h
    intro v G1 H1 st1 pn1 r1
    obtain ⟨p, vs, rfl, h2, h3, h4, h5, h6⟩ := r1
    have sg : Same G1 (upd G1 p (.lst vs)) := fun b o q => by
      rw [upd_ne (ne_of_none q h3)]
      exact q
    refine h (.ref p) (upd G1 p (.lst vs)) H1 ⟨st1.gg.trans sg, fun b o q => ?_, st1.hh, fun b q n => ?_, st1.al⟩ ⟨fun x hx => ?_, pn1.tb, nt_upd (fun ps z => by cases z) pn1.nt⟩ (.lst upd_same h6.1 (h6.mono sg).2)
    · by_cases hb : b = p
      · subst hb
        rw [upd_same] at q
        cases q
        exact h2
      · rw [upd_ne hb] at q
        exact st1.gh _ _ q
    · rw [upd_ne (fun e => h4 (by rw [← e]; exact n))]
      exact st1.nw b q n
    · have z := pn1 x hx
      refine ⟨?_, sg _ _ z.cs, z.at_⟩
      rw [upd_ne (fun e => h5 (by rw [← e]; exact hx))]
      exact z.no
end
end Zp
set_option Elab.async false
set_option maxRecDepth 100000
set_option linter.all false
namespace Zp
open PySem PySem.Spec PyProof.Rows L2
/-! ### data as the library has it -/
mutual
def toP : D → PyData
  | .non => .none
  | .bl b => .bool b
  | .int i => .int i
  | .str x => .str x
  | .tup xs => .tuple (toPs xs)
  | .lst xs => .list (toPs xs)
  | .obj _ _ => .none
  | .pen => .none
def toPs : List D → List PyData
  | [] => []
  | x :: xs => toP x :: toPs xs
end
mutual
def plainD : D → Bool
  | .tup xs => plainDs xs
  | .lst xs => plainDs xs
  | .obj _ _ => false
  | .pen => false
  | _ => true
def plainDs : List D → Bool
  | [] => true
  | x :: xs => plainD x && plainDs xs
end
def shapedD (d : D) : Bool := plainD d && SeqAt.shaped (toP d)
def dEq (a b : D) : Option D := if (shapedD a && shapedD b) = true then some (.bl (PyData.eqv (toP a) (toP b))) else none
def dNe (a b : D) : Option D := if (shapedD a && shapedD b) = true then some (.bl (!PyData.eqv (toP a) (toP b))) else none
theorem plainDs_get : ∀ {ds : List D} {i : Nat} {d : D}, plainDs ds = true → ds[i]? = some d → plainD d = true
  | [], _, _, _, h => by simp at h
  | x :: xs, 0, d, h, e => by
    simp at e
    subst e
    simp only [plainDs, Bool.and_eq_true] at h
    exact h.1
  | x :: xs, i + 1, d, h, e => by
    simp only [plainDs, Bool.and_eq_true] at h
    exact plainDs_get (i := i) h.2 (by simpa using e)
section
variable {K : PySem.W.Frag} {g : Gm} {G G' H H' : Hp}
theorem dpAll_of : ∀ {vs : List V} {ds : List D}, vs.length = ds.length → (∀ (i : Nat) v d, vs[i]? = some v → ds[i]? = some d → Dp K H v (toP d)) → DpAll K H vs (toPs ds)
  | [], [], _, _ => .nil
  | [], _ :: _, h, _ => by simp at h
  | _ :: _, [], h, _ => by simp at h
  | v :: vs, d :: ds, h, hi => .cons (hi 0 v d rfl rfl) (dpAll_of (by simpa using h) fun i v d h1 h2 => hi (i + 1) v d (by simpa using h1) (by simpa using h2))
theorem dp_of {v : V} {d : D} (r : Rep K g G v d) (hp : plainD d = true) (e : Same G H) : Dp K H v (toP d) := by
  induction r with
  | non => exact .non
  | bl b => exact .bl b
  | int i => exact .int i
  | str x => exact .str x
  | tup h hl _ ih =>
    have hp' : plainDs _ = true := hp
    exact .tup (sameSqT e h) (dpAll_of hl fun i v d h1 h2 => ih i v d h1 h2 (plainDs_get hp' h2))
  | lst h hl _ ih =>
    have hp' : plainDs _ = true := hp
    exact .lst (SqL.of (e _ _ h)) (dpAll_of hl fun i v d h1 h2 => ih i v d h1 h2 (plainDs_get hp' h2))
  | obj => exact absurd (show false = true from hp) Bool.false_ne_true
  | pen => exact absurd (show false = true from hp) Bool.false_ne_true
end
section
variable {X : Cx} {g : Gm}
theorem rop_eqD (hu : X.A.units + 64 < cLine) : ROp X g (compareOp .Eq) (rEqD X.K) dEq := by
  refine ⟨op_eqD hu, fun {G H x y a b d Q} e rx ry hd k => ?_⟩
  unfold dEq at hd
  split at hd
  · rename_i z
    cases hd
    simp only [shapedD, Bool.and_eq_true] at z
    exact ⟨toP a, toP b, dp_of rx z.1.1 e, dp_of ry z.2.1 e, z.1.2, z.2.2, k _ G H (StpS.refl e) (.bl _)⟩
  · cases hd
theorem rop_neD (hu : X.A.units + 64 < cLine) : ROp X g (compareOp .NotEq) (rNeD X.K) dNe := by
  refine ⟨op_neD hu, fun {G H x y a b d Q} e rx ry hd k => ?_⟩
  unfold dNe at hd
  split at hd
  · rename_i z
    cases hd
    simp only [shapedD, Bool.and_eq_true] at z
    exact ⟨toP a, toP b, dp_of rx z.1.1 e, dp_of ry z.2.1 e, z.1.2, z.2.2, k _ G H (StpS.refl e) (.bl _)⟩
  · cases hd
end
/-! ### lists and tuples that are read -/
section
variable {X : Cx} {g : Gm} {W : WX} {a b c e : Expr} {ta tb tc te : TE} {fa fb fc fe : EF} {fl : BF} {pos : Pos}
theorem db_of (A : DP X g W e te fe) : DB X g W e te (bOf fe) := by
  refine ⟨A.pe, fun G H σ ρ s Q f h => A.den G H σ ρ s _ f (OutG.bind h fun d s1 v G1 H1 st1 pn1 r1 h1 => ?_)⟩
  obtain ⟨p, hp⟩ := OutG.lift_some h1
  exact OutG.lift h1 pn1 hp (StpS.refl st1.gh) (seqOf_rep r1 hp st1.gh)
theorem db_own (i : Nat) {x : Str} (hN : X.N[i]? = some x := by rfl) (hv : Vis X.env.scope x := by first | exact Or.inl rfl | exact Or.inr (Or.inl rfl) | exact Or.inr (Or.inr rfl)) (hd : (x == ("__debug__" : Str)) = false := by decide)
    (hcd : (x == ("__classdict__" : Str)) = false := by decide) : DB X g W (.Name x pos) (tVar i) (bOwn i) := by
  refine ⟨pe_var hN hv hd hcd, fun G H σ ρ s Q f h => ?_⟩
  unfold bOwn at h
  split at h
  · rename_i ds q
    obtain ⟨a, vs, h1, h2, h3, h4, h5⟩ := f.own i ds q
    exact ⟨_, h1, h _ G H (Stp.refl f.gh) f.pen ⟨a, vs, rfl, h2, h5⟩⟩
  · exact h.elim
/-- a built-in of one list or tuple -/
theorem dp_lenB {p : Pos} (hm : X.mg "len" = none) (A : DB X g W a ta fl) (hg : Gl X "len" := by rfl) (he : starEach [a] X.env = (false, eval a X.env) :: starEach [] X.env := by rfl) :
    DP X g W (.Call (.Name "len" p) [a] [] pos) (tCB (fun xs H Q => ∃ p ys, xs = [.ref p] ∧ (SqL X.K H p ys ∨ SqT X.K H p ys) ∧ Q (.int ys.length) H) (tCons ta tNil)) (eB dLen fl) := by
  refine ⟨pe_callB call_len_seq hg hm PySem.boot_len (pa_cons A.pe pa_nil he) (by decide) (by decide) he, fun G H σ ρ s Q f h => A.den G H σ ρ s _ f (OutG.bind h fun p s1 v G1 H1 st1 pn1 r1 h1 => ?_)⟩
  obtain ⟨q, vs, rfl, h2, h3⟩ := r1.seq st1.gh
  refine ⟨q, vs, rfl, h2, OutG.lift h1 pn1 rfl (StpS.refl st1.gh) ?_⟩
  rw [h3.1]
  exact .int _
theorem do_listB {p : Pos} (hm : X.mg "list" = none) (A : DB X g W a ta fl) (hg : Gl X "list" := by rfl) (he : starEach [a] X.env = (false, eval a X.env) :: starEach [] X.env := by rfl) :
    DO X g W (.Call (.Name "list" p) [a] [] pos) (tCB (fun xs H Q => ∃ p ys, xs = [.ref p] ∧ (SqL X.K H p ys ∨ SqT X.K H p ys) ∧ ∀ l, H l = none → Q (.ref l) (upd H l (.lst ys))) (tCons ta tNil)) (oB dListOf fl) := by
  refine ⟨pe_callTy call_list_of hg hm (by decide +kernel) (pa_cons A.pe pa_nil he) (by decide) (by decide) he, fun G H σ ρ s Q f h => A.den G H σ ρ s _ f (OutG.bind h fun p s1 v G1 H1 st1 pn1 r1 h1 => ?_)⟩
  obtain ⟨q, vs, rfl, h2, h3⟩ := r1.seq st1.gh
  refine ⟨q, vs, rfl, h2, fun l hl => OutG.lift h1 pn1 rfl (StpS.newO st1.gh hl) ⟨l, vs, rfl, upd_same, st1.gh.free hl, ?_, fun q => pn1.there q hl, h3⟩⟩
  exact st1.fr hl
theorem dp_tupleB {p : Pos} (hm : X.mg "tuple" = none) (A : DB X g W a ta fl) (hg : Gl X "tuple" := by rfl) (he : starEach [a] X.env = (false, eval a X.env) :: starEach [] X.env := by rfl) :
    DP X g W (.Call (.Name "tuple" p) [a] [] pos) (tCB (fun xs H Q => ∃ p ys, xs = [.ref p] ∧ ((SqL X.K H p ys ∧ ∀ l, H l = none → Q (.ref l) (upd H l (.tup ys))) ∨ (SqT X.K H p ys ∧ Q (.ref p) H))) (tCons ta tNil)) (eB dTupOf fl) := by
  refine ⟨pe_callTy call_tuple_of hg hm (by decide +kernel) (pa_cons A.pe pa_nil he) (by decide) (by decide) he, fun G H σ ρ s Q f h => A.den G H σ ρ s _ f (OutG.bind h fun p s1 v G1 H1 st1 pn1 r1 h1 => ?_)⟩
  obtain ⟨q, vs, rfl, h2, h3⟩ := r1
  refine ⟨q, vs, rfl, ?_⟩
  split at h2
  · exact .inr ⟨sameSqT st1.gh h2, OutG.lift h1 pn1 rfl (StpS.refl st1.gh) (.tup h2 h3.1 h3.2)⟩
  · refine .inl ⟨SqL.of h2, fun l hl => OutG.lift h1 pn1 rfl (StpS.new st1.gh hl) ?_⟩
    have R := h3.mono (StpS.new (o := .tup vs) st1.gh hl).gg
    exact .tup (SqT.of upd_same) R.1 R.2
/-- xs[i], t[i] -/
theorem dp_ixB (A : DB X g W a ta fl) (B : DP X g W b tb fb) (hs : PlainIx b := by intro _ _; rfl) : DP X g W (.Subscript a b pos) (tOp (rIx X.K) ta tb) (eBE dIx fl fb) := by
  refine ⟨pe_ix ix_seq A.pe B.pe hs, fun G H σ ρ s Q f h => A.den G H σ ρ s _ f (OutG.bind h fun p s1 v G1 H1 st1 pn1 r1 h1 => B.den G1 H1 σ ρ s1 _ (f.step st1 pn1) (OutG.bind h1 fun d s2 v2 G2 H2 st2 pn2 r2 h2 => ?_))⟩
  obtain ⟨y, hy⟩ := OutG.lift_some h2
  obtain ⟨q, vs, rfl, h3, h4⟩ := (r1.mono st2 pn1).seq st2.gh
  cases r2 with
  | int i =>
    obtain ⟨z, hz, rz⟩ := atI_rep h4 hy
    have fin : Q z H2 := OutG.lift h2 pn2 hy (StpS.refl st2.gh) rz
    rcases h3 with h3 | h3
    · exact .inl ⟨q, vs, i, z, rfl, rfl, h3, hz, fin⟩
    · exact .inr (.inl ⟨q, vs, i, z, rfl, rfl, h3, hz, fin⟩)
  | _ => cases hy
/-! slices -/
def cutD (xs : List D) (lo hi : Option Int) : List D := (xs.drop (HT.sIx xs.length 0 lo)).take (HT.sIx xs.length xs.length hi - HT.sIx xs.length 0 lo)
abbrev OF := List Sv → PenS → ResE (Option Int)
structure DOp' (X : Cx) (g : Gm) (W : WX) (e : Option Expr) (t : TO) (f : OF) : Prop where
  po : PO X e t
  den : ∀ G H σ ρ s Q, Fq X.K g G H σ ρ s → OutG X.K g W G H σ (fun _ _ (a b : Option Int) => a = b) Q (f ρ s) → t σ H Q
def oNone : OF := fun _ s => .ok none s
def intOf : D → Option Int
  | .int i => some i
  | _ => none
def oSome (f : EF) : OF := fun ρ s => (f ρ s).bind fun d s1 => lift ((intOf d).map some) s1
theorem do_none : DOp' X g W none tNoPart oNone := ⟨po_none, fun G H σ ρ s Q f h => h none G H (Stp.refl f.gh) f.pen rfl⟩
theorem do_some (A : DP X g W e te fe) : DOp' X g W (some e) (tPart te) (oSome fe) := by
  refine ⟨po_some A.pe, fun G H σ ρ s Q f h => A.den G H σ ρ s _ f (OutG.bind h fun d s1 v G1 H1 st1 pn1 r1 h1 => ?_)⟩
  obtain ⟨o, ho⟩ := OutG.lift_some h1
  cases r1 with
  | int i =>
    cases ho
    exact ⟨i, rfl, OutG.lift h1 pn1 rfl (StpS.refl st1.gh) rfl⟩
  | _ => cases ho
def eSlice (f : BF) (l h : OF) : EF := fun ρ s => (f ρ s).bind fun p s1 => (l ρ s1).bind fun lo s2 => (h ρ s2).bind fun hi s3 => .ok (if p.1 = true then .tup (cutD p.2 lo hi) else .lst (cutD p.2 lo hi)) s3
theorem cut_rep {K : PySem.W.Frag} {G : Hp} {vs : List V} {ds : List D} (r : Reps K g G vs ds) (lo hi : Option Int) : Reps K g G (cutV vs lo hi) (cutD ds lo hi) := by
  unfold cutV cutD
  rw [r.1]
  exact (r.drop _).take _
def rSlD (K : PySem.W.Frag) : V → Option Int → Option Int → Hp → VK → Prop := fun x lo hi H Q => rSlL K x lo hi H Q ∨ rSlA K x lo hi H Q
theorem dp_slice {lo hi : Option Expr} {tl th : TO} {fo fh : OF} {p2 : Pos} (A : DB X g W a ta fl) (L : DOp' X g W lo tl fo) (U : DOp' X g W hi th fh) : DP X g W (.Subscript a (.Slice lo hi none p2) pos) (tSl (rSlD X.K) ta tl th) (eSlice fl fo fh) := by
  refine ⟨pe_slice (sl_list.or sl_tupA) A.pe L.po U.po, fun G H σ ρ s Q f h => A.den G H σ ρ s _ f (OutG.bind h fun p s1 v G1 H1 st1 pn1 r1 h1 => L.den G1 H1 σ ρ s1 _ (f.step st1 pn1) (OutG.bind h1 fun l s2 vl G2 H2 st2 pn2 r2 h2 =>
    U.den G2 H2 σ ρ s2 _ ((f.step st1 pn1).step st2 pn2) (OutG.bind h2 fun u s3 vu G3 H3 st3 pn3 r3 h3 => ?_)))⟩
  subst r2
  subst r3
  obtain ⟨q, vs, rfl, z1, z2⟩ := (r1.mono st2 pn1).mono st3 pn2
  split at z1
  · rename_i e
    have h3' := h3
    refine .inr ⟨q, vs, rfl, sameSqT st3.gh z1, fun w => ?_, fun _ n hn => ?_⟩
    · refine h3 _ G3 H3 (Stp.refl st3.gh) pn3 ?_
      show Rep _ _ _ _ (if p.1 = true then _ else _)
      rw [if_pos e]
      have q2 := cut_rep z2 vl vu
      have e2 : cutV vs vl vu = vs := by
        unfold cutV
        rw [w.1, w.2]
        simp
      rw [e2] at q2
      exact .tup z1 q2.1 q2.2
    · refine h3 _ _ _ (StpS.new st3.gh hn).stp ((StpS.new st3.gh hn).pen pn3) ?_
      show Rep _ _ _ _ (if p.1 = true then _ else _)
      rw [if_pos e]
      have R := (cut_rep z2 vl vu).mono (StpS.new (o := .tup (cutV vs vl vu)) st3.gh hn).gg
      exact .tup (SqT.of upd_same) R.1 R.2
  · rename_i e
    refine .inl ⟨q, vs, rfl, SqL.of z1, fun n hn => ?_⟩
    refine h3 _ _ _ (StpS.new st3.gh hn).stp ((StpS.new st3.gh hn).pen pn3) ?_
    show Rep _ _ _ _ (if p.1 = true then _ else _)
    rw [if_neg e]
    have R := (cut_rep z2 vl vu).mono (StpS.new (o := .lst (cutV vs vl vu)) st3.gh hn).gg
    exact .lst upd_same R.1 R.2
end
end Zp
set_option Elab.async false
set_option maxRecDepth 100000
set_option linter.all false
namespace Zp
open PySem PySem.Spec PyProof.Rows L2
section
variable {X : Cx} {g : Gm} {W : WX} {a b c e : Expr} {ta tb tc te : TE} {fa fb fc fe : EF} {tt tu : TT} {ft fu : TF} {pos : Pos}
/-! ### tests -/
theorem dt_val (A : DP X g W e te fe) (he : ∀ whole, isTrue e X.env whole = (do let v ← whole; standAt e.pos; holding [v] (truthy v)) := by intro _; rfl) : DT X g W e (tB te) (tOf fe) := by
  refine ⟨pt_val A.pe he, fun G H σ ρ s Q f h => A.den G H σ ρ s _ f (OutG.bind h fun d s1 v G1 H1 st1 pn1 r1 h1 => ?_)⟩
  obtain ⟨k, hk⟩ := OutG.lift_some h1
  cases r1 with
  | bl b =>
    cases hk
    exact ⟨_, rfl, OutG.lift h1 pn1 rfl (StpS.refl st1.gh) rfl⟩
  | _ => cases hk
theorem dt_cmp {op : CmpOp} {r : R2} {o : D → D → Option D} (R : ROp X g (compareOp op) r o) (A : DP X g W a ta fa) (B : DP X g W b tb fb) (hm : behindInMarks op b = false := by first | exact nomark _ | rfl) : DT X g W (.Compare a [op] [b] pos) (tTest (tOp r ta tb)) (tOf (eOp o fa fb)) := by
  refine ⟨pt_cmpR R.op A.pe B.pe hm, fun G H σ ρ s Q f h => den_op R A B G H σ ρ s _ f (OutG.bind h fun d s1 v G1 H1 st1 pn1 r1 h1 => ?_)⟩
  obtain ⟨k, hk⟩ := OutG.lift_some h1
  cases r1 with
  | bl b =>
    cases hk
    exact ⟨_, rfl, OutG.lift h1 pn1 rfl (StpS.refl st1.gh) rfl⟩
  | _ => cases hk
theorem dt_not (A : DT X g W a tt ft) : DT X g W (.UnaryOp .Not a pos) (tNot tt) (tNotF ft) :=
  ⟨pt_not A.pt, fun G H σ ρ s Q f h => A.den G H σ ρ s _ f (OutG.bind h fun d s1 v G1 H1 st1 pn1 r1 h1 => by
    subst r1
    exact h1 _ G1 H1 (Stp.refl st1.gh) pn1 rfl)⟩
/-- and, or: whatever the whole is -/
structure DW (X : Cx) (g : Gm) (W : WX) (e : Expr) (t : TT) (f : TF) : Prop where
  pw : PW X e t
  den : ∀ G H σ ρ s Q, Fq X.K g G H σ ρ s → OutG X.K g W G H σ RT Q (f ρ s) → t σ H Q
theorem DW.dt (A : DW X g W e tt ft) : DT X g W e tt ft := ⟨A.pw.pt, A.den⟩
theorem dw_and1 (A : DT X g W a tt ft) : DW X g W (.BoolOp .And [a] pos) tt ft := ⟨pw_and1 A.pt, A.den⟩
theorem dw_or1 (A : DT X g W a tt ft) : DW X g W (.BoolOp .Or [a] pos) tt ft := ⟨pw_or1 A.pt, A.den⟩
theorem den_and {X : Cx} (A : ∀ G H σ ρ s Q, Fq X.K g G H σ ρ s → OutG X.K g W G H σ RT Q (ft ρ s) → tt σ H Q) (B : ∀ G H σ ρ s Q, Fq X.K g G H σ ρ s → OutG X.K g W G H σ RT Q (fu ρ s) → tu σ H Q) :
    ∀ G H σ ρ s Q, Fq X.K g G H σ ρ s → OutG X.K g W G H σ RT Q (tAndF ft fu ρ s) → tAnd tt tu σ H Q := fun G H σ ρ s Q f h =>
  A G H σ ρ s _ f (OutG.bind h fun d s1 v G1 H1 st1 pn1 r1 h1 => by
    subst r1
    cases v with
    | true => exact B G1 H1 σ ρ s1 Q (f.step st1 pn1) h1
    | false => exact h1 _ G1 H1 (Stp.refl st1.gh) pn1 rfl)
theorem den_or {X : Cx} (A : ∀ G H σ ρ s Q, Fq X.K g G H σ ρ s → OutG X.K g W G H σ RT Q (ft ρ s) → tt σ H Q) (B : ∀ G H σ ρ s Q, Fq X.K g G H σ ρ s → OutG X.K g W G H σ RT Q (fu ρ s) → tu σ H Q) :
    ∀ G H σ ρ s Q, Fq X.K g G H σ ρ s → OutG X.K g W G H σ RT Q (tOrF ft fu ρ s) → tOr tt tu σ H Q := fun G H σ ρ s Q f h =>
  A G H σ ρ s _ f (OutG.bind h fun d s1 v G1 H1 st1 pn1 r1 h1 => by
    subst r1
    cases v with
    | true => exact h1 _ G1 H1 (Stp.refl st1.gh) pn1 rfl
    | false => exact B G1 H1 σ ρ s1 Q (f.step st1 pn1) h1)
theorem dw_and {es : List Expr} (A : DT X g W a tt ft) (B : DW X g W (.BoolOp .And (b :: es) pos) tu fu) : DW X g W (.BoolOp .And (a :: b :: es) pos) (tAnd tt tu) (tAndF ft fu) := ⟨pw_and A.pt B.pw, den_and A.den B.den⟩
theorem dw_or {es : List Expr} (A : DT X g W a tt ft) (B : DW X g W (.BoolOp .Or (b :: es) pos) tu fu) : DW X g W (.BoolOp .Or (a :: b :: es) pos) (tOr tt tu) (tOrF ft fu) := ⟨pw_or A.pt B.pw, den_or A.den B.den⟩
/-- a op b op' c -/
theorem den_chain {op op' : CmpOp} {r r' : R2} {o o' : D → D → Option D} (R : ROp X g (compareOp op) r o) (R' : ROp X g (compareOp op') r' o') (A : DP X g W a ta fa) (B : DP X g W b tb fb) (C : DP X g W c tc fc) :
    ∀ G H σ ρ s Q, Fq X.K g G H σ ρ s → OutG X.K g W G H σ (RD X.K g) Q (eChain o o' fa fb fc ρ s) → tChain r r' ta tb tc σ H Q := fun G H σ ρ s Q f h =>
  A.den G H σ ρ s _ f (OutG.bind h fun d1 s1 v1 G1 H1 st1 pn1 r1 h1 => B.den G1 H1 σ ρ s1 _ (f.step st1 pn1) (OutG.bind h1 fun d2 s2 v2 G2 H2 st2 pn2 r2 h2 => by
    have f2 := (f.step st1 pn1).step st2 pn2
    cases e1 : o d1 d2 with
    | none =>
      rw [e1] at h2
      exact h2.elim
    | some d =>
      rw [e1] at h2
      refine R.den st2.gh (r1.mono st2.gg) r2 e1 fun v G' H' st rv => ?_
      have h3 := OutG.from h2 (st.pen pn2) st.stp
      have f3 := f2.step st.stp (st.pen pn2)
      have h3' : OutG X.K g W G' H' σ (RD X.K g) Q (chainB d s2 fun s3 => (fc ρ s3).bind fun e s4 => lift (o' d2 e) s4) := h3
      cases rv with
      | bl k =>
        refine ⟨k, rfl, ?_⟩
        cases k with
        | false =>
          rw [if_neg Bool.false_ne_true]
          exact h3' _ G' H' (Stp.refl st.gh) (st.pen pn2) (.bl _)
        | true =>
          rw [if_pos rfl]
          exact C.den G' H' σ ρ s2 _ f3 (OutG.bind h3' fun d4 s4 v4 G4 H4 st4 pn4 r4 h4 => by
            obtain ⟨d5, hd5⟩ := OutG.lift_some h4
            exact R'.den st4.gh ((r2.mono st.gg).mono st4.gg) r4 hd5 fun v G5 H5 st5 rv5 => OutG.lift h4 pn4 hd5 st5 rv5)
      | _ => exact h3'.elim))
theorem dp_chain {op op' : CmpOp} {r r' : R2} {o o' : D → D → Option D} (R : ROp X g (compareOp op) r o) (R' : ROp X g (compareOp op') r' o') (A : DP X g W a ta fa) (B : DP X g W b tb fb) (C : DP X g W c tc fc)
    (hm : lastMarks [op, op'] [b, c] = false := by with_unfolding_all rfl) : DP X g W (.Compare a [op, op'] [b, c] pos) (tChain r r' ta tb tc) (eChain o o' fa fb fc) := ⟨pe_chain R.op R'.op A.pe B.pe C.pe hm, den_chain R R' A B C⟩
theorem dt_chain {op op' : CmpOp} {r r' : R2} {o o' : D → D → Option D} (R : ROp X g (compareOp op) r o) (R' : ROp X g (compareOp op') r' o') (A : DP X g W a ta fa) (B : DP X g W b tb fb) (C : DP X g W c tc fc)
    (hm : lastMarks [op, op'] [b, c] = false := by with_unfolding_all rfl) : DT X g W (.Compare a [op, op'] [b, c] pos) (tTest (tChain r r' ta tb tc)) (tOf (eChain o o' fa fb fc)) := by
  refine ⟨pt_chain R.op R'.op A.pe B.pe C.pe hm, fun G H σ ρ s Q f h => den_chain R R' A B C G H σ ρ s _ f (OutG.bind h fun d s1 v G1 H1 st1 pn1 r1 h1 => ?_)⟩
  obtain ⟨k, hk⟩ := OutG.lift_some h1
  cases r1 with
  | bl b =>
    cases hk
    exact ⟨_, rfl, OutG.lift h1 pn1 rfl (StpS.refl st1.gh) rfl⟩
  | _ => cases hk
/-! bools as values -/
theorem dp_one {op} (A : DP X g W a ta fa) : DP X g W (.BoolOp op [a] pos) ta fa := ⟨pe_one A.pe, A.den⟩
theorem dp_and {es : List Expr} (A : DP X g W a ta fa) (B : DP X g W (.BoolOp .And (b :: es) pos) tb fb) : DP X g W (.BoolOp .And (a :: b :: es) pos) (tAndV ta tb) (eAndV fa fb) :=
  ⟨pe_and A.pe B.pe, fun G H σ ρ s Q f h => A.den G H σ ρ s _ f (OutG.bind h fun d s1 v G1 H1 st1 pn1 r1 h1 => by
    cases r1 with
    | bl k =>
      refine ⟨k, rfl, ?_⟩
      cases k with
      | true => exact B.den G1 H1 σ ρ s1 Q (f.step st1 pn1) h1
      | false => exact h1 _ G1 H1 (Stp.refl st1.gh) pn1 (.bl _)
    | _ => exact h1.elim)⟩
theorem dp_or {es : List Expr} (A : DP X g W a ta fa) (B : DP X g W (.BoolOp .Or (b :: es) pos) tb fb) : DP X g W (.BoolOp .Or (a :: b :: es) pos) (tOrV ta tb) (eOrV fa fb) :=
  ⟨pe_or A.pe B.pe, fun G H σ ρ s Q f h => A.den G H σ ρ s _ f (OutG.bind h fun d s1 v G1 H1 st1 pn1 r1 h1 => by
    cases r1 with
    | bl k =>
      refine ⟨k, rfl, ?_⟩
      cases k with
      | true => exact h1 _ G1 H1 (Stp.refl st1.gh) pn1 (.bl _)
      | false => exact B.den G1 H1 σ ρ s1 Q (f.step st1 pn1) h1
    | _ => exact h1.elim)⟩
theorem dp_not (A : DP X g W a ta fa) : DP X g W (.UnaryOp .Not a pos) (tNotV ta) (eNotV fa) :=
  ⟨pe_not A.pe, fun G H σ ρ s Q f h => A.den G H σ ρ s _ f (OutG.bind h fun d s1 v G1 H1 st1 pn1 r1 h1 => by
    cases r1 with
    | bl k => exact ⟨k, rfl, h1 _ G1 H1 (Stp.refl st1.gh) pn1 (.bl _)⟩
    | _ => exact h1.elim)⟩
theorem dp_if (C : DT X g W c tt ft) (A : DP X g W a ta fa) (B : DP X g W b tb fb) : DP X g W (.IfExp c a b pos) (tIf tt ta tb) (eIf ft fa fb) :=
  ⟨pe_ifExp C.pt A.pe B.pe, fun G H σ ρ s Q f h => C.den G H σ ρ s _ f (OutG.bind h fun d s1 v G1 H1 st1 pn1 r1 h1 => by
    subst r1
    cases v with
    | true => exact A.den G1 H1 σ ρ s1 Q (f.step st1 pn1) h1
    | false => exact B.den G1 H1 σ ρ s1 Q (f.step st1 pn1) h1)⟩
end
/-! ### targets -/
abbrev GF := D → List Sv → Option (List Sv)
def gN (i : Nat) : GF := fun d ρ => some (ρ.set i (.val d))
def gNs : List Nat → List D → List Sv → Option (List Sv)
  | [], [], ρ => some ρ
  | i :: is, d :: ds, ρ => gNs is ds (ρ.set i (.val d))
  | _, _, _ => none
def gT (is : List Nat) : GF := fun d ρ => match d with
  | .tup ds => gNs is ds ρ
  | _ => none
theorem set_other {α : Type} {l : List α} {i j : Nat} {x y : α} (h : (l.set i x)[j]? = some y) (n : y ≠ x) : i ≠ j ∧ l[j]? = some y := by
  by_cases e : i = j
  · subst e
    have hi : i < l.length := by
      have := (List.getElem?_eq_some_iff.mp h).1
      simpa using this
    rw [List.getElem?_set_self hi] at h
    exact absurd (Option.some.inj h).symm n
  · rw [List.getElem?_set_ne e] at h
    exact ⟨e, h⟩
theorem Fq.set {K : PySem.W.Frag} {g : Gm} {G H : Hp} {σ : L2.St} {ρ : List Sv} {s : PenS} (f : Fq K g G H σ ρ s) (i : Nat) {v : V} {d : D} (r : Rep K g G v d) : Fq K g G H (σ.set i (some v)) (ρ.set i (.val d)) s := by
  refine ⟨f.gh, f.pen, by simp [f.len], fun j d' h => ?_, fun j ds h => ?_, fun j k a ds es h1 h2 h3 h4 => ?_, fun j c fs h => ?_, fun j k a c c' ds es h1 h2 h3 h4 => ?_⟩
  · by_cases e : i = j
    · subst e
      have hi : i < ρ.length := by
        have := (List.getElem?_eq_some_iff.mp h).1
        simpa using this
      rw [List.getElem?_set_self hi] at h
      cases h
      exact ⟨v, List.getElem?_set_self (by rw [← f.len]; exact hi), r⟩
    · rw [List.getElem?_set_ne e] at h
      rw [List.getElem?_set_ne e]
      exact f.val j d' h
  · obtain ⟨e, h⟩ := set_other h (fun z => by cases z)
    rw [List.getElem?_set_ne e]
    exact f.own j ds h
  · obtain ⟨n1, h1⟩ := set_other h1 (fun z => by cases z)
    obtain ⟨n2, h2⟩ := set_other h2 (fun z => by cases z)
    rw [List.getElem?_set_ne n1] at h3
    rw [List.getElem?_set_ne n2] at h4
    exact f.dist j k a ds es h1 h2 h3 h4
  · obtain ⟨e, h⟩ := set_other h (fun z => by cases z)
    rw [List.getElem?_set_ne e]
    exact f.ins j c fs h
  · obtain ⟨n1, h1⟩ := set_other h1 (fun z => by cases z)
    obtain ⟨n2, h2⟩ := set_other h2 (fun z => by cases z)
    rw [List.getElem?_set_ne n1] at h3
    rw [List.getElem?_set_ne n2] at h4
    exact f.disti j k a c c' ds es h1 h2 h3 h4
theorem wipe_set {σ : L2.St} {j : Nat} {x : Option V} : ∀ {vs : List Nat}, j ∈ vs → wipe (σ.set j x) vs = wipe σ vs
  | [], h => by simp at h
  | v :: vs, h => by
    unfold wipe
    by_cases e : v = j
    · subst e
      have key : ∀ us : List Nat, (wipe (σ.set v x) us).set v none = (wipe σ us).set v none := by
        intro us
        induction us with
        | nil => unfold wipe; rw [List.set_set]
        | cons u us ih =>
          unfold wipe
          by_cases e : u = v
          · subst e; rw [List.set_set, List.set_set]; exact ih
          · rw [List.set_comm _ _ e, List.set_comm _ _ e, ih]
      exact key vs
    · rcases List.mem_cons.mp h with z | z
      · exact absurd z.symm e
      · rw [wipe_set z]
/-- what is a frame's own stays so -/
def KeepO (ρ ρ' : List Sv) (σ σ' : L2.St) : Prop := ∀ (i : Nat) x, ρ'[i]? = some x → (∀ d, x ≠ .val d) → ρ[i]? = some x ∧ σ'[i]? = σ[i]?
theorem KeepO.refl {ρ : List Sv} {σ : L2.St} : KeepO ρ ρ σ σ := fun i x h _ => ⟨h, rfl⟩
theorem KeepO.trans {ρ ρ' ρ2 : List Sv} {σ σ' σ2 : L2.St} (a : KeepO ρ ρ' σ σ') (b : KeepO ρ' ρ2 σ' σ2) : KeepO ρ ρ2 σ σ2 := fun i x h n => by
  obtain ⟨h1, h2⟩ := b i x h n
  obtain ⟨h3, h4⟩ := a i x h1 n
  exact ⟨h3, h2.trans h4⟩
theorem KeepO.set {ρ : List Sv} {σ : L2.St} (i : Nat) {v : Option V} {d : D} : KeepO ρ (ρ.set i (.val d)) σ (σ.set i v) := fun j x h n => by
  obtain ⟨e, h⟩ := set_other h (n d)
  exact ⟨h, List.getElem?_set_ne e⟩
structure DG (X : Cx) (g : Gm) (tg : Expr) (t : TG) (js : List Nat) (f : GF) : Prop where
  pg : PG X tg t
  den : ∀ {G H σ ρ s x d ρ'} {Q : L2.St → Hp → Prop}, Fq X.K g G H σ ρ s → Rep X.K g G x d → f d ρ = some ρ' → (∀ σ', Fq X.K g G H σ' ρ' s → (∀ vs : List Nat, (∀ j ∈ js, j ∈ vs) → wipe σ' vs = wipe σ vs) → KeepO ρ ρ' σ σ' → Q σ' H) → t x σ H Q
section
variable {X : Cx} {g : Gm} {pos : Pos}
theorem dg_name {i : Nat} {x : Str} (hN : X.N.Nodup) (hi : X.N[i]? = some x) (hx : Loc X.env.scope x) (hf : X.fn x = true ∨ X.env.scope.names.lookup x = some .local := by first | exact .inl rfl | exact .inr rfl | assumption) : DG X g (.Name x pos) (gName i) [i] (gN i) :=
  ⟨pg_name hN hi hx hf, fun {G H σ ρ s x d ρ' Q} f r h k => by
    cases h
    exact k _ (f.set i r) (fun vs hv => wipe_set (hv i (by simp))) (KeepO.set i)⟩
structure DGs (X : Cx) (g : Gm) (ts : List Expr) (t : TGs) (js : List Nat) : Prop where
  pg : PGs X ts t
  den : ∀ {G H σ ρ s xs ds ρ'} {Q : L2.St → Hp → Prop}, Fq X.K g G H σ ρ s → Reps X.K g G xs ds → gNs js ds ρ = some ρ' → (∀ σ', Fq X.K g G H σ' ρ' s → (∀ vs : List Nat, (∀ j ∈ js, j ∈ vs) → wipe σ' vs = wipe σ vs) → KeepO ρ ρ' σ σ' → Q σ' H) → t xs σ H Q
theorem dgs_nil : DGs X g [] gNil [] := ⟨pgs_nil, fun {G H σ ρ s xs ds ρ' Q} f r h k => by
  cases ds with
  | nil =>
    cases h
    have : xs = [] := List.length_eq_zero_iff.mp r.1
    subst this
    exact ⟨rfl, k _ f (fun _ _ => rfl) KeepO.refl⟩
  | cons => cases h⟩
theorem dgs_cons {i : Nat} {x : Str} {es : List Expr} {u : TGs} {js : List Nat} (hN : X.N.Nodup) (hi : X.N[i]? = some x) (hx : Loc X.env.scope x) (B : DGs X g es u js) (hf : X.fn x = true ∨ X.env.scope.names.lookup x = some .local := by first | exact .inl rfl | exact .inr rfl | assumption)
    (hs : (assignEach (.Name x pos :: es) X.env).map (·.2) = assign (.Name x pos) X.env :: (assignEach es X.env).map (·.2) := by rfl) : DGs X g (.Name x pos :: es) (gCons (gName i) u) (i :: js) :=
  ⟨pgs_cons (pg_name hN hi hx hf) B.pg hs, fun {G H σ ρ s xs ds ρ' Q} f r h k => by
    cases ds with
    | nil => cases h
    | cons d ds =>
      cases xs with
      | nil => exact absurd r.1 (by simp)
      | cons v xs =>
        have r1 : Rep X.K g G v d := r.2 0 v d rfl rfl
        have r2 : Reps X.K g G xs ds := ⟨by simpa using r.1, fun i v d h1 h2 => r.2 (i + 1) v d (by simpa using h1) (by simpa using h2)⟩
        exact ⟨v, xs, rfl, B.den (f.set i r1) r2 h fun σ' f' w ko => k σ' f' (fun vs hv => (w vs fun j hj => hv j (List.mem_cons_of_mem _ hj)).trans (wipe_set (hv i List.mem_cons_self))) ((KeepO.set i).trans ko)⟩⟩
theorem dg_tup {es : List Expr} {k : Nat} {t : TGs} {js : List Nat} {n : Nat} (hc : X.calm = true) (B : DGs X g es t js) (hn : (assignEach es X.env).length = n := by rfl) (hst : (assignEach es X.env).findIdx? (·.1) = none := by rfl) (hj : js.length = n := by rfl) :
    DG X g (.Tuple es k pos) (gTup X.K n t) js (gT js) :=
  ⟨pg_tup hc B.pg hn hst, fun {G H σ ρ s x d ρ' Q} f r h q => by
    cases r with
    | tup h1 hl hi =>
      have len : ∀ (js : List Nat) (ds : List D) (ρ ρ' : List Sv), gNs js ds ρ = some ρ' → js.length = ds.length := by
        intro js
        induction js with
        | nil => intro ds ρ ρ' h; cases ds with
          | nil => rfl
          | cons => cases h
        | cons j js ih => intro ds ρ ρ' h; cases ds with
          | nil => cases h
          | cons d ds => simp [ih ds _ _ h]
      exact ⟨_, _, rfl, sameSqT f.gh h1, by rw [hl, ← len _ _ _ _ h, hj], B.den f ⟨hl, hi⟩ h q⟩
    | _ => cases h⟩
end
/-! ### what is walked -/
def ItRep (K : PySem.W.Frag) (g : Gm) (J : It) (ds : List D) (G : Hp) : Prop := ∀ G2 H2, Same G G2 → Same G2 H2 →
  (∀ (i : Nat) d, ds[i]? = some d → J.go i H2 ∧ ∀ x H3, J.yld i H2 x H3 → ∃ G3, StpS G2 H2 G3 H3 ∧ Rep K g G3 x d) ∧ J.stop ds.length H2
structure DI (X : Cx) (g : Gm) (W : WX) (tg e : Expr) (wi : TI) (f : AF) : Prop where
  pi : PI X tg e wi
  den : ∀ G H σ ρ s R, Fq X.K g G H σ ρ s → OutG X.K g W G H σ (fun G' _ J ds => ItRep X.K g J ds G') R (f ρ s) → wi σ H R
def iSeq (f : BF) : AF := fun ρ s => (f ρ s).bind fun p s1 => .ok p.2 s1
def iEl (f : EF) : AF := fun ρ s => (f ρ s).bind fun d s1 => match d with
  | .lst ds => .ok ds s1
  | _ => .bad
def iEt (f : EF) : AF := fun ρ s => (f ρ s).bind fun d s1 => match d with
  | .tup ds => .ok ds s1
  | _ => .bad
def rangeD (lo hi : Int) : List D := (List.range (hi - lo).toNat).map fun i => .int (lo + (i : Nat))
def rgB (i : Int) : Bool := decide (-(2 ^ 62) ≤ i) && decide (i < 2 ^ 62)
def rg2 : D → D → Option (List D)
  | .int i, .int j => if (rgB i && rgB j) = true then some (rangeD i j) else none
  | _, _ => none
def iRange1 (f : EF) : AF := fun ρ s => (f ρ s).bind fun d s1 => lift (rg2 (.int 0) d) s1
def iRange2 (f h : EF) : AF := fun ρ s => (f ρ s).bind fun d s1 => (h ρ s1).bind fun e s2 => lift (rg2 d e) s2
def enumD : Nat → List D → List D
  | _, [] => []
  | n, d :: ds => .tup [.int (n : Int), d] :: enumD (n + 1) ds
def iEnumL (f : EF) : AF := fun ρ s => (f ρ s).bind fun d s1 => match d with
  | .lst ds => .ok (enumD 0 ds) s1
  | _ => .bad
theorem enumD_len : ∀ (n : Nat) (ds : List D), (enumD n ds).length = ds.length
  | _, [] => rfl
  | n, d :: ds => by simp [enumD, enumD_len (n + 1) ds]
theorem enumD_get : ∀ (n : Nat) (ds : List D) (i : Nat) (e : D), (enumD n ds)[i]? = some e → ∃ d, ds[i]? = some d ∧ e = .tup [.int ((n + i : Nat) : Int), d]
  | _, [], i, e, h => by simp [enumD] at h
  | n, d :: ds, 0, e, h => by
    simp [enumD] at h
    exact ⟨d, rfl, by rw [← h]; rfl⟩
  | n, d :: ds, i + 1, e, h => by
    obtain ⟨d', h1, h2⟩ := enumD_get (n + 1) ds i e (by simpa [enumD] using h)
    exact ⟨d', by simpa using h1, by rw [h2]; congr 3; omega⟩
section
variable {X : Cx} {g : Gm} {W : WX} {a b e tg : Expr} {ta tb te : TE} {fa fb fe : EF} {p pos : Pos}
theorem itrep_range {K : PySem.W.Frag} {G : Hp} (lo : Int) (n : Nat) : ItRep K g (Itr lo n) ((List.range n).map fun i => .int (lo + (i : Nat))) G := fun G2 H2 e1 e2 => by
  refine ⟨fun i d h => ?_, ?_⟩
  · rw [List.getElem?_map] at h
    cases q : (List.range n)[i]? with
    | none => rw [q] at h; cases h
    | some j =>
      rw [q] at h
      cases h
      obtain ⟨hi, ej⟩ := List.getElem?_eq_some_iff.mp q
      have hj : j = i := by rw [← ej]; simp
      subst hj
      refine ⟨(by simpa using hi : j < n), fun x H3 y => ?_⟩
      obtain ⟨y1, y2⟩ := y
      subst y1
      subst y2
      exact ⟨G2, StpS.refl e2, .int _⟩
  · show n ≤ _
    simp
theorem di_range1 (hm : X.mg "range" = none) (A : DP X g W a ta fa) (hg : Gl X "range" := by rfl) (hs : starEach [a] X.env = [(false, eval a X.env)] := by rfl) (he : starEach [a] X.env = (false, eval a X.env) :: starEach [] X.env := by rfl) :
    DI X g W tg (.Call (.Name "range" p) [a] [] pos) (iRng1 (tCons ta tNil)) (iRange1 fa) := by
  refine ⟨pi_range1 hg hm (pa_cons A.pe pa_nil he) hs, fun G H σ ρ s R f h => A.den G H σ ρ s _ f (OutG.bind h fun d s1 v G1 H1 st1 pn1 r1 h1 => ?_)⟩
  obtain ⟨ds, hd⟩ := OutG.lift_some h1
  cases r1 with
  | int j =>
    have hd' := hd
    simp only [rg2] at hd'
    split at hd'
    · rename_i z
      cases hd'
      simp only [rgB, Bool.and_eq_true, decide_eq_true_eq] at z
      refine ⟨j, rfl, z.2.1, z.2.2, OutG.lift h1 pn1 hd (StpS.refl st1.gh) ?_⟩
      have := itrep_range (K := X.K) (g := g) (G := G1) 0 j.toNat
      unfold rangeD
      rw [Int.sub_zero]
      exact this
    · cases hd'
  | _ => cases hd
theorem di_range2 (hm : X.mg "range" = none) (A : DP X g W a ta fa) (B : DP X g W b tb fb) (hg : Gl X "range" := by rfl) (hs : starEach [a, b] X.env = [(false, eval a X.env), (false, eval b X.env)] := by rfl) (hs2 : starEach [b] X.env = [(false, eval b X.env)] := by rfl) :
    DI X g W tg (.Call (.Name "range" p) [a, b] [] pos) (iRng2 (tCons ta (tCons tb tNil))) (iRange2 fa fb) := by
  refine ⟨pi_range2 hg hm (pa_cons A.pe (pa_cons B.pe pa_nil hs2) (by rw [hs, hs2])) hs hs2, fun G H σ ρ s R f h => A.den G H σ ρ s _ f (OutG.bind h fun d s1 v G1 H1 st1 pn1 r1 h1 => B.den G1 H1 σ ρ s1 _ (f.step st1 pn1) (OutG.bind h1 fun d2 s2 v2 G2 H2 st2 pn2 r2 h2 => ?_))⟩
  obtain ⟨ds, hd⟩ := OutG.lift_some h2
  cases r1 with
  | int i =>
    cases r2 with
    | int j =>
      have hd' := hd
      simp only [rg2] at hd'
      split at hd'
      · rename_i z
        cases hd'
        simp only [rgB, Bool.and_eq_true, decide_eq_true_eq] at z
        exact ⟨i, j, rfl, ⟨z.1.1, z.1.2, z.2.1, z.2.2⟩, OutG.lift h2 pn2 hd (StpS.refl st2.gh) (itrep_range (K := X.K) (g := g) (G := G2) i (j - i).toNat)⟩
      · cases hd'
    | _ => cases hd
  | _ => cases r2 <;> cases hd
theorem di_list (A : DP X g W e te fe) : DI X g W tg e (iList X.K te) (iEl fe) := by
  refine ⟨pi_list A.pe, fun G H σ ρ s R f h => A.den G H σ ρ s _ f (OutG.bind h fun d s1 v G1 H1 st1 pn1 r1 h1 => ?_)⟩
  cases r1 with
  | @lst p vs ds q1 hl hi =>
    refine ⟨p, rfl, ⟨_, SqL.of (st1.gh _ _ q1)⟩, h1 _ G1 H1 (Stp.refl st1.gh) pn1 fun G2 H2 e1 e2 => ⟨fun i d hd => ?_, _, SqL.of (e2 _ _ (e1 _ _ q1)), Nat.le_of_eq hl⟩⟩
    obtain ⟨v, hv, rv⟩ := Reps.get ⟨hl, hi⟩ hd
    refine ⟨⟨vs, v, SqL.of (e2 _ _ (e1 _ _ q1)), hv⟩, fun x H3 y => ?_⟩
    obtain ⟨y1, y2⟩ := y
    subst y1
    have := y2 vs (SqL.of (e2 _ _ (e1 _ _ q1)))
    rw [hv] at this
    cases this
    exact ⟨G2, StpS.refl e2, rv.mono e1⟩
  | _ => exact h1.elim
theorem di_tup (A : DP X g W e te fe) : DI X g W tg e (iTup X.K te) (iEt fe) := by
  refine ⟨pi_tup A.pe, fun G H σ ρ s R f h => A.den G H σ ρ s _ f (OutG.bind h fun d s1 v G1 H1 st1 pn1 r1 h1 => ?_)⟩
  cases r1 with
  | @tup p vs ds q1 hl hi =>
    refine ⟨p, rfl, ⟨_, sameSqT st1.gh q1⟩, h1 _ G1 H1 (Stp.refl st1.gh) pn1 fun G2 H2 e1 e2 => ⟨fun i d hd => ?_, _, sameSqT e2 (sameSqT e1 q1), Nat.le_of_eq hl⟩⟩
    obtain ⟨v, hv, rv⟩ := Reps.get ⟨hl, hi⟩ hd
    refine ⟨⟨vs, v, sameSqT e2 (sameSqT e1 q1), hv⟩, fun x H3 y => ?_⟩
    obtain ⟨y1, y2⟩ := y
    subst y1
    have := y2 vs (sameSqT e2 (sameSqT e1 q1))
    rw [hv] at this
    cases this
    exact ⟨G2, StpS.refl e2, rv.mono e1⟩
  | _ => exact h1.elim
theorem di_enum {tpos : Pos} {elts : List Expr} {kk : Nat} (hm : X.mg "enumerate" = none) (A : DP X g W a ta fa) (hg : Gl X "enumerate" := by rfl) (hs : starEach [a] X.env = [(false, eval a X.env)] := by rfl) (he : starEach [a] X.env = (false, eval a X.env) :: starEach [] X.env := by rfl) :
    DI X g W (.Tuple elts kk tpos) (.Call (.Name "enumerate" p) [a] [] pos) (iEnum X.K (tCons ta tNil)) (iEnumL fa) := by
  refine ⟨pi_enum hg hm (pa_cons A.pe pa_nil he) hs, fun G H σ ρ s R f h => A.den G H σ ρ s _ f (OutG.bind h fun d s1 v G1 H1 st1 pn1 r1 h1 => ?_)⟩
  cases r1 with
  | @lst p vs ds q1 hl hi =>
    refine ⟨p, vs, rfl, SqL.of (st1.gh _ _ q1), h1 _ G1 H1 (Stp.refl st1.gh) pn1 fun G2 H2 e1 e2 => ⟨fun i d hd => ?_, _, SqL.of (e2 _ _ (e1 _ _ q1)), by rw [enumD_len]; exact Nat.le_of_eq hl⟩⟩
    obtain ⟨d', hd', ed⟩ := enumD_get 0 ds i d hd
    obtain ⟨v, hv, rv⟩ := Reps.get ⟨hl, hi⟩ hd'
    refine ⟨⟨vs, v, SqL.of (e2 _ _ (e1 _ _ q1)), hv⟩, fun x H3 y => ?_⟩
    obtain ⟨T, z, y1, y2, y3, y4⟩ := y
    subst y1
    subst y3
    subst ed
    have := y4 vs (SqL.of (e2 _ _ (e1 _ _ q1)))
    rw [hv] at this
    cases this
    have st := StpS.new (o := .tup [.int (i : Nat), v]) e2 y2
    refine ⟨_, st, ?_⟩
    have rr : Reps X.K g G2 [.int ((0 + i : Nat) : Int), v] [.int ((0 + i : Nat) : Int), d'] := Reps.cons (.int _) (Reps.cons (rv.mono e1) Reps.nil)
    have rr' := rr.mono st.gg
    rw [Nat.zero_add] at rr' ⊢
    exact .tup (SqT.of upd_same) rr'.1 rr'.2
  | _ => exact h1.elim
end
end Zp
set_option Elab.async false
set_option maxRecDepth 100000
set_option linter.all false
namespace Zp
open PySem PySem.Spec PyProof.Rows L2
/-! ### comprehensions -/
abbrev W0 : WX := fun _ _ _ _ => False
def noX {α : Type} : ResE α → ResE α
  | .ok a s => .ok a s
  | _ => .bad
def wipeS (ρ : List Sv) : List Nat → List Sv
  | [] => ρ
  | v :: vs => (wipeS ρ vs).set v .no
def compGo (gf : GF) (ft : TF) (fe : EF) (ρ : List Sv) : List D → PenS → ResE (List D)
  | [], s => .ok [] s
  | d :: ds, s => match gf d ρ with
    | none => .bad
    | some ρ1 => (noX (ft ρ1 s)).bind fun b s1 => if b = true then (noX (fe ρ1 s1)).bind fun y s2 => (compGo gf ft fe ρ ds s2).bind fun ys s3 => .ok (y :: ys) s3 else compGo gf ft fe ρ ds s1
def oComp (vs : List Nat) (fi : AF) (gf : GF) (ft : TF) (fe : EF) : AF := fun ρ s => (fi ρ s).bind fun ds s1 => if szB ds.length = true then compGo gf ft fe (wipeS ρ vs) ds s1 else .bad
def tYesF : TF := fun _ s => .ok true s
structure DTs (X : Cx) (g : Gm) (W : WX) (es : List Expr) (t : TT) (f : TF) : Prop where
  pt : PTs X es t
  den : ∀ G H σ ρ s Q, Fq X.K g G H σ ρ s → OutG X.K g W G H σ RT Q (f ρ s) → t σ H Q
theorem dts_nil {X : Cx} {g : Gm} {W : WX} : DTs X g W [] tYes tYesF := ⟨pts_nil, fun G H σ ρ s Q f h => h true G H (Stp.refl f.gh) f.pen rfl⟩
theorem dts_one {X : Cx} {g : Gm} {W : WX} {c : Expr} {t : TT} {f : TF} (A : DT X g W c t f) : DTs X g W [c] t f := ⟨pts_one A.pt, A.den⟩
theorem noX_bind {α β : Type} {r : ResE α} {k : α → PenS → ResE β} {K : PySem.W.Frag} {g : Gm} {W : WX} {G H : Hp} {σ : L2.St} {γ : Type} {R : Hp → Hp → γ → β → Prop} {Q : γ → Hp → Prop} (h : OutG K g W G H σ R Q ((noX r).bind k)) :
    ∃ a s, r = .ok a s ∧ OutG K g W G H σ R Q (k a s) := by
  cases r with
  | ok a s => exact ⟨a, s, rfl, h⟩
  | exc c ds s => exact h.elim
  | bad => exact h.elim
theorem wipeS_get {ρ : List Sv} {i : Nat} {x : Sv} : ∀ {vs : List Nat}, (wipeS ρ vs)[i]? = some x → x ≠ .no → ρ[i]? = some x ∧ i ∉ vs
  | [], h, _ => ⟨h, by simp⟩
  | v :: vs, h, n => by
    unfold wipeS at h
    by_cases e : v = i
    · subst e
      by_cases hv : v < (wipeS ρ vs).length
      · rw [List.getElem?_set_self hv] at h
        cases h
        exact absurd rfl n
      · rw [List.getElem?_eq_none (by simpa using hv)] at h
        cases h
    · rw [List.getElem?_set_ne e] at h
      obtain ⟨h1, h2⟩ := wipeS_get h n
      exact ⟨h1, by simp only [List.mem_cons, not_or]; exact ⟨fun z => e z.symm, h2⟩⟩
theorem wipeS_len (ρ : List Sv) : ∀ vs : List Nat, (wipeS ρ vs).length = ρ.length
  | [] => rfl
  | v :: vs => by unfold wipeS; rw [List.length_set, wipeS_len ρ vs]
theorem Fq.wipe {K : PySem.W.Frag} {g : Gm} {G H : Hp} {σ : L2.St} {ρ : List Sv} {s : PenS} (f : Fq K g G H σ ρ s) (vs : List Nat) : Fq K g G H (wipe σ vs) (wipeS ρ vs) s := by
  have out : ∀ {i : Nat}, i ∉ vs → (L2.wipe σ vs)[i]? = σ[i]? := fun {i} h => by
    induction vs with
    | nil => rfl
    | cons v vs ih =>
      have h1 : v ≠ i := fun e => h (by rw [e]; exact List.mem_cons_self)
      have h2 : i ∉ vs := fun m => h (List.mem_cons_of_mem _ m)
      unfold L2.wipe
      rw [List.getElem?_set_ne h1]
      exact ih h2
  refine ⟨f.gh, f.pen, by rw [wipeS_len, wipe_length]; exact f.len, fun i d h => ?_, fun i ds h => ?_, fun i j a ds es h1 h2 h3 h4 => ?_, fun i c fs h => ?_, fun i j a c d ds es h1 h2 h3 h4 => ?_⟩
  · obtain ⟨h1, h2⟩ := wipeS_get h (fun z => by cases z)
    rw [out h2]
    exact f.val i d h1
  · obtain ⟨h1, h2⟩ := wipeS_get h (fun z => by cases z)
    rw [out h2]
    exact f.own i ds h1
  · obtain ⟨a1, b1⟩ := wipeS_get h1 (fun z => by cases z)
    obtain ⟨a2, b2⟩ := wipeS_get h2 (fun z => by cases z)
    rw [out b1] at h3
    rw [out b2] at h4
    exact f.dist i j a ds es a1 a2 h3 h4
  · obtain ⟨h1, h2⟩ := wipeS_get h (fun z => by cases z)
    rw [out h2]
    exact f.ins i c fs h1
  · obtain ⟨a1, b1⟩ := wipeS_get h1 (fun z => by cases z)
    obtain ⟨a2, b2⟩ := wipeS_get h2 (fun z => by cases z)
    rw [out b1] at h3
    rw [out b2] at h4
    exact f.disti i j a c d ds es a1 a2 h3 h4
theorem wipe_sub {σ : L2.St} {vs : List Nat} : ∀ us : List Nat, (∀ j ∈ us, j ∈ vs) → L2.wipe (L2.wipe σ us) vs = L2.wipe σ vs
  | [], _ => rfl
  | u :: us, h => by
    show L2.wipe ((L2.wipe σ us).set u none) vs = _
    rw [wipe_set (h u List.mem_cons_self)]
    exact wipe_sub us fun j hj => h j (List.mem_cons_of_mem _ hj)
theorem bind_nil (r : ResE (List D)) : (r.bind fun ys s3 => .ok ([] ++ ys) s3) = r := by cases r <;> rfl
theorem bind_assoc' {α β γ : Type} (r : ResE α) (k : α → PenS → ResE β) (l : β → PenS → ResE γ) : (r.bind k).bind l = r.bind fun a s => (k a s).bind l := by cases r <;> rfl
theorem ite_bind {β γ : Type} (b : Bool) (r q : ResE β) (l : β → PenS → ResE γ) : (if b = true then r else q).bind l = if b = true then r.bind l else q.bind l := by cases b <;> rfl
/-- one more item at the end of the list that is being made -/
theorem push_ok {K : PySem.W.Frag} {g : Gm} {G0 H0 G H : Hp} {s : PenS} {L : Addr} {vs : List V} {y : V} (st : Stp g G0 H0 G H) (pn : PenOk g G H s) (hL : H L = some (.lst vs)) (gL : G L = none) (h0 : ¬ Lv H0 L) :
    Stp g G0 H0 G (upd H L (.lst (vs ++ [y]))) ∧ PenOk g G (upd H L (.lst (vs ++ [y]))) s ∧ Same G (upd H L (.lst (vs ++ [y]))) := by
  have sg : Same G (upd H L (.lst (vs ++ [y]))) := fun b o q => by
    rw [upd_ne (ne_of_none q gL)]
    exact st.gh _ _ q
  refine ⟨⟨st.gg, sg, fun a o q n t => ?_, st.nw, al_upd (fun ps z => by cases z) st.al⟩, ⟨fun a e => ?_, tabs_upd hL (fun ps z => by cases z) (fun φ z => by cases z) pn.tb, pn.nt⟩, sg⟩
  · rw [upd_ne (fun z => h0 ⟨o, by rw [← z]; exact q, t⟩)]
    exact st.hh a o q n t
  · have p := pn a e
    refine ⟨p.no, p.cs, ?_⟩
    rw [upd_ne (fun z => by rw [← z, p.at_] at hL; cases hL)]
    exact p.at_
section
variable {X : Cx} {g : Gm} {W : WX}
theorem do_comp {elt tg iter : Expr} {ifs : List Expr} {scope : Scope} {own : List (Str × Nat)} {pos : Pos} {wi : TI} {t : TG} {tt : TT} {te : TE} {fi : AF} {gf : GF} {ft : TF} {fe : EF} {js : List Nat} (hc : X.calm = true) (hN : X.N.Nodup) (I : DI X g W tg iter wi fi) (ok : BlkOk X.N X.env.scope scope own)
    (hg : ∀ (s : Shared) (H : Hp) (C : Addr) (cl : List (Str × Addr)) (fp : List Addr), DG (X.blk s H scope (compEnvC scope cl C X.env) fp) g tg t js gf)
    (ht : ∀ (s : Shared) (H : Hp) (C : Addr) (cl : List (Str × Addr)) (fp : List Addr), DTs (X.blk s H scope (compEnvC scope cl C X.env) fp) g W0 ifs tt ft)
    (he : ∀ (s : Shared) (H : Hp) (C : Addr) (cl : List (Str × Addr)) (fp : List Addr), DP (X.blk s H scope (compEnvC scope cl C X.env) fp) g W0 elt te fe)
    (hj : ∀ j ∈ js, j ∈ own.map (·.2)) (hs : ∀ x, foldedSetIterable iter X.env x = pure x := by intro _; rfl) (s0 : Shared) (H00 : Hp) :
    DO X g W (.ListComp elt [⟨tg, iter, ifs, 0⟩] scope pos) (tLc wi t tt te (own.map (·.2))) (oComp (own.map (·.2)) fi gf ft fe) := by
  refine ⟨pe_lc hc hN I.pi ok (fun s H C cl fp => (hg s H C cl fp).pg) (fun s H C cl fp => (ht s H C cl fp).pt) (fun s H C cl fp => (he s H C cl fp).pe) hs, fun G H σ ρ s Q f h => I.den G H σ ρ s _ f (OutG.bind h fun ds s1 J G1 H1 st1 pn1 ri h1 => ?_)⟩
  split at h1
  case isFalse => exact h1.elim
  rename_i hz
  intro L hL
  have HL : ¬ Lv H L := st1.fr hL
  have GL : G1 L = none := st1.gh.free hL
  refine ⟨fun i m Hc => m = ds.length - i ∧ i ≤ ds.length ∧ ∃ Gc sc vs acc, Stp g G1 H1 Gc Hc ∧ PenOk g Gc Hc sc ∧ Hc L = some (.lst vs) ∧ Gc L = none ∧ vs.length ≤ i ∧ Reps X.K g Gc vs acc ∧
    OutG X.K g W G1 H1 σ (RO X.K g H) Q ((compGo gf ft fe (wipeS ρ (own.map (·.2))) (ds.drop i) sc).bind fun ys s3 => .ok (acc ++ ys) s3), ⟨_, rfl, Nat.zero_le _, G1, s1, [], [], ?_, ?_, upd_same, GL, Nat.zero_le _, Reps.nil, ?_⟩, ?_⟩
  · have q := StpS.newO (o := .lst []) st1.gh hL
    exact q.stp
  · exact (StpS.newO (o := .lst []) st1.gh hL).pen pn1
  · rw [List.drop_zero, bind_nil]
    exact h1
  rintro i m Hc ⟨rfl, hi, Gc, sc, vs, acc, stc, pnc, hLc, gLc, hvl, rp, ho⟩
  have fc : Fq X.K g Gc Hc (wipe σ (own.map (·.2))) (wipeS ρ (own.map (·.2))) sc := ((f.step st1 pn1).step stc pnc).wipe _
  obtain ⟨r1, r2⟩ := ri Gc Hc stc.gg stc.gh
  by_cases hlt : i < ds.length
  · refine .inr ⟨(r1 i _ (List.getElem?_eq_getElem hlt)).1, _, fun H' p => ⟨ds.length - (i + 1), by omega, p⟩, fun x H' y => ?_⟩
    obtain ⟨G3, st3, rx⟩ := (r1 i _ (List.getElem?_eq_getElem hlt)).2 x H' y
    rw [List.drop_eq_getElem_cons hlt] at ho
    simp only [compGo] at ho
    have pn3 := st3.pen pnc
    have f3 := fc.step st3.stp pn3
    have stc3 : Stp g G1 H1 G3 H' := stc.trans st3.stp fun x e _ => pnc.there e
    cases eg : gf ds[i] (wipeS ρ (own.map (·.2))) with
    | none =>
      rw [eg] at ho
      exact ho.elim
    | some ρ1 =>
      rw [eg] at ho
      simp only [] at ho
      refine (hg s0 H00 0 [] []).den (s := sc) f3 rx eg fun σ' f' hw _ => ⟨(hw _ hj).trans (wipe_sub _ fun _ z => z), ?_⟩
      rw [bind_assoc'] at ho
      obtain ⟨b, s4, eb, ho⟩ := noX_bind ho
      refine (ht s0 H00 0 [] []).den G3 H' σ' ρ1 sc _ f' ?_
      rw [eb]
      intro b' G4 H4 st4 pn4 hb
      subst hb
      have stc4 : Stp g G1 H1 G4 H4 := stc3.trans st4 fun x e _ => pn3.there e
      have hL3 : H' L = some (.lst vs) := st3.hh _ _ hLc
      have npa : g.pa ≠ some L := fun e => by
        have := (pnc L e).at_
        rw [hLc] at this
        cases this
      have gL3 : G3 L = none := st3.nw L gLc ⟨_, hLc, fun ps z => by cases z⟩
      have hL4 : H4 L = some (.lst vs) := st4.hh _ _ hL3 npa (fun ps z => by cases z)
      have gL4 : G4 L = none := st4.nw L gL3 ⟨_, hL3, fun ps z => by cases z⟩
      have rp4 : Reps X.K g G4 vs acc := (rp.mono st3.gg).mono st4.gg
      cases b' with
      | false =>
        rw [if_neg Bool.false_ne_true] at ho ⊢
        exact ⟨rfl, hlt, G4, s4, vs, acc, stc4, pn4, hL4, gL4, by omega, rp4, ho⟩
      | true =>
        rw [if_pos rfl] at ho ⊢
        rw [bind_assoc'] at ho
        obtain ⟨y, s5, ey, ho⟩ := noX_bind ho
        rw [bind_assoc'] at ho
        refine (he s0 H00 0 [] []).den G4 H4 σ' ρ1 s4 _ (f'.step st4 pn4) ?_
        rw [ey]
        intro yv G5 H5 st5 pn5 ry
        have stc5 : Stp g G1 H1 G5 H5 := stc4.trans st5 fun x e _ => pn4.there e
        have hL5 : H5 L = some (.lst vs) := st5.hh _ _ hL4 npa (fun ps z => by cases z)
        have gL5 : G5 L = none := st5.nw L gL4 ⟨_, hL4, fun ps z => by cases z⟩
        obtain ⟨p1, p2, p3⟩ := push_ok (K := X.K) (y := yv) stc5 pn5 hL5 gL5 (lv_none hL)
        have hz' := szB_le hz
        refine ⟨vs, hL5, by omega, rfl, hlt, G5, s5, vs ++ [yv], acc ++ [y], p1, p2, upd_same, gL5, by rw [List.length_append]; simp; omega, (rp4.mono st5.gg).append (Reps.cons ry Reps.nil), ?_⟩
        have e2 : (fun (ys : List D) s3 => ResE.ok (acc ++ [y] ++ ys) s3) = fun (a : List D) (s : PenS) => (ResE.ok (y :: a) s).bind fun ys s3 => ResE.ok (acc ++ ys) s3 := by
          funext ys s3
          show _ = ResE.ok (acc ++ (y :: ys)) s3
          rw [List.append_assoc]
          rfl
        rw [e2]
        exact ho
  · have e : i = ds.length := by omega
    subst e
    rw [List.drop_length] at ho
    simp only [compGo] at ho
    refine .inl ⟨r2, ?_⟩
    have ho' : OutG X.K g W G1 H1 σ (RO X.K g H) Q (.ok (acc ++ []) sc) := ho
    rw [List.append_nil] at ho'
    refine ho' (.ref L) Gc Hc stc pnc ⟨L, vs, rfl, hLc, gLc, HL, fun e => ?_, rp⟩
    have := (pnc L e).at_
    rw [hLc] at this
    cases this
end
end Zp
set_option Elab.async false
set_option maxRecDepth 100000
set_option linter.all false
namespace Zp
open PySem PySem.Spec PyProof.Rows L2
/-! ### statements -/
inductive ResS where
  | nx (ρ : List Sv) (s : PenS) | ret (d : D) (s : PenS) | brk (ρ : List Sv) (s : PenS) | ct (ρ : List Sv) (s : PenS) | exc (c : Nat) (ds : List D) (ρ : List Sv) (s : PenS) | bad
abbrev SF := List Sv → PenS → ResS
def ResS.seq : ResS → SF → ResS
  | .nx ρ s, k => k ρ s
  | r, _ => r
def eS {α : Type} (r : ResE α) (ρ : List Sv) (k : α → PenS → ResS) : ResS := match r with
  | .ok a s => k a s
  | .exc c ds s => .exc c ds ρ s
  | .bad => .bad
structure Fs (K : PySem.W.Frag) (g : Gm) (G0 H0 G H : Hp) (σ : L2.St) (ρ : List Sv) (s : PenS) : Prop where
  fq : Fq K g G H σ ρ s
  st : Stp g G0 H0 G H
  fr : ∀ (i : Nat) x a, ρ[i]? = some x → (∀ d, x ≠ .val d) → x ≠ .no → σ[i]? = some (some (.ref a)) → ¬ Lv H0 a
  ph : ∀ x, g.pa = some x → H0 x ≠ none
theorem Fs.step {K : PySem.W.Frag} {g : Gm} {G0 H0 G H G' H' : Hp} {σ : L2.St} {ρ : List Sv} {s s' : PenS} (f : Fs K g G0 H0 G H σ ρ s) (st : Stp g G H G' H') (pn : PenOk g G' H' s') : Fs K g G0 H0 G' H' σ ρ s' :=
  ⟨f.fq.step st pn, f.st.trans st fun x e _ => f.fq.pen.there e, f.fr, f.ph⟩
section
variable (K : PySem.W.Frag) (g : Gm) (W : WX) (G0 H0 : Hp) (Dn : Ends)
def OutS : ResS → Prop
  | .nx ρ s => ∀ σ G H, Fs K g G0 H0 G H σ ρ s → Dn.nx σ H
  | .ret d s => ∀ v G H, Stp g G0 H0 G H → PenOk g G H s → Rep K g G v d → Dn.rt v H
  | .brk ρ s => ∀ σ G H, Fs K g G0 H0 G H σ ρ s → Dn.bk σ H
  | .ct ρ s => ∀ σ G H, Fs K g G0 H0 G H σ ρ s → Dn.ct σ H
  | .exc c ds ρ s => ∀ od σ G H, Fs K g G0 H0 G H σ ρ s → XRep K g G H od c ds → W (.ref (g.cl c)) od σ H
  | .bad => False
end
section
variable {K : PySem.W.Frag} {g : Gm} {W : WX} {G0 H0 G H : Hp} {Dn : Ends} {σ : L2.St} {ρ : List Sv} {s : PenS}
theorem OutS.bindE {α β : Type} {R : Hp → Hp → β → α → Prop} {Q : β → Hp → Prop} {r : ResE α} {k : α → PenS → ResS} (h : OutS K g W G0 H0 Dn (eS r ρ k)) (f : Fs K g G0 H0 G H σ ρ s)
    (hk : ∀ d s' v G' H', Stp g G H G' H' → Fs K g G0 H0 G' H' σ ρ s' → R G' H' v d → OutS K g W G0 H0 Dn (k d s') → Q v H') : OutG K g W G H σ R Q r := by
  cases r with
  | ok a s1 => exact fun v G' H' st pn rv => hk a s1 v G' H' st (f.step st pn) rv h
  | exc c ds s1 => exact fun od G' H' st pn x => h od σ G' H' (f.step st pn) x
  | bad => exact h
end
section
variable (X : Cx) (g : Gm) (W : WX)
structure DS (st : Stmt) (t : TS) (f : SF) : Prop where
  ps : PS X st t
  den : ∀ G0 H0 G H σ ρ s Dn, Fs X.K g G0 H0 G H σ ρ s → OutS X.K g W G0 H0 Dn (f ρ s) → t Dn σ H
structure DSs (st : List Stmt) (t : TS) (f : SF) : Prop where
  ps : PSs X st t
  den : ∀ G0 H0 G H σ ρ s Dn, Fs X.K g G0 H0 G H σ ρ s → OutS X.K g W G0 H0 Dn (f ρ s) → t Dn σ H
end
def sNil : SF := fun ρ s => .nx ρ s
def sSeq (f h : SF) : SF := fun ρ s => (f ρ s).seq h
def sDrop (f : EF) : SF := fun ρ s => eS (f ρ s) ρ fun _ s1 => .nx ρ s1
def sRet (f : EF) : SF := fun ρ s => eS (f ρ s) ρ fun d s1 => .ret d s1
def sRetN : SF := fun _ s => .ret .non s
def sSet (i : Nat) (f : EF) : SF := fun ρ s => eS (f ρ s) ρ fun d s1 => .nx (ρ.set i (.val d)) s1
def sSetO (i : Nat) (f : AF) : SF := fun ρ s => eS (f ρ s) ρ fun ds s1 => .nx (ρ.set i (.own ds)) s1
def sAsg (f : EF) (gf : GF) : SF := fun ρ s => eS (f ρ s) ρ fun d s1 => match gf d ρ with
  | some ρ1 => .nx ρ1 s1
  | none => .bad
def sIf (c : TF) (f h : SF) : SF := fun ρ s => eS (c ρ s) ρ fun b s1 => if b = true then f ρ s1 else h ρ s1
section
variable {X : Cx} {g : Gm} {W : WX} {st : Stmt} {rest : List Stmt} {t u : TS} {f h : SF} {e : Expr} {te : TE} {fe : EF} {pos : Pos}
theorem ss_nil : DSs X g W [] tNext sNil := ⟨pss_nil, fun G0 H0 G H σ ρ s Dn q o => o σ G H q⟩
theorem den_seq {K : PySem.W.Frag} (A : ∀ G0 H0 G H σ ρ s Dn, Fs K g G0 H0 G H σ ρ s → OutS K g W G0 H0 Dn (f ρ s) → t Dn σ H) (B : ∀ G0 H0 G H σ ρ s Dn, Fs K g G0 H0 G H σ ρ s → OutS K g W G0 H0 Dn (h ρ s) → u Dn σ H) :
    ∀ G0 H0 G H σ ρ s Dn, Fs K g G0 H0 G H σ ρ s → OutS K g W G0 H0 Dn (sSeq f h ρ s) → tSeq t u Dn σ H := fun G0 H0 G H σ ρ s Dn q o => by
  refine A G0 H0 G H σ ρ s _ q ?_
  unfold sSeq at o
  cases r : f ρ s with
  | nx ρ1 s1 =>
    rw [r] at o
    exact fun σ' G' H' q' => B G0 H0 G' H' σ' ρ1 s1 Dn q' o
  | ret d s1 => rw [r] at o; exact o
  | brk ρ1 s1 => rw [r] at o; exact o
  | ct ρ1 s1 => rw [r] at o; exact o
  | exc c ds ρ1 s1 => rw [r] at o; exact o
  | bad => rw [r] at o; exact o
theorem ss_cons (A : DS X g W st t f) (B : DSs X g W rest u h) : DSs X g W (st :: rest) (tSeq t u) (sSeq f h) := ⟨pss_cons A.ps B.ps, den_seq A.den B.den⟩
theorem ss_one (A : DS X g W st t f) : DSs X g W [st] t f := ⟨pss_one A.ps, A.den⟩
theorem ds_pass : DS X g W (.Pass pos) tNext sNil := ⟨ps_pass, fun G0 H0 G H σ ρ s Dn q o => o σ G H q⟩
theorem ds_expr (A : DP X g W e te fe) (hs : swapsWith e none pos.line X.env = pure false := by rfl) : DS X g W (.Expr e pos) (tDrop te) (sDrop fe) :=
  ⟨ps_expr A.pe hs, fun G0 H0 G H σ ρ s Dn q o => A.den G H σ ρ s _ q.fq (OutS.bindE o q fun d s1 v G1 H1 _ q1 _ o1 => o1 σ G1 H1 q1)⟩
theorem ds_ret (A : DP X g W e te fe) : DS X g W (.Return (some e) pos) (tRet te) (sRet fe) :=
  ⟨ps_ret A.pe, fun G0 H0 G H σ ρ s Dn q o => A.den G H σ ρ s _ q.fq (OutS.bindE o q fun d s1 v G1 H1 _ q1 r o1 => o1 v G1 H1 q1.st q1.fq.pen r)⟩
theorem ds_retN : DS X g W (.Return none pos) tRetN sRetN := ⟨ps_retN, fun G0 H0 G H σ ρ s Dn q o => o .non G H q.st q.fq.pen .non⟩
theorem Fs.set {K : PySem.W.Frag} {G0 H0 G H : Hp} {σ : L2.St} {ρ : List Sv} {s : PenS} (q : Fs K g G0 H0 G H σ ρ s) (i : Nat) {v : V} {d : D} (r : Rep K g G v d) : Fs K g G0 H0 G H (σ.set i (some v)) (ρ.set i (.val d)) s :=
  ⟨q.fq.set i r, q.st, fun j x a h n1 n2 e => by
    obtain ⟨z, h⟩ := set_other h (n1 d)
    rw [List.getElem?_set_ne z] at e
    exact q.fr j x a h n1 n2 e, q.ph⟩
theorem den_set {K : PySem.W.Frag} {i : Nat} (A : ∀ G H σ ρ s Q, Fq K g G H σ ρ s → OutG K g W G H σ (RD K g) Q (fe ρ s) → te σ H Q) :
    ∀ G0 H0 G H σ ρ s Dn, Fs K g G0 H0 G H σ ρ s → OutS K g W G0 H0 Dn (sSet i fe ρ s) → tAsg te (gName i) Dn σ H := fun G0 H0 G H σ ρ s Dn q o =>
  A G H σ ρ s _ q.fq (OutS.bindE o q fun d s1 v G1 H1 _ q1 r o1 => o1 _ G1 H1 (q1.set i r))
theorem ds_set (i : Nat) {x : Str} {pos' : Pos} (hN : X.N.Nodup) (hi : X.N[i]? = some x) (hx : Loc X.env.scope x) (A : DP X g W e te fe) (hs : swapsWith e (some (.Name x pos')) pos.line X.env = pure false := by rfl) (hf : X.fn x = true ∨ X.env.scope.names.lookup x = some .local := by first | exact .inl rfl | exact .inr rfl | assumption) :
    DS X g W (.Assign [.Name x pos'] e pos) (tAsg te (gName i)) (sSet i fe) := ⟨ps_set hN hi hx A.pe hs hf, den_set A.den⟩
/-- a list of one's own -/
theorem Fs.setO {K : PySem.W.Frag} {G0 H0 G H : Hp} {σ : L2.St} {ρ : List Sv} {s : PenS} (q : Fs K g G0 H0 G H σ ρ s) (i : Nat) {a : Addr} {vs : List V} {ds : List D} (h1 : H a = some (.lst vs)) (h2 : G a = none) (h3 : ¬ Lv H0 a) (h4 : g.pa ≠ some a) (r : Reps K g G vs ds)
    (nw : ∀ (j : Nat) x, ρ[j]? = some x → (∀ d, x ≠ .val d) → x ≠ .no → σ[j]? ≠ some (some (.ref a))) : Fs K g G0 H0 G H (σ.set i (some (.ref a))) (ρ.set i (.own ds)) s := by
  have lenq := q.fq.len
  have at_i : ∀ {x : Sv}, (ρ.set i (.own ds))[i]? = some x → x = .own ds ∧ i < σ.length := fun {x} h => by
    have hi : i < ρ.length := by
      have := (List.getElem?_eq_some_iff.mp h).1
      simpa using this
    rw [List.getElem?_set_self hi] at h
    exact ⟨(Option.some.inj h).symm, by rw [← lenq]; exact hi⟩
  refine ⟨⟨q.fq.gh, q.fq.pen, by simp [lenq], fun j d h => ?_, fun j es h => ?_, fun j k b es gs k1 k2 k3 k4 => ?_, fun j c fs h => ?_, fun j k b c d es gs k1 k2 k3 k4 => ?_⟩, q.st, fun j x b h n1 n2 e => ?_, q.ph⟩
  · obtain ⟨z, h⟩ := set_other h (fun z => by cases z)
    rw [List.getElem?_set_ne z]
    exact q.fq.val j d h
  · by_cases z : i = j
    · subst z
      obtain ⟨e, hi⟩ := at_i h
      cases e
      exact ⟨a, vs, List.getElem?_set_self hi, h1, h2, h4, r⟩
    · rw [List.getElem?_set_ne z] at h ⊢
      exact q.fq.own j es h
  · by_cases z1 : i = j
    · subst z1
      by_cases z2 : i = k
      · exact z2
      · obtain ⟨e, hi⟩ := at_i k1
        rw [List.getElem?_set_ne z2] at k2 k4
        rw [List.getElem?_set_self hi] at k3
        cases k3
        exact absurd k4 (nw k _ k2 (fun d z => by cases z) (fun z => by cases z))
    · by_cases z2 : i = k
      · subst z2
        obtain ⟨e, hi⟩ := at_i k2
        rw [List.getElem?_set_ne z1] at k1 k3
        rw [List.getElem?_set_self hi] at k4
        cases k4
        exact absurd k3 (nw j _ k1 (fun d z => by cases z) (fun z => by cases z))
      · rw [List.getElem?_set_ne z1] at k1 k3
        rw [List.getElem?_set_ne z2] at k2 k4
        exact q.fq.dist j k b es gs k1 k2 k3 k4
  · obtain ⟨z, h⟩ := set_other h (fun z => by cases z)
    rw [List.getElem?_set_ne z]
    exact q.fq.ins j c fs h
  · obtain ⟨z1, k1⟩ := set_other k1 (fun z => by cases z)
    obtain ⟨z2, k2⟩ := set_other k2 (fun z => by cases z)
    rw [List.getElem?_set_ne z1] at k3
    rw [List.getElem?_set_ne z2] at k4
    exact q.fq.disti j k b c d es gs k1 k2 k3 k4
  · by_cases z : i = j
    · subst z
      obtain ⟨_, hi⟩ := at_i h
      rw [List.getElem?_set_self hi] at e
      cases e
      exact h3
    · rw [List.getElem?_set_ne z] at h e
      exact q.fr j x b h n1 n2 e
theorem Fs.newO {K : PySem.W.Frag} {G0 H0 G H G1 H1 : Hp} {σ : L2.St} {ρ : List Sv} {s s1 : PenS} (q : Fs K g G0 H0 G H σ ρ s) (q1 : Fs K g G0 H0 G1 H1 σ ρ s1) (i : Nat) {v : V} {ds : List D} (r : RO K g H G1 H1 v ds) : Fs K g G0 H0 G1 H1 (σ.set i (some v)) (ρ.set i (.own ds)) s1 := by
  obtain ⟨a, vs, rfl, h2, h3, h4, h5, h6⟩ := r
  refine q1.setO i h2 h3 ?_ h5 h6 fun j x hx n1 n2 e => ?_
  · exact q.st.fr' h4
  · cases x with
    | no => exact n2 rfl
    | val d => exact n1 d rfl
    | own es =>
      obtain ⟨b, ws, k1, k2, _⟩ := q.fq.own j es hx
      rw [e] at k1
      cases k1
      exact h4 ⟨_, k2, fun ps z => by cases z⟩
    | ins c fs =>
      obtain ⟨b, dx, ws, k1, k2, _⟩ := q.fq.ins j c fs hx
      rw [e] at k1
      cases k1
      exact h4 ⟨_, k2, fun ps z => by cases z⟩
theorem den_setO {K : PySem.W.Frag} {i : Nat} {fo : AF} (A : ∀ G H σ ρ s Q, Fq K g G H σ ρ s → OutG K g W G H σ (RO K g H) Q (fo ρ s) → te σ H Q) :
    ∀ G0 H0 G H σ ρ s Dn, Fs K g G0 H0 G H σ ρ s → OutS K g W G0 H0 Dn (sSetO i fo ρ s) → tAsg te (gName i) Dn σ H := fun G0 H0 G H σ ρ s Dn q o =>
  A G H σ ρ s _ q.fq (OutS.bindE o q fun d s1 v G1 H1 st1 q1 r o1 => o1 _ G1 H1 (q.newO q1 i r))
theorem ds_setO (i : Nat) {x : Str} {pos' : Pos} {fo : AF} (hN : X.N.Nodup) (hi : X.N[i]? = some x) (hx : Loc X.env.scope x) (A : DO X g W e te fo) (hs : swapsWith e (some (.Name x pos')) pos.line X.env = pure false := by rfl) (hf : X.fn x = true ∨ X.env.scope.names.lookup x = some .local := by first | exact .inl rfl | exact .inr rfl | assumption) :
    DS X g W (.Assign [.Name x pos'] e pos) (tAsg te (gName i)) (sSetO i fo) := ⟨ps_set hN hi hx A.pe hs hf, den_setO A.den⟩
/-- a target of any form -/
theorem ds_asg {tg : Expr} {gt : TG} {js : List Nat} {gf : GF} (A : DP X g W e te fe) (B : DG X g tg gt js gf) (hs : swapsWithSole [tg] e pos.line X.env = pure false := by rfl) (hw : swappedStores [tg] e X.env = pure none := by rfl)
    (h1 : (assignEach [tg] X.env).map (·.2) = [assign tg X.env] := by rfl) : DS X g W (.Assign [tg] e pos) (tAsg te gt) (sAsg fe gf) :=
  ⟨ps_asg A.pe B.pg hs hw h1, fun G0 H0 G H σ ρ s Dn q o => A.den G H σ ρ s _ q.fq (OutS.bindE o q fun d s1 v G1 H1 _ q1 r o1 => by
    cases eg : gf d ρ with
    | none =>
      rw [eg] at o1
      exact o1.elim
    | some ρ1 =>
      rw [eg] at o1
      exact B.den q1.fq r eg fun σ' f' _ ko => o1 σ' G1 H1 ⟨f', q1.st, fun i x a hx n1 n2 e => by
        obtain ⟨k1, k2⟩ := ko i x hx n1
        rw [k2] at e
        exact q1.fr i x a k1 n1 n2 e, q1.ph⟩)⟩
theorem ds_if {c : Expr} {a b : List Stmt} {tc : TT} {fc : TF} (C : DT X g W c tc fc) (A : DSs X g W a t f) (B : DSs X g W b u h) : DS X g W (.If c a b pos) (tIfS tc t u) (sIf fc f h) :=
  ⟨ps_if C.pt A.ps B.ps, fun G0 H0 G H σ ρ s Dn q o => C.den G H σ ρ s _ q.fq (OutS.bindE o q fun d s1 v G1 H1 _ q1 r o1 => by
    subst r
    cases v with
    | true => exact A.den G0 H0 G1 H1 σ ρ s1 Dn q1 o1
    | false => exact B.den G0 H0 G1 H1 σ ρ s1 Dn q1 o1)⟩
end
end Zp
set_option Elab.async false
set_option maxRecDepth 100000
set_option linter.all false
namespace Zp
open PySem PySem.Spec PyProof.Rows L2
/-! ### a list of one's own is changed, frozen -/
theorem Fq.ownUpd {K : PySem.W.Frag} {g : Gm} {G H : Hp} {σ : L2.St} {ρ : List Sv} {s : PenS} (q : Fq K g G H σ ρ s) {j : Nat} {ds es : List D} {a : Addr} {ws : List V} (hj : ρ[j]? = some (.own ds)) (ha : σ[j]? = some (some (.ref a))) (r : Reps K g G ws es) :
    Fq K g G (upd H a (.lst ws)) σ (ρ.set j (.own es)) s := by
  obtain ⟨b, vs, k1, k2, k3, k4, k5⟩ := q.own j ds hj
  rw [ha] at k1
  cases k1
  have hjl : j < ρ.length := (List.getElem?_eq_some_iff.mp hj).1
  have sg : Same G (upd H a (.lst ws)) := fun b o e => by
    rw [upd_ne (ne_of_none e k3)]
    exact q.gh _ _ e
  refine ⟨sg, ⟨fun x e => ?_, tabs_upd k2 (fun ps z => by cases z) (fun φ z => by cases z) q.pen.tb, q.pen.nt⟩, by simp [q.len], fun i d h => ?_, fun i gs h => ?_, fun i k b fs gs h1 h2 h3 h4 => ?_, fun i c fs h => ?_, fun i k b c d fs gs h1 h2 h3 h4 => ?_⟩
  · have p := q.pen x e
    refine ⟨p.no, p.cs, ?_⟩
    rw [upd_ne (fun z => k4 (by rw [← z]; exact e))]
    exact p.at_
  · obtain ⟨z, h⟩ := set_other h (fun z => by cases z)
    exact q.val i d h
  · by_cases z : j = i
    · subst z
      rw [List.getElem?_set_self hjl] at h
      cases h
      exact ⟨a, ws, ha, upd_same, k3, k4, r⟩
    · rw [List.getElem?_set_ne z] at h
      obtain ⟨b, us, m1, m2, m3, m4, m5⟩ := q.own i gs h
      refine ⟨b, us, m1, ?_, m3, m4, m5⟩
      rw [upd_ne (fun e => z (q.dist j i a ds gs hj h ha (by rw [← e]; exact m1)))]
      exact m2
  · have back : ∀ {m : Nat} {x : List D}, (ρ.set j (.own es))[m]? = some (.own x) → ∃ y, ρ[m]? = some (.own y) := fun {m x} h => by
      by_cases z : j = m
      · subst z
        exact ⟨ds, hj⟩
      · rw [List.getElem?_set_ne z] at h
        exact ⟨x, h⟩
    obtain ⟨y1, h1⟩ := back h1
    obtain ⟨y2, h2⟩ := back h2
    exact q.dist i k b y1 y2 h1 h2 h3 h4
  · obtain ⟨z, h⟩ := set_other h (fun z => by cases z)
    obtain ⟨b, dx, us, m1, m2, m3, m4, m5⟩ := q.ins i c fs h
    refine ⟨b, dx, us, m1, ?_, m3, m4, m5⟩
    rw [upd_ne (fun e => by rw [e, k2] at m2; cases m2)]
    exact m2
  · obtain ⟨z1, h1⟩ := set_other h1 (fun z => by cases z)
    obtain ⟨z2, h2⟩ := set_other h2 (fun z => by cases z)
    exact q.disti i k b c d fs gs h1 h2 h3 h4
theorem Fs.ownUpd {K : PySem.W.Frag} {g : Gm} {G0 H0 G H : Hp} {σ : L2.St} {ρ : List Sv} {s : PenS} (q : Fs K g G0 H0 G H σ ρ s) {j : Nat} {ds es : List D} {a : Addr} {ws : List V} (hj : ρ[j]? = some (.own ds)) (ha : σ[j]? = some (some (.ref a))) (r : Reps K g G ws es) :
    Fs K g G0 H0 G (upd H a (.lst ws)) σ (ρ.set j (.own es)) s := by
  have f' := q.fq.ownUpd hj ha r
  have h0 : ¬ Lv H0 a := q.fr j _ a hj (fun d z => by cases z) (fun z => by cases z) ha
  have hjl : j < ρ.length := (List.getElem?_eq_some_iff.mp hj).1
  refine ⟨f', ⟨q.st.gg, f'.gh, fun b o e n t => ?_, q.st.nw, al_upd (fun ps z => by cases z) q.st.al⟩, fun i x b h n1 n2 e => ?_, q.ph⟩
  · rw [upd_ne (fun z => h0 ⟨o, by rw [← z]; exact e, t⟩)]
    exact q.st.hh b o e n t
  · by_cases z : j = i
    · subst z
      rw [ha] at e
      cases e
      exact h0
    · rw [List.getElem?_set_ne z] at h
      exact q.fr i x b h n1 n2 e
/-- from now on it never changes -/
theorem Fs.freeze {K : PySem.W.Frag} {g : Gm} {G0 H0 G H : Hp} {σ : L2.St} {ρ : List Sv} {s : PenS} (q : Fs K g G0 H0 G H σ ρ s) {j : Nat} {ds : List D} (hj : ρ[j]? = some (.own ds)) : ∃ G', Fs K g G0 H0 G' H σ (ρ.set j (.val (.lst ds))) s := by
  obtain ⟨a, vs, k1, k2, k3, k4, k5⟩ := q.fq.own j ds hj
  have h0 : ¬ Lv H0 a := q.fr j _ a hj (fun d z => by cases z) (fun z => by cases z) k1
  have hjl : j < ρ.length := (List.getElem?_eq_some_iff.mp hj).1
  have sg : Same G (upd G a (.lst vs)) := fun b o e => by
    rw [upd_ne (ne_of_none e k3)]
    exact e
  have gh : Same (upd G a (.lst vs)) H := fun b o e => by
    by_cases hb : b = a
    · subst hb
      rw [upd_same] at e
      cases e
      exact k2
    · rw [upd_ne hb] at e
      exact q.fq.gh _ _ e
  have up : ∀ {b : Addr}, b ≠ a → G b = none → upd G a (.lst vs) b = none := fun {b} n e => by rw [upd_ne n]; exact e
  refine ⟨upd G a (.lst vs), ⟨gh, ⟨fun x e => ?_, q.fq.pen.tb, nt_upd (fun ps z => by cases z) q.fq.pen.nt⟩, by simp [q.fq.len], fun i d h => ?_, fun i gs h => ?_, fun i k b fs gs h1 h2 h3 h4 => ?_, fun i c fs h => ?_, fun i k b c d fs gs h1 h2 h3 h4 => ?_⟩, ⟨q.st.gg.trans sg, gh, q.st.hh, fun b e n => ?_, q.st.al⟩, fun i x b h n1 n2 e => ?_, q.ph⟩
  · have p := q.fq.pen x e
    exact ⟨up (fun z => k4 (by rw [← z]; exact e)) p.no, sg _ _ p.cs, p.at_⟩
  · by_cases z : j = i
    · subst z
      rw [List.getElem?_set_self hjl] at h
      cases h
      exact ⟨_, k1, .lst upd_same k5.1 (k5.mono sg).2⟩
    · rw [List.getElem?_set_ne z] at h
      obtain ⟨v, m1, m2⟩ := q.fq.val i d h
      exact ⟨v, m1, m2.mono sg⟩
  · obtain ⟨z, h⟩ := set_other h (fun z => by cases z)
    obtain ⟨b, us, m1, m2, m3, m4, m5⟩ := q.fq.own i gs h
    exact ⟨b, us, m1, m2, up (fun e => z (q.fq.dist j i a ds gs hj h k1 (by rw [← e]; exact m1))) m3, m4, m5.mono sg⟩
  · obtain ⟨z1, h1⟩ := set_other h1 (fun z => by cases z)
    obtain ⟨z2, h2⟩ := set_other h2 (fun z => by cases z)
    exact q.fq.dist i k b fs gs h1 h2 h3 h4
  · obtain ⟨z, h⟩ := set_other h (fun z => by cases z)
    obtain ⟨b, dx, us, m1, m2, m3, m4, m5⟩ := q.fq.ins i c fs h
    exact ⟨b, dx, us, m1, m2, up (fun e => by rw [e, k2] at m2; cases m2) m3, m4, m5.mono sg⟩
  · obtain ⟨z1, h1⟩ := set_other h1 (fun z => by cases z)
    obtain ⟨z2, h2⟩ := set_other h2 (fun z => by cases z)
    exact q.fq.disti i k b c d fs gs h1 h2 h3 h4
  · exact up (fun z => h0 (by rw [← z]; exact n)) (q.st.nw b e n)
  · obtain ⟨z, h⟩ := set_other h (n1 _)
    exact q.fr i x b h n1 n2 e
def frz (j : Nat) (ρ : List Sv) : List Sv := match ρ[j]? with
  | some (.own ds) => ρ.set j (.val (.lst ds))
  | _ => ρ
theorem Fs.frz {K : PySem.W.Frag} {g : Gm} {G0 H0 G H : Hp} {σ : L2.St} {ρ : List Sv} {s : PenS} (q : Fs K g G0 H0 G H σ ρ s) (j : Nat) : ∃ G', Fs K g G0 H0 G' H σ (frz j ρ) s := by
  unfold Zp.frz
  split
  · exact q.freeze (by assumption)
  · exact ⟨G, q⟩
def sFrz (j : Nat) (f : SF) : SF := fun ρ s => f (frz j ρ) s
def sIxK (j : Nat) (ds : List D) (d : D) (i : D) (ρ : List Sv) (s : PenS) : ResS := match i with
  | .int n => match ixN ds.length n with
    | some k => .nx (ρ.set j (.own (ds.set k d))) s
    | none => .bad
  | _ => .bad
def sIx (j : Nat) (fi fe : EF) : SF := fun ρ s => match ρ[j]? with
  | some (.own ds) => eS (fe ρ s) ρ fun d s1 => eS (fi ρ s1) ρ fun i s2 => sIxK j ds d i ρ s2
  | _ => .bad
def sApp (j : Nat) (fe : EF) : SF := fun ρ s => match ρ[j]? with
  | some (.own ds) => eS (fe ρ s) ρ fun d s1 => if szB (ds.length + 1) = true then .nx (ρ.set j (.own (ds ++ [d]))) s1 else .bad
  | _ => .bad
def sPop (j : Nat) : SF := fun ρ s => match ρ[j]? with
  | some (.own ds) => if ds.isEmpty = true then .bad else .nx (ρ.set j (.own ds.dropLast)) s
  | _ => .bad
section
variable {X : Cx} {g : Gm} {W : WX} {st : Stmt} {sts : List Stmt} {t u : TS} {f h : SF} {e i : Expr} {te ti : TE} {fe fi : EF} {pos : Pos}
theorem ds_frz (j : Nat) (A : DS X g W st t f) : DS X g W st t (sFrz j f) := ⟨A.ps, fun G0 H0 G H σ ρ s Dn q o => by
  obtain ⟨G', q'⟩ := q.frz j
  exact A.den G0 H0 G' H σ _ s Dn q' o⟩
theorem ss_frz (j : Nat) (A : DSs X g W sts t f) : DSs X g W sts t (sFrz j f) := ⟨A.ps, fun G0 H0 G H σ ρ s Dn q o => by
  obtain ⟨G', q'⟩ := q.frz j
  exact A.den G0 H0 G' H σ _ s Dn q' o⟩
theorem ds_ix (j : Nat) {x : Str} {p2 p3 : Pos} (A : DP X g W e te fe) (B : DP X g W i ti fi) (hN : X.N[j]? = some x := by rfl) (hv : Vis X.env.scope x := by first | exact Or.inl rfl | exact Or.inr (Or.inl rfl) | exact Or.inr (Or.inr rfl)) (hd : (x == ("__debug__" : Str)) = false := by decide)
    (hcd : (x == ("__classdict__" : Str)) = false := by decide) (hs : swapsWithSole [.Subscript (.Name x p2) i p3] e pos.line X.env = pure false := by rfl) (hw : swappedStores [.Subscript (.Name x p2) i p3] e X.env = pure none := by rfl)
    (h1 : (assignEach [.Subscript (.Name x p2) i p3] X.env).map (·.2) = [assign (.Subscript (.Name x p2) i p3) X.env] := by rfl) (ha : ∀ v, assign (.Subscript (.Name x p2) i p3) X.env v = (do
      let ov ← holding [v] (eval (.Name x p2) X.env)
      let iv ← holding [v, ov] (eval i X.env)
      standAt p3
      holding [v, ov, iv] (setItem ov iv v)
      release [v, ov, iv] []) := by intro _; rfl) : DS X g W (.Assign [.Subscript (.Name x p2) i p3] e pos) (tAsg te (gSub (tVar j) ti rSetL)) (sIx j fi fe) := by
  refine ⟨ps_asg A.pe (pg_sub (pe_var hN hv hd hcd) B.pe set_list ha) hs hw h1, fun G0 H0 G H σ ρ s Dn q o => ?_⟩
  unfold sIx at o
  split at o
  · rename_i ds hr
    refine A.den G H σ ρ s _ q.fq (OutS.bindE o q fun d s1 v G1 H1 _ q1 r o1 => ?_)
    obtain ⟨a, vs, k1, k2, k3, k4, k5⟩ := q1.fq.own j ds hr
    refine ⟨_, k1, B.den G1 H1 σ ρ s1 _ q1.fq (OutS.bindE o1 q1 fun iv s2 v2 G2 H2 st2 q2 r2 o2 => ?_)⟩
    obtain ⟨a', vs', m1, m2, m3, m4, m5⟩ := q2.fq.own j ds hr
    rw [k1] at m1
    cases m1
    cases r2 with
    | int n =>
      simp only [sIxK] at o2
      split at o2
      · rename_i k hk
        exact ⟨a, vs', n, k, rfl, rfl, m2, by rw [m5.1]; exact hk, o2 σ G2 _ (q2.ownUpd hr k1 (m5.set k (r.mono st2.gg)))⟩
      · exact o2.elim
    | _ => exact o2.elim
  · exact o.elim
theorem ds_app (j : Nat) {x : Str} {p2 p3 p4 : Pos} (A : DP X g W e te fe) (hN : X.N[j]? = some x := by rfl) (hv : Vis X.env.scope x := by first | exact Or.inl rfl | exact Or.inr (Or.inl rfl) | exact Or.inr (Or.inr rfl)) (hd : (x == ("__debug__" : Str)) = false := by decide)
    (hcd : (x == ("__classdict__" : Str)) = false := by decide) (hs : swapsWith (.Call (.Attribute (.Name x p2) "append" p3) [e] [] p4) none pos.line X.env = pure false := by rfl) (he : starEach [e] X.env = (false, eval e X.env) :: starEach [] X.env := by rfl)
    (P : ∀ {to : TE} {ta : TA}, PE X (.Name x p2) to → PA X [e] ta → PE X (.Call (.Attribute (.Name x p2) "append" p3) [e] [] p4) (tBM X.K "list" rAppend to ta) := by exact fun a b => pe_bm PySem.F.plainAttrs_list PySem.F.slot_list_append PySem.F.type_list_append mt_append a b) :
    DS X g W (.Expr (.Call (.Attribute (.Name x p2) "append" p3) [e] [] p4) pos) (tDrop (tBM X.K "list" rAppend (tVar j) (tCons te tNil))) (sApp j fe) := by
  refine ⟨ps_expr (P (pe_var hN hv hd hcd) (pa_cons A.pe pa_nil he)) hs, fun G0 H0 G H σ ρ s Dn q o => ?_⟩
  unfold sApp at o
  split at o
  · rename_i ds hr
    obtain ⟨a, vs, k1, k2, k3, k4, k5⟩ := q.fq.own j ds hr
    refine ⟨_, k1, .inl ⟨rfl, vs, SqL.of k2⟩, A.den G H σ ρ s _ q.fq (OutS.bindE o q fun d s1 v G1 H1 _ q1 r o1 => ?_)⟩
    obtain ⟨a', vs', m1, m2, m3, m4, m5⟩ := q1.fq.own j ds hr
    rw [k1] at m1
    cases m1
    split at o1
    · rename_i z
      have z' := szB_le z
      exact ⟨a, vs', v, rfl, rfl, m2, by rw [m5.1]; omega, o1 σ G1 _ (q1.ownUpd hr k1 (m5.append (Reps.cons r Reps.nil)))⟩
    · exact o1.elim
  · exact o.elim
theorem ds_pop (j : Nat) {x : Str} {p2 p3 p4 : Pos} (hN : X.N[j]? = some x := by rfl) (hv : Vis X.env.scope x := by first | exact Or.inl rfl | exact Or.inr (Or.inl rfl) | exact Or.inr (Or.inr rfl)) (hd : (x == ("__debug__" : Str)) = false := by decide)
    (hcd : (x == ("__classdict__" : Str)) = false := by decide) (hs : swapsWith (.Call (.Attribute (.Name x p2) "pop" p3) [] [] p4) none pos.line X.env = pure false := by rfl)
    (P : ∀ {to : TE}, PE X (.Name x p2) to → PE X (.Call (.Attribute (.Name x p2) "pop" p3) [] [] p4) (tBM0 X.K "list" rPop to) := by exact fun a => pe_bm0 PySem.F.plainAttrs_list PySem.F.slot_list_pop PySem.F.type_list_pop mt_pop a) :
    DS X g W (.Expr (.Call (.Attribute (.Name x p2) "pop" p3) [] [] p4) pos) (tDrop (tBM0 X.K "list" rPop (tVar j))) (sPop j) := by
  refine ⟨ps_expr (P (pe_var hN hv hd hcd)) hs, fun G0 H0 G H σ ρ s Dn q o => ?_⟩
  unfold sPop at o
  split at o
  · rename_i ds hr
    obtain ⟨a, vs, k1, k2, k3, k4, k5⟩ := q.fq.own j ds hr
    split at o
    · exact o.elim
    · rename_i ne
      have hl : 0 < vs.length := by
        rw [k5.1]
        cases ds with
        | nil => exact absurd rfl ne
        | cons => simp
      exact ⟨_, k1, .inl ⟨rfl, vs, SqL.of k2⟩, a, vs, vs[vs.length - 1], rfl, rfl, k2, List.getElem?_eq_getElem (by omega), o σ G _ (q.ownUpd hr k1 k5.dropLast)⟩
  · exact o.elim
end
end Zp
set_option Elab.async false
set_option maxRecDepth 100000
set_option linter.all false
namespace Zp
open PySem PySem.Spec PyProof.Rows L2
/-! ### two, three names at once -/
abbrev VF := List Sv → PenS → ResE Sv
inductive SvR (K : PySem.W.Frag) (g : Gm) (H0 G H : Hp) : V → Sv → Prop
  | val {v : V} {d : D} (r : Rep K g G v d) : SvR K g H0 G H v (.val d)
  | own {v : V} {ds : List D} (r : RO K g H0 G H v ds) : SvR K g H0 G H v (.own ds)
structure DV (X : Cx) (g : Gm) (W : WX) (e : Expr) (t : TE) (f : VF) : Prop where
  pe : PE X e t
  den : ∀ G H σ ρ s Q, Fq X.K g G H σ ρ s → OutG X.K g W G H σ (SvR X.K g H) Q (f ρ s) → t σ H Q
def vVal (f : EF) : VF := fun ρ s => (f ρ s).bind fun d s1 => .ok (.val d) s1
def vOwn (f : AF) : VF := fun ρ s => (f ρ s).bind fun d s1 => .ok (.own d) s1
theorem Fs.newX {K : PySem.W.Frag} {g : Gm} {G0 H0 G H G1 H1 : Hp} {σ : L2.St} {ρ : List Sv} {s s1 : PenS} (q : Fs K g G0 H0 G H σ ρ s) (q1 : Fs K g G0 H0 G1 H1 σ ρ s1) (i : Nat) {v : V} {x : Sv} (r : SvR K g H G1 H1 v x) : Fs K g G0 H0 G1 H1 (σ.set i (some v)) (ρ.set i x) s1 := by
  cases r with
  | val r => exact q1.set i r
  | own r => exact q.newO q1 i r
def sPar2 (i j : Nat) (f h : VF) : SF := fun ρ s => eS (f ρ s) ρ fun x s1 => eS (h ρ s1) ρ fun y s2 => .nx ((ρ.set i x).set j y) s2
def sPar3 (i j l : Nat) (f h k : VF) : SF := fun ρ s => eS (f ρ s) ρ fun x s1 => eS (h ρ s1) ρ fun y s2 => eS (k ρ s2) ρ fun z s3 => .nx (((ρ.set i x).set j y).set l z) s3
section
variable {X : Cx} {g : Gm} {W : WX} {a b c e : Expr} {ta tb tc te : TE} {fa fb fc : VF} {fe : EF} {fo : AF} {pos : Pos}
theorem dv_val (A : DP X g W e te fe) : DV X g W e te (vVal fe) := ⟨A.pe, fun G H σ ρ s Q f h => A.den G H σ ρ s _ f (by
  unfold vVal at h
  cases q : fe ρ s with
  | bad => rw [q] at h; exact h
  | exc c ds s1 => rw [q] at h; exact h
  | ok d s1 => rw [q] at h; exact fun v G1 H1 st pn r => h v G1 H1 st pn (.val r))⟩
theorem dv_own (A : DO X g W e te fo) : DV X g W e te (vOwn fo) := ⟨A.pe, fun G H σ ρ s Q f h => A.den G H σ ρ s _ f (by
  unfold vOwn at h
  cases q : fo ρ s with
  | bad => rw [q] at h; exact h
  | exc c ds s1 => rw [q] at h; exact h
  | ok d s1 => rw [q] at h; exact fun v G1 H1 st pn r => h v G1 H1 st pn (.own r))⟩
theorem ds_par2 {i j : Nat} {x y : Str} {px py pt : Pos} {kt k2 pt2} (hc : X.calm = true) (hN : X.N.Nodup) (hi : X.N[i]? = some x) (hj : X.N[j]? = some y) (hij : i ≠ j)
    (hx : X.env.scope.names.lookup x = some .local) (hy : X.env.scope.names.lookup y = some .local) (A : DV X g W a ta fa) (B : DV X g W b tb fb) (hsa : starEach [a, b] X.env = (false, eval a X.env) :: starEach [b] X.env) (hsb : starEach [b] X.env = (false, eval b X.env) :: starEach [] X.env)
    (hw : swappedStores [.Tuple [.Name x px, .Name y py] kt pt] (.Tuple [a, b] k2 pt2) X.env = pure (some [x, y]))
    (hs : swapsWithSole [.Tuple [.Name x px, .Name y py] kt pt] (.Tuple [a, b] k2 pt2) pos.line X.env = pure false := by rfl) :
    DS X g W (.Assign [.Tuple [.Name x px, .Name y py] kt pt] (.Tuple [a, b] k2 pt2) pos) (tPar i j (tCons ta (tCons tb tNil))) (sPar2 i j fa fb) := by
  refine ⟨ps_par hc hN hi hj hij hx hy (pa_cons A.pe (pa_cons B.pe pa_nil hsb) hsa) hw hs, fun G0 H0 G H σ ρ s Dn q o => A.den G H σ ρ s _ q.fq (OutS.bindE o q fun d1 s1 v1 G1 H1 st1 q1 r1 o1 => B.den G1 H1 σ ρ s1 _ q1.fq (OutS.bindE o1 q1 fun d2 s2 v2 G2 H2 st2 q2 r2 o2 => ?_))⟩
  exact ⟨v1, v2, rfl, o2 _ G2 H2 ((q.newX q1 i r1).newX ((q.newX q1 i r1).step st2 q2.fq.pen) j r2)⟩
theorem ds_par3 {i j l : Nat} {x y z : Str} (hc : X.calm = true) (hN : X.N.Nodup) (hi : X.N[i]? = some x) (hj : X.N[j]? = some y) (hl : X.N[l]? = some z) (A : DV X g W a ta fa) (B : DV X g W b tb fb) (C : DV X g W c tc fc) {sts : List Stmt}
    (hsa : starEach [a, b, c] X.env = (false, eval a X.env) :: starEach [b, c] X.env) (hsb : starEach [b, c] X.env = (false, eval b X.env) :: starEach [c] X.env) (hsc : starEach [c] X.env = (false, eval c X.env) :: starEach [] X.env) {st : Stmt}
    (P : PA X [a, b, c] (tCons ta (tCons tb (tCons tc tNil))) → PS X st (tPar3 i j l (tCons ta (tCons tb (tCons tc tNil))))) : DS X g W st (tPar3 i j l (tCons ta (tCons tb (tCons tc tNil)))) (sPar3 i j l fa fb fc) := by
  refine ⟨P (pa_cons A.pe (pa_cons B.pe (pa_cons C.pe pa_nil hsc) hsb) hsa), fun G0 H0 G H σ ρ s Dn q o => A.den G H σ ρ s _ q.fq (OutS.bindE o q fun d1 s1 v1 G1 H1 st1 q1 r1 o1 => B.den G1 H1 σ ρ s1 _ q1.fq (OutS.bindE o1 q1 fun d2 s2 v2 G2 H2 st2 q2 r2 o2 =>
    C.den G2 H2 σ ρ s2 _ q2.fq (OutS.bindE o2 q2 fun d3 s3 v3 G3 H3 st3 q3 r3 o3 => ?_)))⟩
  have f1 := q.newX q1 i r1
  have f2 := f1.newX (f1.step st2 q2.fq.pen) j r2
  exact ⟨v1, v2, v3, rfl, o3 _ G3 H3 (f2.newX (f2.step st3 q3.fq.pen) l r3)⟩
end
/-! ### loops -/
def whileN (c : TF) (b : SF) : Nat → SF
  | 0 => fun _ _ => .bad
  | n + 1 => fun ρ s => eS (c ρ s) ρ fun k s1 => if k = true then (match b ρ s1 with
    | .nx ρ' s' => whileN c b n ρ' s'
    | .ct ρ' s' => whileN c b n ρ' s'
    | .brk ρ' s' => .nx ρ' s'
    | r => r) else .nx ρ s1
def sWhile (n : Nat) (c : TF) (b : SF) : SF := whileN c b n
def forGo (gf : GF) (b : SF) : List D → SF
  | [] => fun ρ s => .nx ρ s
  | d :: ds => fun ρ s => match gf d ρ with
    | none => .bad
    | some ρ1 => match b ρ1 s with
      | .nx ρ' s' => forGo gf b ds ρ' s'
      | .ct ρ' s' => forGo gf b ds ρ' s'
      | .brk ρ' s' => .nx ρ' s'
      | r => r
def sFor (fi : AF) (gf : GF) (b : SF) : SF := fun ρ s => eS (fi ρ s) ρ fun ds s1 => forGo gf b ds ρ s1
theorem Fs.unbase {K : PySem.W.Frag} {g : Gm} {G0 H0 G1 H1 G H : Hp} {σ : L2.St} {ρ : List Sv} {s : PenS} (st : Stp g G0 H0 G1 H1) (q : Fs K g G1 H0 G H σ ρ s) : Fs K g G0 H0 G H σ ρ s :=
  ⟨q.fq, ⟨st.gg.trans q.st.gg, q.st.gh, q.st.hh, fun a e n => q.st.nw a (st.nw a e n) n, q.st.al⟩, q.fr, q.ph⟩
theorem Fs.rebase {K : PySem.W.Frag} {g : Gm} {G0 H0 G H : Hp} {σ : L2.St} {ρ : List Sv} {s : PenS} (q : Fs K g G0 H0 G H σ ρ s) : Fs K g G H0 G H σ ρ s :=
  ⟨q.fq, ⟨Same.refl _, q.st.gh, q.st.hh, fun a e _ => e, q.st.al⟩, q.fr, q.ph⟩
theorem OutS.rebase {K : PySem.W.Frag} {g : Gm} {W : WX} {G0 H0 G1 H1 : Hp} {Dn : Ends} {r : ResS} (st : Stp g G0 H0 G1 H1) (o : OutS K g W G0 H0 Dn r) : OutS K g W G1 H0 Dn r := by
  cases r with
  | nx ρ s => exact fun σ G H q => o σ G H (q.unbase st)
  | ret d s => exact fun v G H q pn r => o v G H ⟨st.gg.trans q.gg, q.gh, q.hh, fun a e n => q.nw a (st.nw a e n) n, q.al⟩ pn r
  | brk ρ s => exact fun σ G H q => o σ G H (q.unbase st)
  | ct ρ s => exact fun σ G H q => o σ G H (q.unbase st)
  | exc c ds ρ s => exact fun od σ G H q x => o od σ G H (q.unbase st) x
  | bad => exact o
section
variable {X : Cx} {g : Gm} {W : WX} {tc : TT} {tb : TS} {fc : TF} {fb : SF} {pos : Pos}
theorem ds_while (n : Nat) {c : Expr} {body : List Stmt} (hp : PassesOwn (model X.prog X.w) X.A X.env X.xe) (C : DT X g W c tc fc) (B : DSs X g W body tb fb) : DS X g W (.While c body [] pos) (tWhile tc tb) (sWhile n fc fb) := by
  refine ⟨ps_while hp C.pt B.ps, fun G0 H0 G H σ ρ s Dn q o => ?_⟩
  refine ⟨fun m σ H => ∃ G ρ s, Fs X.K g G0 H0 G H σ ρ s ∧ OutS X.K g W G0 H0 Dn (whileN fc fb m ρ s), ⟨n, G, ρ, s, q, o⟩, ?_⟩
  rintro m σ H ⟨G, ρ, s, q, o⟩
  cases m with
  | zero => exact o.elim
  | succ m =>
    refine C.den G H σ ρ s _ q.fq (OutS.bindE o q fun k s1 v G1 H1 _ q1 r o1 => ?_)
    subst r
    cases v with
    | false => exact o1 σ G1 H1 q1
    | true =>
      refine ⟨fun σ H => ∃ G ρ s, Fs X.K g G0 H0 G H σ ρ s ∧ OutS X.K g W G0 H0 Dn (whileN fc fb m ρ s), fun σ' H' z => ⟨m, Nat.lt_succ_self _, z⟩, B.den G0 H0 G1 H1 σ ρ s1 _ q1 ?_⟩
      rw [if_pos rfl] at o1
      cases e : fb ρ s1 with
      | nx ρ2 s2 => rw [e] at o1; exact fun σ' G' H' q' => ⟨G', ρ2, s2, q', o1⟩
      | ct ρ2 s2 => rw [e] at o1; exact fun σ' G' H' q' => ⟨G', ρ2, s2, q', o1⟩
      | brk ρ2 s2 => rw [e] at o1; exact o1
      | ret d s2 => rw [e] at o1; exact o1
      | exc c ds ρ2 s2 => rw [e] at o1; exact o1
      | bad => rw [e] at o1; exact o1
theorem ds_for {tg iter : Expr} {body : List Stmt} {wi : TI} {gt : TG} {js : List Nat} {fi : AF} {gf : GF} (hp : PassesOwn (model X.prog X.w) X.A X.env X.xe) (hc : X.calm = true) (I : DI X g W tg iter wi fi) (T : DG X g tg gt js gf) (B : DSs X g W body tb fb)
    (hs : ∀ x, foldedSetIterable iter X.env x = pure x := by intro _; rfl) : DS X g W (.For tg iter body [] pos) (tFor wi gt tb) (sFor fi gf fb) := by
  refine ⟨ps_for hp hc I.pi T.pg B.ps hs, fun G0 H0 G H σ ρ s Dn q o => I.den G H σ ρ s _ q.fq (OutS.bindE o q fun ds s1 J G1 H1 _ q1 r o1 => ?_)⟩
  have o1' := OutS.rebase q1.st o1
  refine ⟨fun i m σ H => m = ds.length - i ∧ i ≤ ds.length ∧ ∃ G ρ s, Fs X.K g G1 H0 G H σ ρ s ∧ OutS X.K g W G1 H0 Dn (forGo gf fb (ds.drop i) ρ s), ⟨_, rfl, Nat.zero_le _, G1, ρ, s1, q1.rebase, o1'⟩, ?_⟩
  rintro i m σ2 H2 ⟨rfl, hi, G2, ρ2, s2, q2, o2⟩
  obtain ⟨r1, r2⟩ := r G2 H2 q2.st.gg q2.fq.gh
  by_cases hlt : i < ds.length
  · refine .inr ⟨(r1 i _ (List.getElem?_eq_getElem hlt)).1, _, fun σ' H' z => ⟨ds.length - (i + 1), by omega, z⟩, fun x H3 y => ?_⟩
    obtain ⟨G3, st3, rx⟩ := (r1 i _ (List.getElem?_eq_getElem hlt)).2 x H3 y
    have q3 := q2.step st3.stp (st3.pen q2.fq.pen)
    rw [List.drop_eq_getElem_cons hlt] at o2
    simp only [forGo] at o2
    cases eg : gf ds[i] ρ2 with
    | none =>
      rw [eg] at o2
      exact o2.elim
    | some ρ3 =>
      rw [eg] at o2
      simp only [] at o2
      refine T.den q3.fq rx eg fun σ' f' _ ko => B.den G1 H0 G3 H3 σ' ρ3 s2 _ ⟨f', q3.st, fun i x a hx n1 n2 e => ?_, q3.ph⟩ ?_
      · obtain ⟨k1, k2⟩ := ko i x hx n1
        rw [k2] at e
        exact q3.fr i x a k1 n1 n2 e
      · cases e : fb ρ3 s2 with
        | nx ρ4 s4 => rw [e] at o2; exact fun σ4 G4 H4 q4 => ⟨rfl, hlt, G4, ρ4, s4, q4, o2⟩
        | ct ρ4 s4 => rw [e] at o2; exact fun σ4 G4 H4 q4 => ⟨rfl, hlt, G4, ρ4, s4, q4, o2⟩
        | brk ρ4 s4 => rw [e] at o2; exact o2
        | ret d s4 => rw [e] at o2; exact o2
        | exc c ds ρ4 s4 => rw [e] at o2; exact o2
        | bad => rw [e] at o2; exact o2
  · have e : i = ds.length := by omega
    subst e
    rw [List.drop_length] at o2
    exact .inl ⟨r2, o2 σ2 G2 H2 q2⟩
end
/-! ### defs -/
abbrev FF := List D → PenS → ResE D
/-- what a def promises: what its mirror tells -/
def spD (K : PySem.W.Frag) (g : Gm) (n : Nat) (fn : FF) : Sp := fun vs H Q E => vs.length = n ∧ ∃ G ds s, Same G H ∧ PenOk g G H s ∧ Reps K g G vs ds ∧ OutG K g (fun c d _ H => E c d H) G H [] (RD K g) Q (fn ds s)
/-- a body run at the parameters' values -/
def runB (n : Nat) (f : SF) : FF := fun ds s => match f (ds.map Sv.val ++ List.replicate (n - ds.length) Sv.no) s with
  | .ret d s => .ok d s
  | .nx _ s => .ok .non s
  | .exc c ds _ s => .exc c ds s
  | _ => .bad
theorem startFq {K : PySem.W.Frag} {g : Gm} {G H : Hp} {N : List Str} {vs : List V} {ds : List D} {s : PenS} (e : Same G H) (pn : PenOk g G H s) (r : Reps K g G vs ds) : Fs K g G H G H (L2.start N vs) (ds.map Sv.val ++ List.replicate (N.length - ds.length) Sv.no) s := by
  have no : ∀ {i : Nat} {x : Sv}, (ds.map Sv.val ++ List.replicate (N.length - ds.length) Sv.no)[i]? = some x → (∀ d, x ≠ .val d) → x = .no := fun {i x} h n => by
    have hm := List.mem_of_getElem? h
    rcases List.mem_append.mp hm with z | z
    · obtain ⟨d, _, e⟩ := List.mem_map.mp z
      exact absurd e.symm (n d)
    · exact (List.mem_replicate.mp z).2
  refine ⟨⟨e, pn, ?_, fun i d h => ?_, fun i es h => ?_, fun i j a es gs h => ?_, fun i c fs h => ?_, fun i j a c d es gs h => ?_⟩, Stp.refl e, fun i x a h n1 n2 => ?_, fun x h => pn.there h⟩
  · unfold L2.start
    simp [r.1]
  · by_cases hi : i < ds.length
    · rw [List.getElem?_append_left (by simpa using hi), List.getElem?_map] at h
      rw [List.getElem?_eq_getElem hi] at h
      cases h
      obtain ⟨v, h1, h2⟩ := r.get (List.getElem?_eq_getElem hi)
      refine ⟨v, ?_, h2⟩
      unfold L2.start
      rw [List.getElem?_append_left (by rw [List.length_map, r.1]; exact hi), List.getElem?_map, h1]
      rfl
    · rw [List.getElem?_append_right (by simpa using hi)] at h
      rw [List.getElem?_replicate] at h
      split at h <;> cases h
  · cases no h (fun d z => by cases z)
  · cases no h (fun d z => by cases z)
  · cases no h (fun d z => by cases z)
  · cases no h (fun d z => by cases z)
  · exact absurd (no h n1) n2
section
variable {P : Program} {w : World} {K : PySem.W.Frag} {mg : Str → Option Value} {base : Heap} {g : Gm}
/-- THE RULE for a def: its body by the functional words -/
theorem fn_ok {x qual : Str} {st : Stmt} {f : Addr} {fd : FuncData} {N ps : List Str} {k n : Nat} {fb : SF} (F : Fun K x qual st f fd) (S : FnScope N ps (defScope st)) (hn : ps.length = n)
    (hbody : ∀ (cdv : Value) (A : Around) (outer : List Env) (s : Shared) (H : Hp) (E : XK), Room k (A.deeper (envOfC qual (defScope st) s.heap.objs.size f cdv)) → ∃ t, DSs (cxOf (L2.CX P w) P w K mg base N qual (defScope st) f cdv A outer s H E) g (fun c d _ H => E c d H) (defBody st) t fb) :
    FnOk P w K mg base (L2.CX P w) (k + 1) f fd ps (spD K g n (runB N.length fb)) := by
  refine F.okX S (fun vs H Q E h => h.1.trans hn.symm) (fun cdv A outer s H vs Q E hr h => ?_)
  obtain ⟨t, B⟩ := hbody cdv A outer s H E hr
  obtain ⟨hl, G, ds, s1, e, pn, r, o⟩ := h
  refine ⟨t, B.ps, B.den G H G H _ _ s1 _ (startFq e pn r) ?_⟩
  unfold runB at o
  cases q : fb (ds.map Sv.val ++ List.replicate (N.length - ds.length) Sv.no) s1 with
  | nx ρ s2 =>
    rw [q] at o
    exact fun σ G1 H1 q1 => o .non G1 H1 q1.st q1.fq.pen .non
  | ret d s2 =>
    rw [q] at o
    exact fun v G1 H1 st pn r => o v G1 H1 st pn r
  | exc c es ρ s2 =>
    rw [q] at o
    exact fun od σ G1 H1 q1 x => o od G1 H1 q1.st q1.fq.pen x
  | brk ρ s2 => rw [q] at o; exact o.elim
  | ct ρ s2 => rw [q] at o; exact o.elim
  | bad => rw [q] at o; exact o.elim
end
def eCall (n : Nat) (fn : FF) (fa : AF) : EF := fun ρ s => (fa ρ s).bind fun ds s1 => if ds.length = n then fn ds s1 else .bad
def eCallD (n : Nat) (fn : FF) (dv : List D) (fa : AF) : EF := fun ρ s => (fa ρ s).bind fun ds s1 => if (ds ++ dv).length = n then fn (ds ++ dv) s1 else .bad
theorem OutG.self {K : PySem.W.Frag} {g : Gm} {W : WX} {G H : Hp} {σ : L2.St} {α β : Type} {R : Hp → Hp → β → α → Prop} {Q : β → Hp → Prop} {r : ResE α} (h : OutG K g W G H σ R Q r) : OutG K g (fun c d _ H => W c d σ H) G H [] R Q r := by
  cases r with
  | ok a s => exact h
  | exc c ds s => exact h
  | bad => exact h
section
variable {X : Cx} {g : Gm} {W : WX} {k n : Nat} {f : Addr} {fd : FuncData} {ps : List Str} {fn : FF} {x : Str} {p pos : Pos} {e : Expr} {es : List Expr} {t : TA} {fa : AF}
theorem dp_call (F : FnOk X.prog X.w X.K X.mg X.base (L2.CX X.prog X.w) k f fd ps (spD X.K g n fn)) (hr : Room k X.A) (hm : X.mg x = some (.ref f)) (hk : PySem.W.keepIn X.K (.ref f) = true) (hb : Binds X.K fd ps []) (tk : Takes X W) (A : DA X g W (e :: es) t fa)
    (hg : Gl X x := by rfl) (hdb : (x == ("__debug__" : Str)) = false := by decide) (he : starEach (e :: es) X.env = (false, eval e X.env) :: starEach es X.env := by rfl) (hpl : (backTo pos (starEach es X.env)).any (·.1) = false := by rfl) :
    DP X g W (.Call (.Name x p) (e :: es) [] pos) (tCallS (spD X.K g n fn) (WE W) t) (eCall n fn fa) := by
  refine ⟨pe_callS F hr hg hm hk hb (fun σ => passAt tk σ) A.pa hdb he hpl, fun G H σ ρ s Q f h => A.den G H σ ρ s _ f (OutG.bind h fun ds s1 vs G1 H1 st1 pn1 r1 h1 => ?_)⟩
  split at h1
  · rename_i z
    exact ⟨by rw [r1.1]; exact z, G1, ds, s1, st1.gh, pn1, r1, h1.self⟩
  · exact h1.elim
theorem dp_callD {dvs : List V} {us : List Value} {dv : List D} (F : FnOk X.prog X.w X.K X.mg X.base (L2.CX X.prog X.w) k f fd ps (spD X.K g n fn)) (hr : Room k X.A) (hm : X.mg x = some (.ref f)) (hk : PySem.W.keepIn X.K (.ref f) = true) (hb : Binds X.K fd ps us) (hd : Vals dvs us)
    (rd : ∀ G, Reps X.K g G dvs dv) (tk : Takes X W) (A : DA X g W (e :: es) t fa)
    (hg : Gl X x := by rfl) (hdb : (x == ("__debug__" : Str)) = false := by decide) (he : starEach (e :: es) X.env = (false, eval e X.env) :: starEach es X.env := by rfl) (hpl : (backTo pos (starEach es X.env)).any (·.1) = false := by rfl) :
    DP X g W (.Call (.Name x p) (e :: es) [] pos) (tCallSD (spD X.K g n fn) dvs (WE W) t) (eCallD n fn dv fa) := by
  refine ⟨pe_callSD F hr hg hm hk hb hd (fun σ => passAt tk σ) A.pa hdb he hpl, fun G H σ ρ s Q f h => A.den G H σ ρ s _ f (OutG.bind h fun ds s1 vs G1 H1 st1 pn1 r1 h1 => ?_)⟩
  split at h1
  · rename_i z
    refine ⟨?_, G1, ds ++ dv, s1, st1.gh, pn1, r1.append (rd G1), h1.self⟩
    rw [List.length_append, r1.1, (rd G1).1, ← List.length_append]
    exact z
  · exact h1.elim
end
end Zp
set_option Elab.async false
set_option maxRecDepth 100000
set_option linter.all false
/-! Den8: lists and tuples alike: walked, enumerated, turned about. -/
namespace Zp
open PySem PySem.Spec PyProof.Rows L2
/-! ### enumerate(tuple) -/
def IteT (K : PySem.W.Frag) (a : Addr) : It :=
  ⟨fun i H => ∃ (xs : List V) (x : V), SqT K H a xs ∧ xs[i]? = some x, fun i H v H' => ∃ T x, v = .ref T ∧ H T = none ∧ H' = upd H T (.tup [.int (i : Nat), x]) ∧ ∀ xs, SqT K H a xs → xs[i]? = some x, fun i H => ∃ xs : List V, SqT K H a xs ∧ xs.length = i⟩
theorem turn_enumT {P : Program} {w : World} {K : PySem.W.Frag} {elts : List Expr} {kk : Nat} {tpos : Pos} (a e it : Addr) :
    Turn P w K (.Tuple elts kk tpos) (IteT K a) [e, it] e (fun i h => (∃ old, IsEnum h e it ((i : Nat) : Int) old) ∧ h.IsTupleIter it a i ∧ e ≠ it) where
  mem := by simp
  obj := fun i h st b hb => by
    obtain ⟨⟨old, he⟩, ⟨o, ho, hc, hd⟩, _⟩ := st
    have e' : b = e ∨ b = it := by simpa using hb
    rcases e' with z | z
    · rw [z]; exact ⟨_, he, fun v q => nomatch q⟩
    · rw [z]; exact ⟨o, ho, fun v q => by rw [hd] at q; cases q⟩
  keep := fun i h h' st k => let ⟨⟨old, he⟩, hi, hne⟩ := st; ⟨⟨old, k e (by simp) _ he⟩, hi.at fun o q => k it (by simp) o q, hne⟩
  item := by
    intro X hP hw hK hc i pins s σ H E I hf st hg
    subst hP hw hK
    obtain ⟨⟨old, he⟩, hit, hne⟩ := st
    obtain ⟨xs, x, hq, hx⟩ := hg
    obtain ⟨its, rv, p, hz⟩ := I.tuple hq
    obtain ⟨u, hu, ru⟩ := rv.get hx
    have hel : e < s.heap.objs.size := Heap.lt_size he
    have hil : it < s.heap.objs.size := by obtain ⟨_, q, _⟩ := hit; exact Heap.lt_size q
    have hta : s.heap.IsTuple a its.toArray := p
    have hai : a ≠ it := fun z => by
      obtain ⟨o1, h1, c1, _⟩ := hta
      obtain ⟨o2, h2, c2, _⟩ := hit
      rw [z, h2] at h1
      cases h1
      rw [c2] at c1
      exact absurd c1 (by decide)
    have hae : a ≠ e := fun z => by
      obtain ⟨o1, h1, c1, _⟩ := hta
      rw [z, show s.heap.get? e = some _ from he] at h1
      cases h1
      exact absurd (show Value.type "enumerate" = Value.type "tuple" from c1) (by decide)
    have hlt : i < its.toArray.size := by
      rw [List.size_toArray, ← rv.length]
      exact (List.getElem?_eq_some_iff.mp hx).1
    refine wpAny_pyNext_enum_itemC (Draws.tuple (prog := X.prog) (w := X.w) (A := X.A.in1) (I.ok.hd hc) it a hai its.toArray) he ⟨hit, hta⟩ hlt hne (by simp [hne, Ne.symm hae]) fun y h' tk hy ho st' hT hsz hk => ?_
    have hyu : y = u := by
      rw [List.getElem?_toArray, hu] at hy
      exact (Option.some.inj hy).symm
    subst hyu
    refine ⟨_, rfl, wpAny_letOwnedTupleGo_enum (s := { s with heap := h', toks := tk + 1 }) ho fun h'' he' sb => ?_⟩
    have hT2 : h''.get? s.heap.objs.size = some { cls := .type "tuple", data := .seq #[.int i tk, y] } := (sb.2 _ (Nat.ne_of_gt hel)).trans hT
    have new : ObjOk X.prog X.w (upd H s.heap.objs.size (.tup [.int (i : Nat), x])) h'' s.heap.objs.size (.tup [.int (i : Nat), x]) :=
      ⟨by show 2 ≤ sizeLine; decide, [.int i tk, y], .cons ⟨_, rfl⟩ (.cons ru .nil), ⟨_, hT2, rfl, _, rfl⟩⟩
    have I1 : Inv X pins σ (upd H s.heap.objs.size (.tup [.int (i : Nat), x])) { s with heap := h'', toks := tk + 1 } :=
      I.turnedNew (ch := [e, it]) (fun b ob hb q => (sb.2 b (fun z => hb (by simp [z]))).trans (hk b ob (fun z => hb (by simp [z])) (fun z => hb (by simp [z])) q)) hf (Nat.le_refl _) new
    refine ⟨.ref s.heap.objs.size, _, I1, rfl, ⟨_, x, rfl, I.hok.fresh (Nat.le_refl _), rfl, fun ys hy => by rw [I.tuple_inj hy hq]; exact hx⟩, ⟨⟨y, ?_⟩, st'.1.at fun o q => (sb.2 it (Ne.symm hne)).trans q, hne⟩, fun b hb => ?_⟩
    · have e1 : ((i + 1 : Nat) : Int) = (i : Int) + 1 := by omega
      rw [e1]; exact he'
    · have hb' : b < s.heap.objs.size := by
        have e' : b = e ∨ b = it := by simpa using hb
        rcases e' with z | z
        · rw [z]; exact hel
        · rw [z]; exact hil
      rw [upd_ne (Nat.ne_of_lt hb')]
      exact (hf b hb).1
  done := by
    intro X hP hw hK hc i pins s σ H E I hf st hg
    subst hP hw hK
    obtain ⟨⟨old, he⟩, hit, hne⟩ := st
    obtain ⟨xs, hq, hx⟩ := hg
    obtain ⟨its, rv, p, hz⟩ := I.tuple hq
    obtain ⟨f0, f1, f2, f3, f4, f5⟩ := hf it (by simp)
    have hta : s.heap.IsTuple a its.toArray := p
    have hai : a ≠ it := fun z => by
      obtain ⟨o1, h1, c1, _⟩ := hta
      obtain ⟨o2, h2, c2, _⟩ := hit
      rw [z, h2] at h1
      cases h1
      rw [c2] at c1
      exact absurd c1 (by decide)
    have hl := rv.length
    have hdn : its.toArray.size = i := by rw [List.size_toArray]; omega
    have D := Draws.tuple (prog := X.prog) (w := X.w) (A := X.A.in1) (I.ok.hd hc) it a hai its.toArray
    rw [← hdn] at hit
    exact wpAny_pyNext_enum_endD D he ⟨hit, hta⟩ fun h' eb => ⟨rfl, I.turned (t' := s.toks) (fun b o hb q => eb b o hb q) f0 f1 f3 f4 f5⟩
  self := fun A i s Q E st h => let ⟨⟨_, he⟩, _⟩ := st; wpAny_pyIter_enum he h
set_option maxHeartbeats 1000000 in
theorem meets_enum1B {v : Value} {o : Obj} {H : Heap → Prop} (B : Begins v o H) :
    Meets (Builtin.«enumerate.__new__» ⟨[.type "enumerate", v], []⟩) (fun _ R s => H s.heap ∧
      R (.ok (.ret (.ref (s.heap.push o).objs.size))) { s with heap := (s.heap.push o).push { cls := .type "enumerate", data := .fields #[.none, .bool false, .ref s.heap.objs.size, rawInt 0, .none, .none] } }) :=
  .of_wp fun prog w A R s h => by
    obtain ⟨hp, g, d, tk, os⟩ := s; obtain ⟨h1, h⟩ := h
    have hsub := sub_enumerate
    have q1 : ∀ {A' : Around} {E : Value → Shared → Prop} {Q : Value → Shared → Prop}, Q (.ref hp.objs.size) ⟨hp.push o, g, d, tk, os⟩ → wpAny (model prog w) A' (pyIter v) Q E ⟨hp, g, d, tk, os⟩ :=
      fun q => B.iter prog w _ _ ⟨hp, g, d, tk, os⟩ _ h1 q
    wp_walk using q1
    refine wpAny_stack_any fun st => wpAny_pure ?_
    split
    · rename_i c _ _ _ _ _
      cases (c == Value.type "enumerate")
      · wp_walk using q1
        exact ⟨_, rfl, h⟩
      · wp_walk using q1
        exact ⟨_, rfl, h⟩
    · wp_walk using q1
      exact ⟨_, rfl, h⟩
theorem call_enum_tuple {prog : Program} {w : World} {A : Around} {E : Value → Shared → Prop} {s : Shared} {t : Addr} {items : Array Value} {Q : Value → Shared → Prop} (ht : s.heap.IsTuple t items)
    (h : ∀ h', IsEnum h' (s.heap.objs.size + 1) s.heap.objs.size 0 .none → h'.IsTupleIter s.heap.objs.size t 0 → h'.objs.size = s.heap.objs.size + 2 →
      (∀ b o, s.heap.get? b = some o → h'.get? b = some o) → Q (.ref (s.heap.objs.size + 1)) { s with heap := h' }) :
    wpAny (model prog w) A (call (.type "enumerate") [.ref t]) Q E s := by
  refine callType_new F.called_enumerate (by decide) (F.typeCall_enumerate_1 _) (F.newCall_enumerate_1 _) (fun obj => F.args_object_init_2 obj _) F.entry_enumerate_new
    (meets_enum1B (begins_tuple t items)) ⟨ht, ?_⟩
  have hz : (s.heap.push { cls := .type "tuple_iterator", data := .fields #[.ref t, .int 0 0] }).objs.size = s.heap.objs.size + 1 := Heap.size_push ..
  show _ ∧ _
  rw [hz]
  have he : IsEnum ((s.heap.push { cls := .type "tuple_iterator", data := .fields #[.ref t, .int 0 0] }).push
      { cls := .type "enumerate", data := .fields #[.none, .bool false, .ref s.heap.objs.size, rawInt 0, .none, .none] }) (s.heap.objs.size + 1) s.heap.objs.size 0 .none := by
    have := Heap.get?_push_size (s.heap.push { cls := .type "tuple_iterator", data := .fields #[.ref t, .int 0 0] })
      (o := { cls := .type "enumerate", data := .fields #[.none, .bool false, .ref s.heap.objs.size, rawInt 0, .none, .none] }) rfl
    rw [hz] at this; exact this
  refine ⟨⟨_, he, rfl⟩, h _ he ⟨_, Heap.get?_push_of_some _ (Heap.get?_push_size _ rfl), rfl, rfl⟩ (by rw [Heap.size_push, hz]) fun b o y => Heap.get?_push_of_some _ (Heap.get?_push_of_some _ y)⟩
/-- enumerate of a list or a tuple -/
def iEnumB (K : PySem.W.Frag) (ta : TA) : TI := fun σ H R => ta σ H fun vs H1 => ∃ a xs, vs = [.ref a] ∧ ((SqL K H1 a xs ∧ R (Ite K a) H1) ∨ (SqT K H1 a xs ∧ R (IteT K a) H1))
theorem pi_enumB {X : Cx} {e : Expr} {ta : TA} {p pos tpos : Pos} {elts : List Expr} {kk : Nat} (hg : Gl X "enumerate") (hm : X.mg "enumerate" = none) (ha : PA X [e] ta) (hs : starEach [e] X.env = [(false, eval e X.env)] := by rfl) :
    PI X (.Tuple elts kk tpos) (.Call (.Name "enumerate" p) [e] [] pos) (iEnumB X.K ta) := by
  refine ⟨fun pins s σ H R I h => ?_⟩
  refine Call_ (ld_blt I hg hm boot_enumerate (PyProof.Rows.callWith_type1 (thn (ha.run pos pins s σ H _ I h) fun us s1 ⟨vs, H1, I1, r1, q1⟩ => ?_) hs rfl))
  obtain ⟨a, xs, ex, q1⟩ := q1
  subst ex
  cases r1 with
  | cons r rr =>
    cases rr
    cases r
    have fin : ∀ b ∈ [s1.heap.objs.size + 1, s1.heap.objs.size], FpOk X pins H1 b := fun b hb => by
      have e' : b = s1.heap.objs.size + 1 ∨ b = s1.heap.objs.size := by simpa using hb
      have hle : s1.heap.objs.size ≤ b := by
        rcases e' with z | z
        · rw [z]; exact Nat.le_add_right _ _
        · rw [z]; exact Nat.le_refl _
      exact I1.fpOk hle (I1.hok.fresh hle)
    rcases q1 with ⟨hq, q⟩ | ⟨hq, q⟩
    · obtain ⟨its, rv, p', hz⟩ := I1.list hq
      refine call_enumerate_list p'.isList fun h' he hit hsz hk => wpAny_pyIter_enum he ?_
      exact ⟨s1.heap.objs.size + 1, [s1.heap.objs.size + 1, s1.heap.objs.size], _, _, H1, rfl, I1.kept (t' := s1.toks) hk, turn_enum a (s1.heap.objs.size + 1) s1.heap.objs.size, ⟨⟨.none, he⟩, hit, Nat.succ_ne_self _⟩, fin, q⟩
    · obtain ⟨its, rv, p', hz⟩ := I1.tuple hq
      refine call_enum_tuple (show s1.heap.IsTuple a its.toArray from p') fun h' he hit hsz hk => wpAny_pyIter_enum he ?_
      exact ⟨s1.heap.objs.size + 1, [s1.heap.objs.size + 1, s1.heap.objs.size], _, _, H1, rfl, I1.kept (t' := s1.toks) hk, turn_enumT a (s1.heap.objs.size + 1) s1.heap.objs.size, ⟨⟨.none, he⟩, hit, Nat.succ_ne_self _⟩, fin, q⟩
theorem PI.or {X : Cx} {tg e : Expr} {w1 w2 : TI} (a : PI X tg e w1) (b : PI X tg e w2) : PI X tg e fun σ H R => w1 σ H R ∨ w2 σ H R :=
  ⟨fun pins s σ H R I h => h.elim (a.run pins s σ H R I) (b.run pins s σ H R I)⟩
/-! ### t[::-1], l[::-1] -/
theorem places_rev (n : Nat) : Builtin.Slice.slicePlaces ((n : Int) - 1) (-1) (-1) = n := by
  unfold Builtin.Slice.slicePlaces
  rw [if_neg (show ¬ ((-1 : Int) > 0) by decide)]
  have e : (- -1 : Int) = 1 := by decide
  rw [e, Int.ediv_one]
  split <;> omega
theorem sliceApplied_rev {prog : Program} {w : World} {A : Around} {E : Value → Shared → Prop} {s : Shared} {sl : Addr} {vs : Value} {n : Nat} {Q : Int × Int × Nat → Shared → Prop} (hs : s.heap.IsSliceOf sl .none .none vs) (ps : IsPart vs (some (-1)))
    (h : Q ((n : Int) - 1, -1, n) s) : wpAny (model prog w) A (Builtin.Slice.sliceApplied (.ref sl) (pure (n : Int))) Q E s := by
  obtain ⟨os, hos, hcs, hds⟩ := id hs
  unfold Builtin.Slice.sliceApplied Builtin.Slice.sliceFields
  refine wpAny_bind (wpAny_bind (wpAny_field hos hds (x := .none) rfl (wpAny_bind (wpAny_field hos hds (x := .none) rfl (wpAny_bind (wpAny_field hos hds (x := vs) rfl (wpAny_pure ?_)))))))
  refine wpAny_bind (HT.slicePart_ ps ?_)
  show wpAny _ _ (if ((-1 : Int) == 0) = true then _ else _) _ _ s
  rw [if_neg (by decide)]
  refine wpAny_bind (HT.slicePart_ .none (wpAny_bind (HT.slicePart_ .none (wpAny_bind (wpAny_pure ?_)))))
  show wpAny _ _ (match Builtin.Slice.sliceAdjust none none (-1) (n : Int) with | (lo, hi) => pure (lo, (-1 : Int), Builtin.Slice.slicePlaces lo hi (-1))) _ _ s
  have e : Builtin.Slice.sliceAdjust none none (-1) (n : Int) = ((n : Int) - 1, -1) := by rfl
  rw [e]
  show wpAny _ _ (pure ((n : Int) - 1, (-1 : Int), Builtin.Slice.slicePlaces ((n : Int) - 1) (-1) (-1))) _ _ s
  rw [places_rev]
  exact wpAny_pure h
theorem pick_rev (xs : Array Value) : ((List.range xs.size).filterMap fun (m : Nat) => xs[((xs.size : Int) - 1 + (m : Int) * -1).toNat]?).toArray = xs.toList.reverse.toArray := by
  have e : (fun (m : Nat) => xs[((xs.size : Int) - 1 + (m : Int) * -1).toNat]?) = fun k => xs[xs.size - 1 - k]? := by
    funext m
    have : ((xs.size : Int) - 1 + (m : Int) * -1).toNat = xs.size - 1 - m := by omega
    rw [this]
  rw [e]
  have k := PySem.W.krv_range xs.size
  have e2 : (List.range xs.size).filterMap (fun k => xs[xs.size - 1 - k]?) = ((List.range xs.size).map (fun k => xs.size - 1 - k)).filterMap (xs[·]?) := by
    rw [List.filterMap_map]
    rfl
  rw [e2, k, List.filterMap_reverse, PySem.W.krv_all]
theorem getItem_tuple_rev {prog : Program} {w : World} {A : Around} {E : Value → Shared → Prop} {s : Shared} {t sl : Addr} {items : Array Value} {vs : Value} {Q : Value → Shared → Prop} (ht : IsTup s.heap t items) (hs : s.heap.IsSliceOf sl .none .none vs) (ps : IsPart vs (some (-1)))
    (h : Q (.ref s.heap.objs.size) { s with heap := s.heap.push { cls := .type "tuple", data := .seq items.toList.reverse.toArray } })
    (hsz : items.size ≤ sizeLine) : wpAny (model prog w) A (getItem (.ref t) (.ref sl)) Q E s := by
  have htake : sizeOk (.seq items.toList.reverse.toArray) := by
    show items.toList.reverse.toArray.size ≤ sizeLine
    rw [List.size_toArray, List.length_reverse, Array.length_toList]
    exact hsz
  obtain ⟨os, hos, hcs, hds⟩ := id hs
  have hTs : s.TypeIs (.ref sl) "slice" := ⟨os, hos, hcs⟩
  unfold getItem
  try with_reducible refine wpAny_holding ?_
  first | refine wpAny_bind (wpAny_pure ?_) | skip
  refine wpAny_bind (wpAny_sequenceKey ht.typeIs (by decide) ?_)
  refine wpAny_bind (wpAny_callSpecial?_slot (name := Str.ofString "__getitem__") ht.typeIs PyProof.Rows.slot_tuple_getitem
    (wpAny_call_entry PyProof.Rows.slot_tuple_getitem ht.typeIs entry_tuple_getitem ?_ (args_tuple_getitem _ _)))
  show wpAny _ _ (Builtin.Tuple.tupleItemsOf (.ref t) >>= _) _ _ s
  refine wpAny_bind (tupleItemsOf_ ht ?_)
  refine wpAny_bind (wpAny_typeOf hTs ?_)
  rw [if_pos (by decide)]
  refine wpAny_bind (sliceApplied_rev hs ps ?_)
  have hno : ¬ ((((items.size : Int) - 1) == 0 && (-1 : Int) == 1 && items.size == items.size) = true) := by
    intro q
    rw [Bool.and_eq_true, Bool.and_eq_true] at q
    exact absurd q.1.2 (by decide)
  show wpAny _ _ (if (((items.size : Int) - 1) == 0 && (-1 : Int) == 1 && items.size == items.size) = true then _ else _) _ _ s
  rw [if_neg hno, pick_rev]
  first
    | exact wpAny_bind (m := Builtin.Tuple.tupleExact _) (wpAny_newObj_type (wpAny_pure ⟨_, rfl, wpAny_pure h⟩) htake)
    | exact wpAny_bind (m := Builtin.Tuple.tupleExact _) (wpAny_newObj_type (wpAny_bind (wpAny_pure (wpAny_pure ⟨_, rfl, wpAny_pure h⟩))) htake)
    | exact wpAny_bind (wpAny_bind (m := Builtin.Tuple.tupleExact _) (wpAny_newObj_type (wpAny_pure (wpAny_pure ⟨_, rfl, wpAny_pure h⟩)) htake))
    | exact wpAny_bind (wpAny_bind (m := Builtin.Tuple.tupleExact _) (wpAny_newObj_type (wpAny_pure ⟨_, rfl, wpAny_pure h⟩) htake))
def tRevB (K : PySem.W.Frag) (te : TE) : TE := fun σ H Q => te σ H fun x H1 => ∃ a xs, x = .ref a ∧ ((SqL K H1 a xs ∧ ∀ p, H1 p = none → Q (.ref p) (upd H1 p (.lst xs.reverse))) ∨ (SqT K H1 a xs ∧ ∀ p, H1 p = none → Q (.ref p) (upd H1 p (.tup xs.reverse))))
theorem pe_revB {X : Cx} {e : Expr} {te : TE} {k : Nat} {p1 p2 p3 pos : Pos} (he : PE X e te) : PE X (.Subscript e (.Slice none none (some (.UnaryOp .USub (.Constant (.int 1) k p1) p2)) p3) pos) (tRevB X.K te) := by
  refine ⟨fun pins s σ H Q I h => ?_⟩
  refine Subscript_ (thn (he.run pins s σ H _ I h) fun v s1 ⟨x, H1, I1, r1, q1⟩ => ?_)
  obtain ⟨a, xs, ex, q1⟩ := q1
  subst ex
  cases r1
  have hst : PO X (some (.UnaryOp .USub (.Constant (.int 1) k p1) p2)) (tPart (tUn (rU fun i => .int (-i)) (tC (.int 1)))) := po_some (pe_un un_neg pe_int)
  refine wpAny_Slice (thn (po_none.run pins s1 σ H1 (fun o H2 => o = none ∧ H2 = H1) I1 ⟨rfl, rfl⟩) fun vl s2 ⟨l, H2, I2, pl, el, e2⟩ => ?_)
  subst el e2
  refine thn (po_none.run pins s2 σ H2 (fun o H3 => o = none ∧ H3 = H2) I2 ⟨rfl, rfl⟩) fun vu s3 ⟨u, H3, I3, pu, eu, e3⟩ => ?_
  subst eu e3
  refine thn (hst.run pins s3 σ H3 (fun o H4 => o = some (-1) ∧ H4 = H3) I3 ⟨1, rfl, -1, rfl, rfl, rfl⟩) fun vs s4 ⟨o, H4, I4, ps, eo, e4⟩ => ?_
  subst eo e4
  have I5 : Inv X pins σ H4 { s4 with heap := s4.heap.push { cls := .type "slice", data := .fields #[vl, vu, vs] } } := I4.kept (t' := s4.toks) fun b ob q => Heap.get?_push_of_some _ q
  show wpAny (model X.prog X.w) X.A (subscriptTail e (.Slice none none (some (.UnaryOp .USub (.Constant (.int 1) k p1) p2)) p3) (.ref a) (.ref s4.heap.objs.size)) (EP X pins σ Q) X.xe { s4 with heap := s4.heap.push { cls := .type "slice", data := .fields #[vl, vu, vs] } }
  rcases q1 with ⟨hx, q⟩ | ⟨hx, q⟩
  · obtain ⟨its, r, ht, hz⟩ := I5.list hx
    have hlen := r.length
    refine tail_any (ops := [.ref a, .ref s4.heap.objs.size]) ht.isList.typeIs (PySem.slot_list_getitem.lookup) ?_ (by with_unfolding_all rfl)
    refine wpAny_getItem_list_slice ht.isList (Heap.IsSliceOf.new _ vl vu vs) pl pu ps (by decide) ?_ (by rw [List.size_toArray]; omega)
    rw [PySem.W.krv_pick]
    refine ⟨.ref _, _, I5.laid (t' := s4.toks) (o := .lst xs.reverse) (fun b ob q => Heap.get?_push_of_some _ q) (Nat.le_refl _) ?_, rfl, q _ (I5.hok.fresh (Nat.le_refl _))⟩
    exact ⟨by rw [List.length_reverse]; exact hz, _, 0, r.reverse, Heap.get?_push_size _ rfl⟩
  · obtain ⟨its, r, ht, hz⟩ := I5.tuple hx
    have hlen := r.length
    cases pl
    cases pu
    refine tail_any (ops := [.ref a, .ref s4.heap.objs.size]) (show (Shared.TypeIs _ (.ref a) "tuple") from ht.typeIs) PyProof.Rows.slot_tuple_getitem.lookup ?_ (by with_unfolding_all rfl)
    refine getItem_tuple_rev ht (Heap.IsSliceOf.new _ _ _ vs) ps ?_ (by rw [List.size_toArray]; omega)
    refine ⟨.ref _, _, I5.laid (t' := s4.toks) (o := .tup xs.reverse) (fun b ob q => Heap.get?_push_of_some _ q) (Nat.le_refl _) ?_, rfl, q _ (I5.hok.fresh (Nat.le_refl _))⟩
    exact ⟨by rw [List.length_reverse]; exact hz, its.reverse, r.reverse, ⟨_, Heap.get?_push_size _ rfl, rfl, _, rfl⟩⟩
end Zp
set_option Elab.async false
set_option maxRecDepth 100000
set_option linter.all false
/-! Den9: Den8's rules by the functional words; more built-ins. -/
namespace Zp
open PySem PySem.Spec PyProof.Rows L2
def iEB (f : EF) : AF := fun ρ s => (f ρ s).bind fun d s1 => match d with
  | .lst ds => .ok ds s1
  | .tup ds => .ok ds s1
  | _ => .bad
def iEnE (f : EF) : AF := fun ρ s => (f ρ s).bind fun d s1 => match d with
  | .lst ds => .ok (enumD 0 ds) s1
  | .tup ds => .ok (enumD 0 ds) s1
  | _ => .bad
def dRev : Bool × List D → Option D := fun p => some (if p.1 = true then .tup p.2.reverse else .lst p.2.reverse)
section
variable {X : Cx} {g : Gm} {W : WX} {a b e tg : Expr} {ta tb te : TE} {fa fb fe : EF} {fl : BF} {p pos : Pos}
theorem itrep_list {K : PySem.W.Frag} {G1 : Hp} {p : Addr} {vs : List V} {ds : List D} (q1 : G1 p = some (.lst vs)) (r : Reps K g G1 vs ds) : ItRep K g (Itl K p) ds G1 := fun G2 H2 e1 e2 => ⟨fun i d hd => by
  obtain ⟨v, hv, rv⟩ := r.get hd
  refine ⟨⟨vs, v, SqL.of (e2 _ _ (e1 _ _ q1)), hv⟩, fun x H3 y => ?_⟩
  obtain ⟨y1, y2⟩ := y
  subst y1
  have := y2 vs (SqL.of (e2 _ _ (e1 _ _ q1)))
  rw [hv] at this
  cases this
  exact ⟨G2, StpS.refl e2, rv.mono e1⟩, _, SqL.of (e2 _ _ (e1 _ _ q1)), Nat.le_of_eq r.1⟩
theorem itrep_tup {K : PySem.W.Frag} {G1 : Hp} {p : Addr} {vs : List V} {ds : List D} (q1 : SqT K G1 p vs) (r : Reps K g G1 vs ds) : ItRep K g (Itt K p) ds G1 := fun G2 H2 e1 e2 => ⟨fun i d hd => by
  obtain ⟨v, hv, rv⟩ := r.get hd
  refine ⟨⟨vs, v, sameSqT e2 (sameSqT e1 q1), hv⟩, fun x H3 y => ?_⟩
  obtain ⟨y1, y2⟩ := y
  subst y1
  have := y2 vs (sameSqT e2 (sameSqT e1 q1))
  rw [hv] at this
  cases this
  exact ⟨G2, StpS.refl e2, rv.mono e1⟩, _, sameSqT e2 (sameSqT e1 q1), Nat.le_of_eq r.1⟩
def iSeqB (K : PySem.W.Frag) (te : TE) : TI := fun σ H R => te σ H fun x H1 => ∃ a, x = .ref a ∧ (((∃ xs, SqL K H1 a xs) ∧ R (Itl K a) H1) ∨ ((∃ xs, SqT K H1 a xs) ∧ R (Itt K a) H1))
theorem pi_seqB {l : Expr} {tl : TE} (hl : PE X l tl) : PI X tg l (iSeqB X.K tl) := by
  refine ⟨fun pins s σ H R I h => ?_⟩
  refine thn (hl.run pins s σ H _ I h) fun v s1 ⟨x, H1, I1, r1, q1⟩ => ?_
  obtain ⟨a, e, q1⟩ := q1
  subst e
  cases r1
  have fin : ∀ b ∈ [s1.heap.objs.size], FpOk X pins H1 b := fun b hb => by
    have e : b = s1.heap.objs.size := by simpa using hb
    subst e
    exact I1.fpOk (Nat.le_refl _) (I1.hok.fresh (Nat.le_refl _))
  rcases q1 with ⟨⟨xs, hq⟩, q⟩ | ⟨⟨xs, hq⟩, q⟩
  · obtain ⟨its, rv, p, hz⟩ := I1.list hq
    refine wpAny_pyIter_list p.isList ?_
    exact ⟨s1.heap.objs.size, [s1.heap.objs.size], _, _, H1, rfl, I1.kept (t' := s1.toks) fun b o e => Heap.get?_push_of_some _ e, turn_list a _, ⟨_, Heap.get?_push_size _ rfl, rfl, rfl⟩, fin, q⟩
  · obtain ⟨its, rv, p, hz⟩ := I1.tuple hq
    refine wpAny_pyIter_tuple (show s1.heap.IsTuple a its.toArray from p) ?_
    exact ⟨s1.heap.objs.size, [s1.heap.objs.size], _, _, H1, rfl, I1.kept (t' := s1.toks) fun b o e => Heap.get?_push_of_some _ e, turn_tuple a _, ⟨_, Heap.get?_push_size _ rfl, rfl, rfl⟩, fin, q⟩
theorem di_seq (A : DP X g W e te fe) : DI X g W tg e (iSeqB X.K te) (iEB fe) := by
  refine ⟨pi_seqB A.pe, fun G H σ ρ s R f h => A.den G H σ ρ s _ f (OutG.bind h fun d s1 v G1 H1 st1 pn1 r1 h1 => ?_)⟩
  cases r1 with
  | @lst p vs ds q1 hl hi => exact ⟨p, rfl, .inl ⟨⟨_, SqL.of (st1.gh _ _ q1)⟩, h1 _ G1 H1 (Stp.refl st1.gh) pn1 (itrep_list q1 ⟨hl, hi⟩)⟩⟩
  | @tup p vs ds q1 hl hi => exact ⟨p, rfl, .inr ⟨⟨_, sameSqT st1.gh q1⟩, h1 _ G1 H1 (Stp.refl st1.gh) pn1 (itrep_tup q1 ⟨hl, hi⟩)⟩⟩
  | _ => exact h1.elim
theorem enum_yld {K : PySem.W.Frag} {G1 G2 H2 H3 : Hp} {i : Nat} {d d' : D} {v x y : V} {T : Addr} (e1 : Same G1 G2) (e2 : Same G2 H2) (hn : H2 T = none) (e3 : H3 = upd H2 T (.tup [.int (i : Nat), v])) (ed : d = .tup [.int ((0 + i : Nat) : Int), d']) (rv : Rep K g G1 v d') : ∃ G3, StpS G2 H2 G3 H3 ∧ Rep K g G3 (.ref T) d := by
  subst e3
  subst ed
  have st := StpS.new (o := .tup [.int (i : Nat), v]) e2 hn
  refine ⟨_, st, ?_⟩
  have rr : Reps K g G2 [.int ((0 + i : Nat) : Int), v] [.int ((0 + i : Nat) : Int), d'] := Reps.cons (.int _) (Reps.cons (rv.mono e1) Reps.nil)
  have rr' := rr.mono st.gg
  rw [Nat.zero_add] at rr' ⊢
  exact .tup (SqT.of upd_same) rr'.1 rr'.2
theorem itrep_enumL {K : PySem.W.Frag} {G1 : Hp} {p : Addr} {vs : List V} {ds : List D} (q1 : G1 p = some (.lst vs)) (r : Reps K g G1 vs ds) : ItRep K g (Ite K p) (enumD 0 ds) G1 := fun G2 H2 e1 e2 => ⟨fun i d hd => by
  obtain ⟨d', hd', ed⟩ := enumD_get 0 ds i d hd
  obtain ⟨v, hv, rv⟩ := r.get hd'
  refine ⟨⟨vs, v, SqL.of (e2 _ _ (e1 _ _ q1)), hv⟩, fun x H3 y => ?_⟩
  obtain ⟨T, z, y1, y2, y3, y4⟩ := y
  subst y1
  have := y4 vs (SqL.of (e2 _ _ (e1 _ _ q1)))
  rw [hv] at this
  cases this
  exact enum_yld (x := .non) (y := .non) e1 e2 y2 y3 ed rv, _, SqL.of (e2 _ _ (e1 _ _ q1)), by rw [enumD_len]; exact Nat.le_of_eq r.1⟩
theorem itrep_enumT {K : PySem.W.Frag} {G1 : Hp} {p : Addr} {vs : List V} {ds : List D} (q1 : SqT K G1 p vs) (r : Reps K g G1 vs ds) : ItRep K g (IteT K p) (enumD 0 ds) G1 := fun G2 H2 e1 e2 => ⟨fun i d hd => by
  obtain ⟨d', hd', ed⟩ := enumD_get 0 ds i d hd
  obtain ⟨v, hv, rv⟩ := r.get hd'
  refine ⟨⟨vs, v, sameSqT e2 (sameSqT e1 q1), hv⟩, fun x H3 y => ?_⟩
  obtain ⟨T, z, y1, y2, y3, y4⟩ := y
  subst y1
  have := y4 vs (sameSqT e2 (sameSqT e1 q1))
  rw [hv] at this
  cases this
  exact enum_yld (x := .non) (y := .non) e1 e2 y2 y3 ed rv, _, sameSqT e2 (sameSqT e1 q1), by rw [enumD_len]; exact r.1⟩
theorem di_enumB {tpos : Pos} {elts : List Expr} {kk : Nat} (hm : X.mg "enumerate" = none) (A : DP X g W a ta fa) (hg : Gl X "enumerate" := by rfl) (hs : starEach [a] X.env = [(false, eval a X.env)] := by rfl) (he : starEach [a] X.env = (false, eval a X.env) :: starEach [] X.env := by rfl) :
    DI X g W (.Tuple elts kk tpos) (.Call (.Name "enumerate" p) [a] [] pos) (iEnumB X.K (tCons ta tNil)) (iEnE fa) := by
  refine ⟨pi_enumB hg hm (pa_cons A.pe pa_nil he) hs, fun G H σ ρ s R f h => A.den G H σ ρ s _ f (OutG.bind h fun d s1 v G1 H1 st1 pn1 r1 h1 => ?_)⟩
  cases r1 with
  | @lst p vs ds q1 hl hi => exact ⟨p, vs, rfl, .inl ⟨SqL.of (st1.gh _ _ q1), h1 _ G1 H1 (Stp.refl st1.gh) pn1 (itrep_enumL q1 ⟨hl, hi⟩)⟩⟩
  | @tup p vs ds q1 hl hi => exact ⟨p, vs, rfl, .inr ⟨sameSqT st1.gh q1, h1 _ G1 H1 (Stp.refl st1.gh) pn1 (itrep_enumT q1 ⟨hl, hi⟩)⟩⟩
  | _ => exact h1.elim
theorem dp_rev {k : Nat} {p1 p2 p3 pos : Pos} (A : DB X g W a ta fl) : DP X g W (.Subscript a (.Slice none none (some (.UnaryOp .USub (.Constant (.int 1) k p1) p2)) p3) pos) (tRevB X.K ta) (eB dRev fl) := by
  refine ⟨pe_revB A.pe, fun G H σ ρ s Q f h => A.den G H σ ρ s _ f (OutG.bind h fun p s1 v G1 H1 st1 pn1 r1 h1 => ?_)⟩
  obtain ⟨q, vs, rfl, h2, h3⟩ := r1
  refine ⟨q, vs, rfl, ?_⟩
  split at h2
  · rename_i e
    refine .inr ⟨sameSqT st1.gh h2, fun l hl => h1 _ _ _ (StpS.new st1.gh hl).stp ((StpS.new st1.gh hl).pen pn1) ?_⟩
    rw [if_pos e]
    have R := h3.reverse.mono (StpS.new (o := .tup vs.reverse) st1.gh hl).gg
    exact .tup (SqT.of upd_same) R.1 R.2
  · rename_i e
    refine .inl ⟨SqL.of h2, fun l hl => h1 _ _ _ (StpS.new st1.gh hl).stp ((StpS.new st1.gh hl).pen pn1) ?_⟩
    rw [if_neg e]
    have R := h3.reverse.mono (StpS.new (o := .lst vs.reverse) st1.gh hl).gg
    exact .lst upd_same R.1 R.2
/-! ### built-ins of ints, of lists -/
def dInt : D → Option D
  | .int i => some (.int i)
  | .bl k => some (.int (if k = true then 1 else 0))
  | _ => none
theorem dp_toInt (hm : X.mg "int" = none) (A : DP X g W a ta fa) (hg : Gl X "int" := by rfl) (he : starEach [a] X.env = (false, eval a X.env) :: starEach [] X.env := by rfl) :
    DP X g W (.Call (.Name "int" p) [a] [] pos) (tCB (fun xs H Q => (∃ i, xs = [.int i] ∧ Q (.int i) H) ∨ ∃ k, xs = [.bl k] ∧ Q (.int (if k then 1 else 0)) H) (tCons ta tNil)) (eUn dInt fa) := by
  refine ⟨pe_callTy call_int1 hg hm (by decide +kernel) (pa_cons A.pe pa_nil he) (by decide) (by decide) he, fun G H σ ρ s Q f h => A.den G H σ ρ s _ f (OutG.bind h fun d s1 v G1 H1 st1 pn1 r1 h1 => ?_)⟩
  obtain ⟨y, hy⟩ := OutG.lift_some h1
  cases r1 with
  | int i =>
    cases hy
    exact .inl ⟨i, rfl, OutG.lift h1 pn1 rfl (StpS.refl st1.gh) (.int _)⟩
  | bl k =>
    cases hy
    exact .inr ⟨k, rfl, OutG.lift h1 pn1 rfl (StpS.refl st1.gh) (.int _)⟩
  | _ => cases hy
def dMax : D → D → Option D
  | .int i, .int j => some (.int (if j > i then j else i))
  | _, _ => none
theorem dp_max (hc : X.calm = true) (hm : X.mg "max" = none) (A : DP X g W a ta fa) (B : DP X g W b tb fb) (hg : Gl X "max" := by rfl) (he : starEach [a, b] X.env = (false, eval a X.env) :: starEach [b] X.env := by rfl) (he2 : starEach [b] X.env = (false, eval b X.env) :: starEach [] X.env := by rfl)
    (hpl : (backTo pos (starEach [b] X.env)).any (·.1) = false := by rfl) :
    DP X g W (.Call (.Name "max" p) [a, b] [] pos) (tCB (fun xs H Q => ∃ i j, xs = [.int i, .int j] ∧ Q (.int (if j > i then j else i)) H) (tCons ta (tCons tb tNil))) (eOp dMax fa fb) := by
  refine ⟨pe_callB (call_max2 hc) hg hm (by decide +kernel) (pa_cons A.pe (pa_cons B.pe pa_nil he2) he) (by decide) (by decide) he hpl, fun G H σ ρ s Q f h => A.den G H σ ρ s _ f (OutG.bind h fun d s1 v G1 H1 st1 pn1 r1 h1 =>
    B.den G1 H1 σ ρ s1 _ (f.step st1 pn1) (OutG.bind h1 fun d2 s2 v2 G2 H2 st2 pn2 r2 h2 => ?_))⟩
  obtain ⟨y, hy⟩ := OutG.lift_some h2
  cases r1 with
  | int i =>
    cases r2 with
    | int j =>
      cases hy
      exact ⟨i, j, rfl, OutG.lift h2 pn2 rfl (StpS.refl st2.gh) (.int _)⟩
    | _ => cases hy
  | _ => cases r2 <;> cases hy
theorem bls_rep {K : PySem.W.Frag} {G : Hp} : ∀ {vs : List V} {ds : List D} {bs : List Bool}, Reps K g G vs ds → blsOf ds = some bs → vs = bs.map V.bl
  | [], [], bs, _, h => by cases h; rfl
  | [], _ :: _, _, r, _ => by simp [Reps] at r
  | _ :: _, [], _, r, _ => by simp [Reps] at r
  | v :: vs, d :: ds, bs, r, h => by
    have r1 : Rep K g G v d := r.2 0 v d rfl rfl
    have r2 : Reps K g G vs ds := ⟨by simpa using r.1, fun i v d h1 h2 => r.2 (i + 1) v d (by simpa using h1) (by simpa using h2)⟩
    cases r1 with
    | bl b =>
      simp only [blsOf] at h
      cases e : blsOf ds with
      | none => rw [e] at h; cases h
      | some cs =>
        rw [e] at h
        cases h
        rw [bls_rep r2 e]
        rfl
    | _ => cases h
theorem dp_all (hc : X.calm = true) (hm : X.mg "all" = none) (A : DB X g W a ta fl) (hg : Gl X "all" := by rfl) (he : starEach [a] X.env = (false, eval a X.env) :: starEach [] X.env := by rfl) :
    DP X g W (.Call (.Name "all" p) [a] [] pos) (tCB (rAll X.K) (tCons ta tNil)) (eB dAll fl) := by
  refine ⟨pe_callB (cr_all hc) hg hm (by decide +kernel) (pa_cons A.pe pa_nil he) (by decide) (by decide) he, fun G H σ ρ s Q f h => A.den G H σ ρ s _ f (OutG.bind h fun p s1 v G1 H1 st1 pn1 r1 h1 => ?_)⟩
  obtain ⟨y, hy⟩ := OutG.lift_some h1
  obtain ⟨q, vs, rfl, h2, h3⟩ := r1
  have hy' := hy
  unfold dAll at hy'
  split at hy'
  · cases hy'
  · rename_i e
    rw [if_neg e] at h2
    cases eb : blsOf p.2 with
    | none => rw [eb] at hy'; cases hy'
    | some bs =>
      rw [eb] at hy'
      cases hy'
      have ev := bls_rep h3 eb
      subst ev
      exact ⟨q, bs, rfl, SqL.of h2, OutG.lift h1 pn1 hy (StpS.refl st1.gh) (.bl _)⟩
/-- a list that was just made, to be read -/
def bNew (fo : AF) : BF := fun ρ s => (fo ρ s).bind fun ds s1 => .ok (false, ds) s1
theorem db_new {t : TE} {fo : AF} (A : DO X g W e t fo) : DB X g W e t (bNew fo) := by
  refine ⟨A.pe, fun G H σ ρ s Q f h => A.den G H σ ρ s _ f ?_⟩
  unfold bNew at h
  cases q : fo ρ s with
  | bad => rw [q] at h; exact h
  | exc c ds s1 => rw [q] at h; exact h
  | ok ds s1 =>
    rw [q] at h
    intro v G1 H1 st pn r
    obtain ⟨a, vs, rfl, h2, _, _, _, h6⟩ := r
    exact h _ G1 H1 st pn ⟨a, vs, rfl, h2, h6⟩
/-! ### in -/
def intsOf : List D → Option (List Int)
  | [] => some []
  | .int i :: r => (intsOf r).map (i :: ·)
  | _ => none
def dIn (neg : Bool) : D → Bool × List D → Option D
  | .int i, p => (intsOf p.2).map fun is => .bl (if neg = true then !is.contains i else is.contains i)
  | _, _ => none
theorem ints_rep {K : PySem.W.Frag} {G : Hp} : ∀ {vs : List V} {ds : List D} {is : List Int}, Reps K g G vs ds → intsOf ds = some is → vs = is.map V.int
  | [], [], is, _, h => by cases h; rfl
  | [], _ :: _, _, r, _ => by simp [Reps] at r
  | _ :: _, [], _, r, _ => by simp [Reps] at r
  | v :: vs, d :: ds, is, r, h => by
    have r1 : Rep K g G v d := r.2 0 v d rfl rfl
    have r2 : Reps K g G vs ds := ⟨by simpa using r.1, fun i v d h1 h2 => r.2 (i + 1) v d (by simpa using h1) (by simpa using h2)⟩
    cases r1 with
    | int b =>
      simp only [intsOf] at h
      cases e : intsOf ds with
      | none => rw [e] at h; cases h
      | some cs =>
        rw [e] at h
        cases h
        rw [ints_rep r2 e]
        rfl
    | _ => cases h
theorem inV_ints (i : Int) : ∀ is : List Int, inV (.int i) (is.map V.int) = is.contains i
  | [] => rfl
  | j :: is => by
    have ih := inV_ints i is
    unfold inV at ih ⊢
    rw [List.map_cons, List.any_cons, ih, List.contains_cons]
    congr 1
    show decide (j = i) = (i == j)
    by_cases e : j = i
    · subst e; simp
    · rw [decide_eq_false e]; exact (beq_eq_false_iff_ne.mpr (Ne.symm e)).symm
theorem flat_ints : ∀ is : List Int, (is.map V.int).all flatV = true
  | [] => rfl
  | i :: is => by rw [List.map_cons, List.all_cons, flat_ints is]; rfl
theorem dp_in {op : CmpOp} (neg : Bool) (ho : OpR X (compareOp op) (rIn X.K neg)) (A : DP X g W a ta fa) (B : DB X g W b tb fl) (hm : behindInMarks op b = false := by first | exact nomark _ | rfl) : DP X g W (.Compare a [op] [b] pos) (tOp (rIn X.K neg) ta tb) (eEB (dIn neg) fa fl) := by
  refine ⟨pe_cmpR ho A.pe B.pe hm, fun G H σ ρ s Q f h => A.den G H σ ρ s _ f (OutG.bind h fun d s1 v G1 H1 st1 pn1 r1 h1 => B.den G1 H1 σ ρ s1 _ (f.step st1 pn1) (OutG.bind h1 fun p s2 v2 G2 H2 st2 pn2 r2 h2 => ?_))⟩
  obtain ⟨y, hy⟩ := OutG.lift_some h2
  obtain ⟨q, vs, rfl, h3, h4⟩ := r2.seq st2.gh
  cases r1 with
  | int i =>
    have hy' := hy
    simp only [dIn] at hy'
    cases e : intsOf p.2 with
    | none => rw [e] at hy'; cases hy'
    | some is =>
      rw [e] at hy'
      cases hy'
      have ev := ints_rep h4 e
      subst ev
      refine ⟨q, _, rfl, h3, rfl, flat_ints is, OutG.lift h2 pn2 hy (StpS.refl st2.gh) ?_⟩
      rw [inV_ints]
      cases neg <;> exact .bl _
  | _ => cases hy
/-! ### isinstance -/
def tyN : D → Option String
  | .non => some "NoneType"
  | .bl _ => some "bool"
  | .int _ => some "int"
  | .str _ => some "str"
  | .tup _ => some "tuple"
  | .lst _ => some "list"
  | _ => none
theorem ty_rep {K : PySem.W.Frag} {G H : Hp} {v : V} {d : D} {t : String} (r : Rep K g G v d) (h : tyN d = some t) (e : Same G H) : TyX K H v (.type t) := by
  cases r with
  | non => cases h; exact .base .non
  | bl b => cases h; exact .base (.bl b)
  | int i => cases h; exact .base (.int i)
  | str x => cases h; exact .base (.str x)
  | tup q hl hi =>
    cases h
    rcases q with (q | ⟨o, q⟩) | ⟨o, its, n, q, hc, _⟩
    · exact .base (.tup (e _ _ q))
    · exact .fTuple (e _ _ q)
    · exact .kTuple q hc
  | lst q hl hi => cases h; exact .base (.lst (e _ _ q))
  | _ => cases h
def isB (n : String) (d : D) : Option D := (tyN d).bind fun t => (kitB t n).map .bl
theorem dp_isi {n : Str} {T : String} {p2 : Pos} (hm : X.mg "isinstance" = none) (hn : X.mg n = none) (hb : bootBuiltins n = some (.type T)) (A : DP X g W a ta fa) (hg : Gl X "isinstance" := by rfl) (hg2 : Gl X n := by rfl) (hnn : n ≠ "__name__" := by decide) (hnd : (n == ("__debug__" : Str)) = false := by decide)
    (he : starEach [a, .Name n p2] X.env = (false, eval a X.env) :: starEach [.Name n p2] X.env := by rfl) (he2 : starEach [.Name n p2] X.env = (false, eval (.Name n p2) X.env) :: starEach [] X.env := by rfl) (hpl : (backTo pos (starEach [.Name n p2] X.env)).any (·.1) = false := by rfl) :
    DP X g W (.Call (.Name "isinstance" p) [a, .Name n p2] [] pos) (tCB (rIsi X.K) (tCons ta (tCons (tC (.ty T)) tNil))) (eUn (isB T) fa) := by
  refine ⟨pe_callB call_isi hg hm PyProof.Rows.boot_isinstance (pa_cons A.pe (pa_cons (pe_bltn hg2 hn hb rfl hnn hnd) pa_nil he2) he) (by decide) (by decide) he hpl, fun G H σ ρ s Q f h => A.den G H σ ρ s _ f (OutG.bind h fun d s1 v G1 H1 st1 pn1 r1 h1 => ?_)⟩
  obtain ⟨y, hy⟩ := OutG.lift_some h1
  have hy' := hy
  unfold isB at hy'
  cases e : tyN d with
  | none => rw [e] at hy'; cases hy'
  | some t =>
    rw [e, Option.bind_some] at hy'
    cases e2 : kitB t T with
    | none => rw [e2] at hy'; cases hy'
    | some b =>
      rw [e2] at hy'
      cases hy'
      exact ⟨v, .ty T, .type t, .type T, b, rfl, .ty T, ty_rep r1 e st1.gh, kit_ty e2, OutG.lift h1 pn1 hy (StpS.refl st1.gh) (.bl b)⟩
def isB2 (m n : String) (d : D) : Option D := (tyN d).bind fun t => match kitB t m with
  | some true => some (.bl true)
  | some false => (kitB t n).map .bl
  | none => none
theorem dp_isi2 {m n : Str} {S T : String} {p2 p3 p4 : Pos} {k : Nat} (hm : X.mg "isinstance" = none) (hn1 : X.mg m = none) (hb1 : bootBuiltins m = some (.type S)) (hn : X.mg n = none) (hb : bootBuiltins n = some (.type T)) (A : DP X g W a ta fa) (hg : Gl X "isinstance" := by rfl) (hg1 : Gl X m := by rfl) (hg2 : Gl X n := by rfl)
    (hmn : m ≠ "__name__" := by decide) (hmd : (m == ("__debug__" : Str)) = false := by decide) (hnn : n ≠ "__name__" := by decide) (hnd : (n == ("__debug__" : Str)) = false := by decide)
    (hs : starEach [.Name m p2, .Name n p3] X.env = (false, eval (.Name m p2) X.env) :: starEach [.Name n p3] X.env := by rfl) (hs2 : starEach [.Name n p3] X.env = (false, eval (.Name n p3) X.env) :: starEach [] X.env := by rfl)
    (he : starEach [a, .Tuple [.Name m p2, .Name n p3] k p4] X.env = (false, eval a X.env) :: starEach [.Tuple [.Name m p2, .Name n p3] k p4] X.env := by rfl) (he2 : starEach [.Tuple [.Name m p2, .Name n p3] k p4] X.env = (false, eval (.Tuple [.Name m p2, .Name n p3] k p4) X.env) :: starEach [] X.env := by rfl) (hpl : (backTo pos (starEach [.Tuple [.Name m p2, .Name n p3] k p4] X.env)).any (·.1) = false := by rfl) :
    DP X g W (.Call (.Name "isinstance" p) [a, .Tuple [.Name m p2, .Name n p3] k p4] [] pos) (tCB (rIsiT X.K) (tCons ta (tCons (tTup (tCons (tC (.ty S)) (tCons (tC (.ty T)) tNil))) tNil))) (eUn (isB2 S T) fa) := by
  refine ⟨pe_callB call_isiT hg hm PyProof.Rows.boot_isinstance (pa_cons A.pe (pa_cons (pe_tup (pa_cons (pe_bltn hg1 hn1 hb1 rfl hmn hmd) (pa_cons (pe_bltn hg2 hn hb rfl hnn hnd) pa_nil hs2) hs)) pa_nil he2) he) (by decide) (by decide) he hpl,
    fun G H σ ρ s Q f h => A.den G H σ ρ s _ f (OutG.bind h fun d s1 v G1 H1 st1 pn1 r1 h1 => ?_)⟩
  obtain ⟨y, hy⟩ := OutG.lift_some h1
  refine ⟨by show 2 ≤ sizeLine; decide, fun l hl => ?_⟩
  have st2 := StpS.newO (o := .tup [.ty S, .ty T]) st1.gh hl
  have hy' := hy
  unfold isB2 at hy'
  cases e : tyN d with
  | none => rw [e] at hy'; cases hy'
  | some t =>
    rw [e, Option.bind_some] at hy'
    have fin : ∀ b, y = .bl b → PySem.W.kitAny X.K (.type t) [.type S, .type T] = some b → rIsiT X.K [v, .ref l] (upd H1 l (.tup [.ty S, .ty T])) Q := fun b eb kb => by
      subst eb
      exact ⟨v, l, _, .type t, [.type S, .type T], b, rfl, upd_same, .cons (.ty S) (.cons (.ty T) .nil), ty_rep r1 e st2.gh, kb, OutG.lift h1 pn1 hy st2 (.bl b)⟩
    cases e1 : kitB t S with
    | none => rw [e1] at hy'; cases hy'
    | some b1 =>
      rw [e1] at hy'
      cases b1 with
      | true =>
        cases hy'
        exact fin true rfl (kitAny_cons (kit_ty e1) (fun z => by cases z) fun _ => rfl)
      | false =>
        cases e2 : kitB t T with
        | none => rw [e2] at hy'; cases hy'
        | some b2 =>
          rw [e2] at hy'
          cases hy'
          refine fin b2 rfl (kitAny_cons (kit_ty e1) (fun _ => ?_) fun z => by cases z)
          cases b2 with
          | true => exact kitAny_cons (kit_ty e2) (fun z => by cases z) fun _ => rfl
          | false => exact kitAny_cons (kit_ty e2) (fun _ => kitAny_nil) fun z => by cases z
/-! x = [..] in one line -/
theorem ds_setLc (i : Nat) {y : Str} {py : Pos} {elt tg iter : Expr} {ifs : List Expr} {scope : Scope} {own : List (Str × Nat)} {pos spos : Pos} {wi : TI} {t : TG} {tt : TT} {te : TE} {fi : AF} {gf : GF} {ft : TF} {fe : EF} {js : List Nat} (hc : X.calm = true) (hN : X.N.Nodup) (hy : X.N[i]? = some y) (hyl : X.env.scope.names.lookup y = some .local)
    (hsw : swapsWith (.ListComp elt [⟨tg, iter, ifs, 0⟩] scope pos) (some (.Name y py)) spos.line X.env = pure true) (I : DI X g W tg iter wi fi) (ok : BlkOk X.N X.env.scope scope own)
    (hg : ∀ (s : Shared) (H : Hp) (C : Addr) (cl : List (Str × Addr)) (fp : List Addr), DG (X.blk s H scope (compEnvC scope cl C X.env) fp) g tg t js gf)
    (ht : ∀ (s : Shared) (H : Hp) (C : Addr) (cl : List (Str × Addr)) (fp : List Addr), DTs (X.blk s H scope (compEnvC scope cl C X.env) fp) g W0 ifs tt ft)
    (he : ∀ (s : Shared) (H : Hp) (C : Addr) (cl : List (Str × Addr)) (fp : List Addr), DP (X.blk s H scope (compEnvC scope cl C X.env) fp) g W0 elt te fe)
    (hj : ∀ j ∈ js, j ∈ own.map (·.2)) (s0 : Shared) (H00 : Hp) (hs : ∀ x, foldedSetIterable iter X.env x = pure x := by intro _; rfl) :
    DS X g W (.Assign [.Name y py] (.ListComp elt [⟨tg, iter, ifs, 0⟩] scope pos) spos) (tAsg (tLc wi t tt te (own.map (·.2))) (gName i)) (sSetO i (oComp (own.map (·.2)) fi gf ft fe)) :=
  ⟨ps_setLc hc hN hy hyl hsw I.pi ok (fun s H C cl fp => (hg s H C cl fp).pg) (fun s H C cl fp => (ht s H C cl fp).pt) (fun s H C cl fp => (he s H C cl fp).pe) hs, den_setO (do_comp (pos := pos) hc hN I ok hg ht he hj hs s0 H00).den⟩
end
end Zp
set_option Elab.async false
set_option maxRecDepth 100000
set_option linter.all false
/-! Den10: objects of classes of one's own. -/
namespace Zp
open PySem PySem.Spec PyProof.Rows L2
/-! ### attributes -/
/-- a class: its ghosts' names, its facts -/
structure ClsG (K : PySem.W.Frag) (g : Gm) (c : Nat) (ns : List Str) : Prop where
  cls : Cls K (g.cl c)
  fl : g.fl c = ns
  nd : ns.Nodup
  lt : ns.length < 1000
  na : ∀ f ∈ ns, NoAttr K (g.cl c) f
def fldD (c i : Nat) : D → Option D
  | .obj c' ds => if c' = c then ds[i]? else none
  | _ => none
def eFldS (c j : Nat) (f : Str) : EF := fun ρ s => match ρ[j]? with
  | some (.ins c' fs) => if c' = c then lift (fs.lookup f) s else .bad
  | _ => .bad
def putD (f : Str) (d : D) : List (Str × D) → List (Str × D)
  | [] => [(f, d)]
  | (g, x) :: r => if g = f then (g, d) :: r else (g, x) :: putD f d r
def sFldS (c j : Nat) (ns : List Str) (f : Str) (fe : EF) : SF := fun ρ s => eS (fe ρ s) ρ fun d s1 => match ρ[j]? with
  | some (.ins c' fs) => if c' = c ∧ fs.length ≤ ns.length then .nx (ρ.set j (.ins c (putD f d fs))) s1 else .bad
  | _ => .bad
theorem putD_put {K : PySem.W.Frag} {g : Gm} {G : Hp} {f : Str} {v : V} {d : D} (r : Rep K g G v d) : ∀ {vfs : List (Str × V)} {fs : List (Str × D)}, FReps K g G vfs fs → FReps K g G (putF f v vfs) (putD f d fs)
  | [], [], _ => ⟨rfl, Reps.cons r Reps.nil⟩
  | [], _ :: _, h => by simp [FReps] at h
  | _ :: _, [], h => by simp [FReps] at h
  | (k, x) :: vfs, (l, y) :: fs, h => by
    obtain ⟨h1, h2⟩ := h
    simp only [List.map_cons, List.cons.injEq] at h1
    obtain ⟨rfl, h1⟩ := h1
    have r1 : Rep K g G x y := h2.2 0 x y rfl rfl
    have r2 : FReps K g G vfs fs := ⟨h1, by simpa using h2.1, fun i v d a b => h2.2 (i + 1) v d (by simpa using a) (by simpa using b)⟩
    show FReps K g G (if k = f then _ else _) (if k = f then _ else _)
    by_cases e : k = f
    · rw [if_pos e, if_pos e]
      exact ⟨by rw [List.map_cons, List.map_cons, h1], Reps.cons r r2.2⟩
    · rw [if_neg e, if_neg e]
      have ih := putD_put (f := f) r r2
      exact ⟨by rw [List.map_cons, List.map_cons, ih.1], Reps.cons r1 ih.2⟩
theorem frep_lookup {K : PySem.W.Frag} {g : Gm} {G : Hp} {f : Str} {d : D} : ∀ {vfs : List (Str × V)} {fs : List (Str × D)}, FReps K g G vfs fs → fs.lookup f = some d → ∃ v, vfs.lookup f = some v ∧ Rep K g G v d
  | [], [], _, e => by simp at e
  | [], _ :: _, h, _ => by simp [FReps] at h
  | _ :: _, [], h, _ => by simp [FReps] at h
  | (k, x) :: vfs, (l, y) :: fs, h, e => by
    obtain ⟨h1, h2⟩ := h
    simp only [List.map_cons, List.cons.injEq] at h1
    obtain ⟨rfl, h1⟩ := h1
    have r1 : Rep K g G x y := h2.2 0 x y rfl rfl
    have r2 : FReps K g G vfs fs := ⟨h1, by simpa using h2.1, fun i v d a b => h2.2 (i + 1) v d (by simpa using a) (by simpa using b)⟩
    rw [List.lookup_cons] at e ⊢
    cases q : f == k with
    | true =>
      rw [q] at e
      cases e
      exact ⟨x, rfl, r1⟩
    | false =>
      rw [q] at e
      exact frep_lookup r2 e
section
variable {X : Cx} {g : Gm} {W : WX} {a b e : Expr} {ta tb te : TE} {fa fb fe : EF} {p pos : Pos} {c : Nat} {ns : List Str}
theorem dp_fld (i : Nat) {f : Str} (T : ClsG X.K g c ns) (hi : ns[i]? = some f) (A : DP X g W e te fe) (hb : attributeBase e f X.env (eval e X.env) = eval e X.env := by rfl) : DP X g W (.Attribute e f pos) (tFld X.K te f) (eUn (fldD c i) fe) := by
  refine ⟨pe_fld A.pe hb, fun G H σ ρ s Q q h => A.den G H σ ρ s _ q (OutG.bind h fun d s1 v G1 H1 st1 pn1 r1 h1 => ?_)⟩
  obtain ⟨y, hy⟩ := OutG.lift_some h1
  cases r1 with
  | @obj p dx c' fs ds vv h2 hn hf hl hr =>
    have hy' := hy
    simp only [fldD] at hy'
    split at hy'
    · rename_i ec
      subst ec
      have hi' : (g.fl c')[i]? = some f := by rw [T.fl]; exact hi
      exact ⟨p, g.cl c', dx, fs, vv i, rfl, st1.gh _ _ h2, T.cls, T.na f (List.mem_of_getElem? hi), hf i f hi', OutG.lift h1 pn1 hy (StpS.refl st1.gh) (hr i y hy')⟩
    · cases hy'
  | _ => cases hy
theorem dp_fldS (j : Nat) {x f : Str} {p2 : Pos} (T : ClsG X.K g c ns) (hf : f ∈ ns) (hN : X.N[j]? = some x := by rfl) (hv : Vis X.env.scope x := by first | exact Or.inl rfl | exact Or.inr (Or.inl rfl) | exact Or.inr (Or.inr rfl)) (hd : (x == ("__debug__" : Str)) = false := by decide)
    (hcd : (x == ("__classdict__" : Str)) = false := by decide) (hb : attributeBase (.Name x p2) f X.env (eval (.Name x p2) X.env) = eval (.Name x p2) X.env := by rfl) : DP X g W (.Attribute (.Name x p2) f pos) (tFld X.K (tVar j) f) (eFldS c j f) := by
  refine ⟨pe_fld (pe_var hN hv hd hcd) hb, fun G H σ ρ s Q q h => ?_⟩
  unfold eFldS at h
  split at h
  · rename_i c' fs hr
    split at h
    · rename_i ec
      subst ec
      obtain ⟨d, hl⟩ := OutG.lift_some h
      obtain ⟨a, dx, vfs, k1, k2, k3, k4, k5⟩ := q.ins j c' fs hr
      obtain ⟨v, m1, m2⟩ := frep_lookup k5.fr hl
      exact ⟨_, k1, a, _, dx, vfs, v, rfl, k2, T.cls, T.na f hf, m1, OutG.lift h q.pen hl (StpS.refl q.gh) m2⟩
    · exact h.elim
  · exact h.elim
end
theorem Fq.insUpd {K : PySem.W.Frag} {g : Gm} {G H : Hp} {σ : L2.St} {ρ : List Sv} {s : PenS} (q : Fq K g G H σ ρ s) {j c : Nat} {fs es : List (Str × D)} {a dx : Addr} {vfs ws : List (Str × V)} (hj : ρ[j]? = some (.ins c fs)) (ha : σ[j]? = some (some (.ref a)))
    (hH : H a = some (.ins (g.cl c) dx vfs)) (r : FReps K g G ws es) : Fq K g G (upd H a (.ins (g.cl c) dx ws)) σ (ρ.set j (.ins c es)) s := by
  obtain ⟨b, dx', vs, k1, k2, k3, k4, k5⟩ := q.ins j c fs hj
  rw [ha] at k1
  cases k1
  have hjl : j < ρ.length := (List.getElem?_eq_some_iff.mp hj).1
  have sg : Same G (upd H a (.ins (g.cl c) dx ws)) := fun b o e => by
    rw [upd_ne (ne_of_none e k3)]
    exact q.gh _ _ e
  refine ⟨sg, ⟨fun x e => ?_, tabs_upd hH (fun ps z => by cases z) (fun φ z => by cases z) q.pen.tb, q.pen.nt⟩, by simp [q.len], fun i d h => ?_, fun i gs h => ?_, fun i k b fs gs h1 h2 h3 h4 => ?_, fun i c2 fs2 h => ?_, fun i k b c2 d2 fs2 gs2 h1 h2 h3 h4 => ?_⟩
  · have p := q.pen x e
    refine ⟨p.no, p.cs, ?_⟩
    rw [upd_ne (fun z => k4 (by rw [← z]; exact e))]
    exact p.at_
  · obtain ⟨z, h⟩ := set_other h (fun z => by cases z)
    exact q.val i d h
  · obtain ⟨z, h⟩ := set_other h (fun z => by cases z)
    obtain ⟨b, us, m1, m2, m3, m4, m5⟩ := q.own i gs h
    refine ⟨b, us, m1, ?_, m3, m4, m5⟩
    rw [upd_ne (fun e => by rw [e, hH] at m2; cases m2)]
    exact m2
  · obtain ⟨z1, h1⟩ := set_other h1 (fun z => by cases z)
    obtain ⟨z2, h2⟩ := set_other h2 (fun z => by cases z)
    exact q.dist i k b fs gs h1 h2 h3 h4
  · by_cases z : j = i
    · subst z
      rw [List.getElem?_set_self hjl] at h
      cases h
      exact ⟨a, dx, ws, ha, upd_same, k3, k4, r, k5.sf⟩
    · rw [List.getElem?_set_ne z] at h
      obtain ⟨b, dy, us, m1, m2, m3, m4, m5⟩ := q.ins i c2 fs2 h
      refine ⟨b, dy, us, m1, ?_, m3, m4, m5⟩
      rw [upd_ne (fun e => z (q.disti j i a c c2 fs fs2 hj h ha (by rw [← e]; exact m1)))]
      exact m2
  · have back : ∀ {m : Nat} {x : Nat} {y : List (Str × D)}, (ρ.set j (Sv.ins c es))[m]? = some (Sv.ins x y) → ∃ y', ρ[m]? = some (Sv.ins x y') := fun {m x y} h => by
      by_cases z : j = m
      · subst z
        rw [List.getElem?_set_self hjl] at h
        cases h
        exact ⟨fs, hj⟩
      · rw [List.getElem?_set_ne z] at h
        exact ⟨y, h⟩
    obtain ⟨y1, h1⟩ := back h1
    obtain ⟨y2, h2⟩ := back h2
    exact q.disti i k b c2 d2 y1 y2 h1 h2 h3 h4
theorem Fs.insUpd {K : PySem.W.Frag} {g : Gm} {G0 H0 G H : Hp} {σ : L2.St} {ρ : List Sv} {s : PenS} (q : Fs K g G0 H0 G H σ ρ s) {j c : Nat} {fs es : List (Str × D)} {a dx : Addr} {vfs ws : List (Str × V)} (hj : ρ[j]? = some (.ins c fs)) (ha : σ[j]? = some (some (.ref a)))
    (hH : H a = some (.ins (g.cl c) dx vfs)) (r : FReps K g G ws es) : Fs K g G0 H0 G (upd H a (.ins (g.cl c) dx ws)) σ (ρ.set j (.ins c es)) s := by
  have f' := q.fq.insUpd hj ha hH r
  have h0 : ¬ Lv H0 a := q.fr j _ a hj (fun d z => by cases z) (fun z => by cases z) ha
  refine ⟨f', ⟨q.st.gg, f'.gh, fun b o e n t => ?_, q.st.nw, al_upd (fun ps z => by cases z) q.st.al⟩, fun i x b h n1 n2 e => ?_, q.ph⟩
  · rw [upd_ne (fun z => h0 ⟨o, by rw [← z]; exact e, t⟩)]
    exact q.st.hh b o e n t
  · by_cases z : j = i
    · subst z
      rw [ha] at e
      cases e
      exact h0
    · rw [List.getElem?_set_ne z] at h
      exact q.fr i x b h n1 n2 e
section
variable {X : Cx} {g : Gm} {W : WX} {a b e : Expr} {ta tb te : TE} {fa fb fe : EF} {p pos : Pos} {c : Nat} {ns : List Str}
theorem ds_fld (j : Nat) {x f : Str} {p2 p3 : Pos} (T : ClsG X.K g c ns) (hf : f ∈ ns) (A : DP X g W e te fe) (hN : X.N[j]? = some x := by rfl) (hv : Vis X.env.scope x := by first | exact Or.inl rfl | exact Or.inr (Or.inl rfl) | exact Or.inr (Or.inr rfl)) (hd : (x == ("__debug__" : Str)) = false := by decide)
    (hcd : (x == ("__classdict__" : Str)) = false := by decide) (hs : swapsWith e (some (.Attribute (.Name x p2) f p3)) pos.line X.env = pure false := by rfl) : DS X g W (.Assign [.Attribute (.Name x p2) f p3] e pos) (sFld X.K (tVar j) te f) (sFldS c j ns f fe) := by
  refine ⟨ps_fld (pe_var hN hv hd hcd) A.pe hs, fun G0 H0 G H σ ρ s Dn q o => A.den G H σ ρ s _ q.fq (OutS.bindE o q fun d s1 v G1 H1 st1 q1 r o1 => ?_)⟩
  split at o1
  · rename_i c' fs hr
    split at o1
    · rename_i ec
      obtain ⟨rfl, hl⟩ := ec
      obtain ⟨a, dx, vfs, k1, k2, k3, k4, k5⟩ := q1.fq.ins j c' fs hr
      have hl2 : vfs.length = fs.length := by simpa using congrArg List.length k5.fr.1
      exact ⟨_, k1, a, _, dx, vfs, rfl, k2, T.cls, T.na f hf, Nat.lt_of_le_of_lt (by rw [hl2]; exact hl) T.lt, o1 σ G1 _ (q1.insUpd hr k1 k2 (putD_put r k5.fr))⟩
    · exact o1.elim
  · exact o1.elim
end
/-! ### a class is called -/
/-- __init__'s promise: the object it leaves, frozen -/
def spI (K : PySem.W.Frag) (g : Gm) (c n : Nat) (fn : FF) : Sp := fun vs H Q E => ∃ x dx rest ds s G Hb, vs = .ref x :: rest ∧ rest.length = n ∧ Same G Hb ∧ PenOk g G Hb s ∧ Reps K g G rest ds ∧ Hb x = none ∧ Hb dx = none ∧ dx ≠ x ∧
  H = upd (upd Hb dx (.own x)) x (.ins (g.cl c) dx []) ∧ OutG K g (fun c d _ H => E c d H) G Hb [] (fun G' _ v d => v = V.non ∧ Rep K g G' (.ref x) d) Q (fn ds s)
def tMakeS (C : Addr) (sp : Sp) (E : L2.St → XK) (t : TA) : TE := fun σ H Q => t σ H fun vs H1 => ∀ x dx, H1 x = none → H1 dx = none → dx ≠ x → sp (.ref x :: vs) (upd (upd H1 dx (.own x)) x (.ins C dx [])) (fun v H2 => v = .non ∧ Q (.ref x) H2) (E σ)
section
variable {X : Cx} {CX : CXT} {k : Nat} {f C : Addr} {fd : FuncData} {ps : List Str} {sp : Sp} {E : L2.St → XK} {x : Str} {p pos : Pos} {e : Expr} {es : List Expr} {t : TA}
theorem run_makeS {pins : List (Addr × Obj)} {σ : L2.St} {H : Hp} {s : Shared} {Q : VK} {us : List Value} {vs : List V} (M : Mk X.K C f) (F : FnOk X.prog X.w X.K X.mg X.base CX k f fd ps sp) (hr : Room (k + 1) X.A) (hb : Binds X.K fd ps []) (hx : PassesAt CX X σ (E σ)) (I : Inv X pins σ H s) (r : Vals vs us)
    (h : ∀ x dx, H x = none → H dx = none → dx ≠ x → sp (.ref x :: vs) (upd (upd H dx (.own x)) x (.ins C dx [])) (fun v H2 => v = .non ∧ Q (.ref x) H2) (E σ)) :
    wpAny (model X.prog X.w) X.A (call (.ref C) us) (EP X pins σ Q) X.xe s := by
  have q0 := h (s.heap.objs.size + 1) s.heap.objs.size (I.hok.fresh (Nat.le_succ _)) (I.hok.fresh (Nat.le_refl _)) (Nat.ne_of_lt (Nat.lt_succ_self _))
  have J := Inv.made (C := C) I
  have r2 : Vals (V.ref (s.heap.objs.size + 1) :: vs) (Value.ref (s.heap.objs.size + 1) :: us) := .cons rfl r
  have hl : (Value.ref (s.heap.objs.size + 1) :: us).length = ps.length := by rw [← r2.length]; exact F.len _ _ _ _ q0
  have bd := hb _ (Value.ref (s.heap.objs.size + 1) :: us) J.kIn (by rw [List.append_nil]; exact hl)
  rw [List.append_nil] at bd
  have run := F.run _ X.stack _ _ ⟨Value.ref (s.heap.objs.size + 1) :: us, []⟩ _ _ _ (E σ) (hr.make C us []) (J.env0.make C us []) bd r2 q0
  refine wpAny_call (make_map (f := f) I.kIn M.makes M.init (beq_iff_eq.mp M.fn) (codeAny_mono run fun r s' z => ?_))
  cases r with
  | error e => exact hx pins _ _ e s' J z
  | ok fl =>
    cases fl with
    | ret u =>
      obtain ⟨v, H', J', rv, ev, q⟩ := J.after z
      subst ev
      exact ⟨rv, V.ref (s.heap.objs.size + 1), H', J', rfl, q⟩
    | next => exact z.elim
    | brk => exact z.elim
    | cont => exact z.elim
theorem pe_makeS (M : Mk X.K C f) (F : FnOk X.prog X.w X.K X.mg X.base CX k f fd ps sp) (hr : Room (k + 1) X.A) (hg : Gl X x) (hm : X.mg x = some (.ref C)) (hb : Binds X.K fd ps []) (hx : ∀ σ, PassesAt CX X σ (E σ))
    (ha : PA X (e :: es) t) (hdb : (x == ("__debug__" : Str)) = false := by decide) (he : starEach (e :: es) X.env = (false, eval e X.env) :: starEach es X.env := by rfl) (hpl : (backTo pos (starEach es X.env)).any (·.1) = false := by rfl) :
    PE X (.Call (.Name x p) (e :: es) [] pos) (tMakeS C sp E t) := by
  refine ⟨fun pins s σ H Q I h => wpAny_Call_Name_kw (ld_glob I hg hm ?_ hdb)⟩
  refine PySem.W.callWith_K (h₀ := X.base) I.ok.mod.kin M.kp (thn (ha.run pos pins s σ H _ I h) fun us s1 ⟨vs, H1, I1, r, q⟩ => ⟨I1.kIn, ?_⟩) he hpl
  exact run_makeS M F hr hb (hx σ) I1 r q
end
section
variable {X : Cx} {g : Gm} {W : WX} {k n : Nat} {f : Addr} {fd : FuncData} {ps : List Str} {fn : FF} {x : Str} {p pos : Pos} {e : Expr} {es : List Expr} {t : TA} {fa : AF} {c : Nat}
theorem dp_make (M : Mk X.K (g.cl c) f) (F : FnOk X.prog X.w X.K X.mg X.base (L2.CX X.prog X.w) k f fd ps (spI X.K g c n fn)) (hr : Room (k + 1) X.A) (hm : X.mg x = some (.ref (g.cl c))) (hb : Binds X.K fd ps []) (tk : Takes X W) (A : DA X g W (e :: es) t fa)
    (hg : Gl X x := by rfl) (hdb : (x == ("__debug__" : Str)) = false := by decide) (he : starEach (e :: es) X.env = (false, eval e X.env) :: starEach es X.env := by rfl) (hpl : (backTo pos (starEach es X.env)).any (·.1) = false := by rfl) :
    DP X g W (.Call (.Name x p) (e :: es) [] pos) (tMakeS (g.cl c) (spI X.K g c n fn) (WE W) t) (eCall n fn fa) := by
  refine ⟨pe_makeS M F hr hg hm hb (fun σ => passAt tk σ) A.pa hdb he hpl, fun G H σ ρ s Q f h => A.den G H σ ρ s _ f (OutG.bind h fun ds s1 vs G1 H1 st1 pn1 r1 h1 => ?_)⟩
  split at h1
  · rename_i z
    intro y dy n1 n2 n3
    refine ⟨y, dy, vs, ds, s1, G1, H1, rfl, by rw [r1.1]; exact z, st1.gh, pn1, r1, n1, n2, n3, rfl, ?_⟩
    have h2 := h1.self
    cases q : fn ds s1 with
    | bad => rw [q] at h2; exact h2
    | exc c' es s2 => rw [q] at h2; exact h2
    | ok d s2 =>
      rw [q] at h2
      exact fun v G2 H2 st2 pn2 r2 => ⟨r2.1, h2 _ G2 H2 st2 pn2 r2.2⟩
  · exact h1.elim
end
/-- the body of an __init__ -/
def runI (c : Nat) (ns : List Str) (n : Nat) (f : SF) : FF := fun ds s => match f (Sv.ins c [] :: (ds.map Sv.val ++ List.replicate (n - (ds.length + 1)) Sv.no)) s with
  | .nx ρ s => match (ρ[0]? : Option Sv) with
    | some (.ins c' fs) => if c' = c ∧ fs.map (·.1) = ns then .ok (.obj c (fs.map (·.2))) s else .bad
    | _ => .bad
  | .exc c ds _ s => .exc c ds s
  | _ => .bad
theorem startFi {K : PySem.W.Frag} {g : Gm} {G Hb : Hp} {N : List Str} {x dx : Addr} {vs : List V} {ds : List D} {s : PenS} {c : Nat} (hsf : g.sf = some x) (e : Same G Hb) (pn : PenOk g G Hb s) (r : Reps K g G vs ds) (n1 : Hb x = none) (n2 : Hb dx = none) (n3 : dx ≠ x) :
    Fs K g G Hb G (upd (upd Hb dx (.own x)) x (.ins (g.cl c) dx [])) (L2.start N (.ref x :: vs)) (Sv.ins c [] :: (ds.map Sv.val ++ List.replicate (N.length - (ds.length + 1)) Sv.no)) s := by
  have e2 : Same Hb (upd (upd Hb dx (.own x)) x (.ins (g.cl c) dx [])) := fun b o q => by
    rw [upd_ne (ne_of_none q n1), upd_ne (ne_of_none q n2)]
    exact q
  have gx : G x = none := e.free n1
  have pax : g.pa ≠ some x := fun z => pn.there z n1
  have pn2 : PenOk g G (upd (upd Hb dx (.own x)) x (.ins (g.cl c) dx [])) s := ⟨fun a q => by
    have p := pn a q
    exact ⟨p.no, p.cs, e2 _ _ p.at_⟩, pn.tb.ext e2, pn.nt⟩
  have no : ∀ {i : Nat} {y : Sv}, (ds.map Sv.val ++ List.replicate (N.length - (ds.length + 1)) Sv.no)[i]? = some y → (∀ d, y ≠ .val d) → y = .no := fun {i y} h n => by
    have hm := List.mem_of_getElem? h
    rcases List.mem_append.mp hm with z | z
    · obtain ⟨d, _, e⟩ := List.mem_map.mp z
      exact absurd e.symm (n d)
    · exact (List.mem_replicate.mp z).2
  have oth : ∀ {i : Nat} {y : Sv}, (Sv.ins c [] :: (ds.map Sv.val ++ List.replicate (N.length - (ds.length + 1)) Sv.no))[i]? = some y → (∀ d, y ≠ .val d) → y ≠ .no → i = 0 ∧ y = .ins c [] := fun {i y} h n m => by
    cases i with
    | zero => simp at h; exact ⟨rfl, h.symm⟩
    | succ i => exact absurd (no (by simpa using h) n) m
  have s0 : (L2.start N (.ref x :: vs))[0]? = some (some (.ref x)) := rfl
  refine ⟨⟨e.trans e2, pn2, ?_, fun i d h => ?_, fun i es h => ?_, fun i j a es gs h => ?_, fun i c2 fs h => ?_, fun i j a c2 d es gs h h' => ?_⟩, ⟨Same.refl _, e.trans e2, fun b o q _ _ => e2 _ _ q, fun a q _ => q, fun a ⟨o, z, t⟩ => ⟨o, e2 _ _ z, t⟩⟩, fun i y a h m1 m2 h' => ?_, fun y h => pn.there h⟩
  · unfold L2.start
    simp [r.1]
  · cases i with
    | zero => simp at h
    | succ i =>
      have h' : (ds.map Sv.val ++ List.replicate (N.length - (ds.length + 1)) Sv.no)[i]? = some (.val d) := by simpa using h
      by_cases hi : i < ds.length
      · rw [List.getElem?_append_left (by simpa using hi), List.getElem?_map, List.getElem?_eq_getElem hi] at h'
        cases h'
        obtain ⟨v, h1, h2⟩ := r.get (List.getElem?_eq_getElem hi)
        refine ⟨v, ?_, h2⟩
        unfold L2.start
        rw [List.map_cons, List.cons_append, List.getElem?_cons_succ, List.getElem?_append_left (by rw [List.length_map, r.1]; exact hi), List.getElem?_map, h1]
        rfl
      · rw [List.getElem?_append_right (by simpa using hi), List.getElem?_replicate] at h'
        split at h' <;> cases h'
  · obtain ⟨_, z⟩ := oth h (fun d z => by cases z) (fun z => by cases z)
    cases z
  · obtain ⟨_, z⟩ := oth h (fun d z => by cases z) (fun z => by cases z)
    cases z
  · obtain ⟨rfl, z⟩ := oth h (fun d z => by cases z) (fun z => by cases z)
    cases z
    exact ⟨x, dx, [], s0, upd_same, gx, pax, ⟨rfl, Reps.nil⟩, hsf⟩
  · obtain ⟨rfl, _⟩ := oth h (fun d z => by cases z) (fun z => by cases z)
    obtain ⟨rfl, _⟩ := oth h' (fun d z => by cases z) (fun z => by cases z)
    exact fun _ _ => rfl
  · obtain ⟨rfl, _⟩ := oth h m1 m2
    rw [s0] at h'
    cases h'
    exact lv_none n1
theorem lookup_none {β : Type} {m : Str} : ∀ {l : List (Str × β)}, m ∉ l.map (·.1) → l.lookup m = none
  | [], _ => rfl
  | (k, v) :: l, h => by
    rw [List.map_cons, List.mem_cons, not_or] at h
    rw [List.lookup_cons, beq_eq_false_iff_ne.mpr h.1]
    exact lookup_none h.2
theorem lookup_ix {β : Type} {f : Str} : ∀ {l : List (Str × β)} {i : Nat}, (l.map (·.1)).Nodup → (l.map (·.1))[i]? = some f → ∃ v, l[i]? = some (f, v) ∧ l.lookup f = some v
  | [], _, _, h => by simp at h
  | (k, v) :: l, 0, _, h => by
    simp at h
    subst h
    exact ⟨v, rfl, by rw [List.lookup_cons, beq_self_eq_true]⟩
  | (k, v) :: l, i + 1, nd, h => by
    rw [List.map_cons, List.nodup_cons] at nd
    have h' : (l.map (·.1))[i]? = some f := by simpa using h
    obtain ⟨w, h1, h2⟩ := lookup_ix nd.2 h'
    refine ⟨w, by simpa using h1, ?_⟩
    rw [List.lookup_cons, beq_eq_false_iff_ne.mpr (fun z => nd.1 (by rw [← z]; exact List.mem_of_getElem? h'))]
    exact h2
section
variable {P : Program} {w : World} {K : PySem.W.Frag} {mg : Str → Option Value} {base : Heap} {g : Gm}
/-- an own object from now on never changes -/
theorem Fs.freezeI {G0 H0 G H : Hp} {σ : L2.St} {ρ : List Sv} {s : PenS} {c : Nat} {ns : List Str} {fs : List (Str × D)} {x : Addr} (T : ClsG K g c ns) (q : Fs K g G0 H0 G H σ ρ s) (hj : ρ[0]? = some (.ins c fs)) (hx : g.sf = some x) (hn : fs.map (·.1) = ns) :
    ∃ G', Stp g G0 H0 G' H ∧ PenOk g G' H s ∧ Rep K g G' (.ref x) (.obj c (fs.map (·.2))) := by
  obtain ⟨a, dx, vfs, k1, k2, k3, k4, k5, k6⟩ := q.fq.ins 0 c fs hj
  rw [hx] at k6
  cases k6
  have hH0 : ¬ Lv H0 x := q.fr 0 _ x hj (fun d z => by cases z) (fun z => by cases z) k1
  have sg : Same G (upd G x (.ins (g.cl c) dx vfs)) := fun b o e => by
    rw [upd_ne (ne_of_none e k3)]
    exact e
  have gh : Same (upd G x (.ins (g.cl c) dx vfs)) H := fun b o e => by
    by_cases hb : b = x
    · subst hb
      rw [upd_same] at e
      cases e
      exact k2
    · rw [upd_ne hb] at e
      exact q.fq.gh _ _ e
  refine ⟨upd G x (.ins (g.cl c) dx vfs), ⟨q.st.gg.trans sg, gh, q.st.hh, fun b e n => ?_, q.st.al⟩, ⟨fun y e => ?_, q.fq.pen.tb, nt_upd (fun ps z => by cases z) q.fq.pen.nt⟩, ?_⟩
  · rw [upd_ne (fun z => hH0 (by rw [← z]; exact n))]
    exact q.st.nw b e n
  · have p := q.fq.pen y e
    refine ⟨?_, sg _ _ p.cs, p.at_⟩
    rw [upd_ne (fun z => k4 (by rw [← z]; exact e))]
    exact p.no
  · have km : vfs.map (·.1) = ns := k5.1.trans hn
    have r5 := k5.2.mono sg
    refine .obj (fun i => ((vfs.map (·.2))[i]?).getD .non) upd_same (fun m hm => lookup_none (by rw [km]; rw [T.fl] at hm; exact hm)) (fun i f hf => ?_) (by rw [T.fl, ← hn]; simp) (fun i d hd => ?_)
    · rw [T.fl, ← km] at hf
      obtain ⟨v, h1, h2⟩ := lookup_ix (by rw [km]; exact T.nd) hf
      rw [h2, List.getElem?_map, h1]
      rfl
    · obtain ⟨v, h1, h2⟩ := r5.get hd
      rw [h1]
      exact h2
/-! the maker's own ghost comes and goes -/
abbrev Gm.at (g : Gm) (o : Option Addr) : Gm := { g with sf := o }
theorem Rep.at {G : Hp} {v : V} {d : D} (o : Option Addr) (r : Rep K g G v d) : Rep K (g.at o) G v d := by
  induction r with
  | non => exact .non
  | bl b => exact .bl b
  | int i => exact .int i
  | str x => exact .str x
  | tup h hl _ ih => exact .tup h hl ih
  | lst h hl _ ih => exact .lst h hl ih
  | obj vv h hn hf hl _ ih => exact .obj vv h hn hf hl ih
  | pen h => exact .pen h
theorem Rep.of_at {G : Hp} {v : V} {d : D} {o : Option Addr} (r : Rep K (g.at o) G v d) : Rep K g G v d := r.at (g := g.at o) g.sf
theorem Reps.at {G : Hp} {vs : List V} {ds : List D} (o : Option Addr) (r : Reps K g G vs ds) : Reps K (g.at o) G vs ds := ⟨r.1, fun i v d a b => (r.2 i v d a b).at o⟩
theorem Stp.of_at {G H G' H' : Hp} {o : Option Addr} (a : Stp (g.at o) G H G' H') : Stp g G H G' H' := ⟨a.gg, a.gh, a.hh, a.nw, a.al⟩
theorem PenOk.at {G H : Hp} {s : PenS} (o : Option Addr) (p : PenOk g G H s) : PenOk (g.at o) G H s := ⟨fun a e => ⟨(p a e).no, (p a e).cs, (p a e).at_⟩, p.tb, p.nt⟩
theorem PenOk.of_at {G H : Hp} {s : PenS} {o : Option Addr} (p : PenOk (g.at o) G H s) : PenOk g G H s := ⟨fun a e => ⟨(p a e).no, (p a e).cs, (p a e).at_⟩, p.tb, p.nt⟩
theorem XRep.of_at {G H : Hp} {od o : Option Addr} {c : Nat} {ds : List D} (x : XRep K (g.at o) G H od c ds) : XRep K g G H od c ds := by
  rcases x with ⟨a, b⟩ | ⟨x, fs, vv, a, b, c, d⟩
  · exact .inl ⟨a, b⟩
  · exact .inr ⟨x, fs, vv, a, b, c, fun i e h => (d i e h).of_at⟩
/-- THE RULE for an __init__ -/
theorem fn_init {x qual : Str} {st : Stmt} {f : Addr} {fd : FuncData} {N ps : List Str} {k n c : Nat} {ns : List Str} {fb : SF} (T : ClsG K g c ns) (F : Fun K x qual st f fd) (S : FnScope N ps (defScope st)) (hn : ps.length = n + 1)
    (hbody : ∀ (o : Option Addr) (cdv : Value) (A : Around) (outer : List Env) (s : Shared) (H : Hp) (E : XK), Room k (A.deeper (envOfC qual (defScope st) s.heap.objs.size f cdv)) → ∃ t, DSs (cxOf (L2.CX P w) P w K mg base N qual (defScope st) f cdv A outer s H E) (g.at o) (fun c d _ H => E c d H) (defBody st) t fb) :
    FnOk P w K mg base (L2.CX P w) (k + 1) f fd ps (spI K g c n (runI c ns N.length fb)) := by
  refine F.okX S (fun vs H Q E h => ?_) (fun cdv A outer s H vs Q E hr h => ?_)
  · obtain ⟨x, dx, rest, ds, s, G, Hb, rfl, h2, _⟩ := h
    rw [hn, List.length_cons, h2]
  · obtain ⟨x, dx, rest, ds, s1, G, Hb, rfl, hl, e, pn, r, n1, n2, n3, rfl, o⟩ := h
    obtain ⟨t, B⟩ := hbody (some x) cdv A outer s _ E hr
    have T' : ClsG K (g.at (some x)) c ns := ⟨T.cls, T.fl, T.nd, T.lt, T.na⟩
    refine ⟨t, B.ps, B.den G Hb G _ _ _ s1 _ (startFi (g := g.at (some x)) rfl e (pn.at _) (r.at _) n1 n2 n3) ?_⟩
    unfold runI at o
    cases q : fb (Sv.ins c [] :: (ds.map Sv.val ++ List.replicate (N.length - (ds.length + 1)) Sv.no)) s1 with
    | nx ρ s2 =>
      rw [q] at o
      simp only [] at o
      intro σ G1 H1 q1
      split at o
      · rename_i c' fs hr0
        split at o
        · rename_i ec
          obtain ⟨rfl, en⟩ := ec
          obtain ⟨G2, z1, z2, z3⟩ := q1.freezeI T' hr0 rfl en
          exact o .non G2 H1 z1.of_at z2.of_at ⟨rfl, z3.of_at⟩
        · exact o.elim
      · exact o.elim
    | ret d s2 => rw [q] at o; exact o.elim
    | exc c es ρ s2 =>
      rw [q] at o
      exact fun od σ G1 H1 q1 x => o od G1 H1 q1.st.of_at q1.fq.pen.of_at x.of_at
    | brk ρ s2 => rw [q] at o; exact o.elim
    | ct ρ s2 => rw [q] at o; exact o.elim
    | bad => rw [q] at o; exact o.elim
end
end Zp
set_option Elab.async false
set_option linter.all false
set_option maxRecDepth 100000
set_option maxHeartbeats 2000000
/-! Den11: own exceptions over PoleError over ValueError whose __init__ says super().__init__(x), self.x = x. -/
namespace PySem
namespace BadX
open PySem.W PySem.Calls PyProof.Rows PySem.HandSPX
def iA (p1 p2 : Pos) (nm : Str) : Arguments := { posonlyargs := [], args := [{ arg := "self", annotation := none, pos := p1 }, { arg := nm, annotation := none, pos := p2 }], vararg := none, kwonlyargs := [], kw_defaults := [], kwarg := none, defaults := [] }
def iB (nm : Str) (a1 a2 a3 a4 a5 a6 b1 b2 b3 b4 : Pos) : List Stmt :=
  [.Expr (.Call (.Attribute (.Call (.Name "super" a1) [] [] a2) "__init__" a3) [.Name nm a4] [] a5) a6, .Assign [.Attribute (.Name "self" b1) nm b2] (.Name nm b3) b4]
def iS (nm : Str) : Scope := { kind := .function, names := [(PySem.Str.ofString "self", .local), (nm, .local), (PySem.Str.ofString "__class__", .free), (PySem.Str.ofString "super", .globalImplicit)], isGenerator := false, isCoroutine := false, more := [] }
/-- what the written part says of the class at C, of its __init__ at fI -/
structure BadTxt (P : Program) (K : Frag) (mg : Str → Option Value) (C fI : Addr) (nm : Str) : Prop where
  cls : ∃ n q N bs bm sn sub ab col dd k0 k1 k2 k3 k5, K.lookup C = some (excClassObj n q C N bs bm true sn sub ab col dd k0 k1 k2 k3 k5 "ValueError.__new__") ∧ refsVE bm = true
  sa : findIn K (.ref C) "__setattr__" = some (some (.builtin "object.__setattr__"))
  ga : findIn K (.ref C) "__getattribute__" = some (some (.builtin "BaseException.__getattribute__"))
  gg : findIn K (.ref C) "__getattr__" = some none
  noN : findIn K (.ref C) nm = some none
  iC : findIn K (.ref C) "__init__" = some (some (.ref fI))
  tC : typeIn K (.ref fI) = some (.type "function")
  kC : keepIn K (.ref C) = true
  exC : subIn K (.ref C) (.type "BaseException") = some true
  veC : subIn K (.ref C) (.type "ValueError") = some true
  tyC : typeIn K (.ref C) = some (.type "type")
  hdC : hasDictIn K C = true
  su : ks_superIn K C C "__init__" = some (some (.builtin "ValueError.__init__"))
  op : nsIn K cStatics "thirdparty.any" = some none
  ms : mg "super" = none
  ht : (P.main.scope.names.lookup ("super" : Str)).isSome = false
  fn : ∃ (oc : Value) (od : Option Addr) (doc pm : Value) (an : Option Addr) (cda cc : Addr) (ct : Value) (osl : Array (Option Value)) (p1 p2 a1 a2 a3 a4 a5 a6 b1 b2 b3 b4 : Pos) (qual : Str) (ccl : Value) (cdd : Option Addr) (vs : Array Value) (ccs : Array (Option Value)) (tf : Tok) (cl : Value) (cld : Option Addr) (csl : Array (Option Value)),
    K.lookup fI = some ⟨oc, od, .func (ksFn "__init__" qual (iA p1 p2 nm) (iB nm a1 a2 a3 a4 a5 a6 b1 b2 b3 b4) (iS nm) .none .none doc pm an (.ref cda) ct cc), osl⟩ ∧ codeIn K (.ref cda) qual = true ∧
    (a3.endLine == a5.line) = true ∧ K.lookup cda = some ⟨ccl, cdd, .fields vs, ccs⟩ ∧ vs[2]? = some (.str P.main.file tf) ∧ K.lookup cc = some ⟨cl, cld, .cell (some (.ref C)), csl⟩
/-- names that are no trouble -/
def okName (nm : Str) : Bool := (nm != "self") && (nm != "__class__") && (nm != "super") && (nm != "__debug__")
theorem one_size (v : Value) : [v].length ≤ sizeLine := by
  rw [sizeLine_eq]
  exact (by decide : 1 ≤ 16777216)
/-- what __init__ leaves of a fresh exception at x -/
structure InitEnd (h h' : Heap) (x C dx : Addr) (nm : Str) (v : Value) : Prop where
  keep : ∀ b o, b ≠ x → h.get? b = some o → h'.get? b = some o
  obj : ∃ t1 : Addr, h'.get? x = some { cls := .ref C, dict := some dx, data := .fields #[.ref t1, .none, .none, .none, .bool false, .none] }
  dbig : h.objs.size ≤ dx
  dne : dx ≠ x
  ns : h'.Ns1 dx (fun y => if y = nm then some v else none)
structure OwnMade (h h' : Heap) (e C d : Addr) (nm : Str) (v : Value) : Prop where
  keep : ∀ b o, h.get? b = some o → h'.get? b = some o
  new : h.objs.size ≤ e
  obj : ∃ oe vs, h'.get? e = some oe ∧ oe.cls = .ref C ∧ oe.dict = some d ∧ oe.data = .fields vs ∧ vs[1]? = some .none
  dbig : h.objs.size ≤ d
  dne : d ≠ e
  ns : h'.Ns1 d (fun y => if y = nm then some v else none)
section
variable {prog : Program} {w : World} {A : Around} {E : Value → Shared → Prop} {R : Result → Shared → Prop} {s : Shared} {K : Frag} {mg : Str → Option Value} {C fI : Addr} {nm : Str}
/-- the method-wrapper of ValueError.__init__ is called -/
theorem call_mw {u e t0 : Addr} {rest : List Value} {Q : Value → Shared → Prop} (X : K.In s.heap) (T : BadTxt prog K mg C fI nm) (he : s.heap.get? e = some (excO C t0)) (hu : s.heap.get? u = some (kxs_mw "ValueError.__init__" e)) (hz : rest.length ≤ sizeLine)
    (hq : ∀ h' t1, (∀ b o, b ≠ e → s.heap.get? b = some o → h'.get? b = some o) → h'.get? e = some (excO C t1) → Q .none { s with heap := h' }) :
    wpAny (model prog w) A (call (.ref u) rest) Q E s := by
  obtain ⟨n, q, N, bs, bm, sn, sub, ab, col, dd, k0, k1, k2, k3, k5, hC, hbm⟩ := T.cls
  have hC' := X _ _ hC
  obtain ⟨hh, g, d, tk, os⟩ := s
  refine wpAny_call (codeAny_of_tree ?_)
  show wpAny _ A.in1 (callAny (.ref u) ⟨rest, []⟩) _ _ _
  simp only [callAny]
  refine wpAny_bind (wpAny_load hu ?_)
  simp only [kxs_mw, show (Value.type "method-wrapper" == Value.type "method" || Value.type "method-wrapper" == Value.type "builtin_function_or_method" || Value.type "method-wrapper" == Value.type "method-wrapper") = true by decide, if_true]
  refine KFB.if_so (by decide) ?_
  refine wpAny_bind (check_bound_init F.excBase_ValueError.toExcCallFacts hC' he rfl ?_)
  refine wpAny_bind (wpAny_pure (wpAny_pure ?_))
  refine ⟨plainId_quiet F.excBase_ValueError.init.plain _, codeAny_builtin F.excBase_ValueError.initEntry ?_⟩
  exact exc_init_tree (cls := .ref C) (t0 := t0) (dv := none) (c2 := .none) (c3 := .none) (b4 := .bool false) he hz fun h' k e' _ => hq h' _ k e'
theorem okName_ne (h : okName nm = true) : nm ≠ "self" ∧ nm ≠ "__class__" ∧ nm ≠ "super" ∧ nm ≠ "__debug__" := by
  simp only [okName, Bool.and_eq_true, bne_iff_ne] at h
  exact ⟨h.1.1.1, h.1.1.2, h.1.2, h.2⟩
theorem look_nm (h : okName nm = true) : (iS nm).names.lookup nm = some .local := by
  obtain ⟨h1, h2, h3, h4⟩ := okName_ne h
  show List.lookup nm [(PySem.Str.ofString "self", NameKind.local), (nm, .local), (PySem.Str.ofString "__class__", .free), (PySem.Str.ofString "super", .globalImplicit)] = _
  rw [List.lookup_cons, show (nm == PySem.Str.ofString "self") = false from beq_eq_false_iff_ne.mpr h1]
  show List.lookup nm ((nm, NameKind.local) :: _) = _
  rw [List.lookup_cons, beq_self_eq_true]
theorem look_cl (h : okName nm = true) : (iS nm).names.lookup ("__class__" : Str) = some .free := by
  obtain ⟨h1, h2, h3, h4⟩ := okName_ne h
  show List.lookup ("__class__" : Str) [(PySem.Str.ofString "self", NameKind.local), (nm, .local), (PySem.Str.ofString "__class__", .free), (PySem.Str.ofString "super", .globalImplicit)] = _
  rw [List.lookup_cons, show (("__class__" : Str) == PySem.Str.ofString "self") = false from by decide]
  show List.lookup ("__class__" : Str) ((nm, NameKind.local) :: _) = _
  rw [List.lookup_cons, show (("__class__" : Str) == nm) = false from beq_eq_false_iff_ne.mpr (Ne.symm h2)]
  show List.lookup ("__class__" : Str) ((PySem.Str.ofString "__class__", NameKind.free) :: _) = _
  rw [List.lookup_cons, show (("__class__" : Str) == PySem.Str.ofString "__class__") = true from by decide]
theorem look_su (h : okName nm = true) : (iS nm).names.lookup ("super" : Str) = some .globalImplicit := by
  obtain ⟨h1, h2, h3, h4⟩ := okName_ne h
  show List.lookup ("super" : Str) [(PySem.Str.ofString "self", NameKind.local), (nm, .local), (PySem.Str.ofString "__class__", .free), (PySem.Str.ofString "super", .globalImplicit)] = _
  rw [List.lookup_cons, show (("super" : Str) == PySem.Str.ofString "self") = false from by decide]
  show List.lookup ("super" : Str) ((nm, NameKind.local) :: _) = _
  rw [List.lookup_cons, show (("super" : Str) == nm) = false from beq_eq_false_iff_ne.mpr (Ne.symm h3)]
  show List.lookup ("super" : Str) ((PySem.Str.ofString "__class__", NameKind.free) :: _) = _
  rw [List.lookup_cons, show (("super" : Str) == PySem.Str.ofString "__class__") = false from by decide]
  show List.lookup ("super" : Str) ((PySem.Str.ofString "super", NameKind.globalImplicit) :: _) = _
  rw [List.lookup_cons, show (("super" : Str) == PySem.Str.ofString "super") = true from by decide]
theorem bind_nm (h : okName nm = true) (a b : Value) : (([("self", a), (nm, b)] : List (Str × Value)).reverse.lookup nm) = some b := by
  show List.lookup nm [(nm, b), ("self", a)] = _
  rw [List.lookup_cons, beq_self_eq_true]
theorem bind_self (h : okName nm = true) (a b : Value) : (([("self", a), (nm, b)] : List (Str × Value)).reverse.lookup ("self" : Str)) = some a := by
  obtain ⟨h1, h2, h3, h4⟩ := okName_ne h
  show List.lookup ("self" : Str) [(nm, b), (("self" : Str), a)] = _
  rw [List.lookup_cons, show (("self" : Str) == nm) = false from beq_eq_false_iff_ne.mpr (Ne.symm h1)]
  show List.lookup ("self" : Str) ((("self" : Str), a) :: []) = _
  rw [List.lookup_cons, beq_self_eq_true]
/-- how its two values are bound (for a name of signs: rfl) -/
def BindNm (nm : Str) : Prop := ∀ (qual : Str) (p1 p2 : Pos) (body : List Stmt) (doc pm : Value) (an : Option Addr) (cdv ct : Value) (cc : Addr) (x v : Value), bindArgs (ksFn "__init__" qual (iA p1 p2 nm) body (iS nm) .none .none doc pm an cdv ct cc) ⟨[x, v], []⟩ = pure [(("self" : Str), x), (nm, v)]
theorem bind_value : BindNm "value" := fun _ _ _ _ _ _ _ _ _ _ _ _ => rfl
theorem bind_why : BindNm "why" := fun _ _ _ _ _ _ _ _ _ _ _ _ => rfl
theorem ev_super {env : Env} {a1 a2 a3 a4 a5 : Pos} (hp : (a3.endLine == a5.line) = true) : eval (.Call (.Attribute (.Call (.Name "super" a1) [] [] a2) "__init__" a3) [.Name nm a4] [] a5) env = (do
      let ov ← attributeBase (.Call (.Name "super" a1) [] [] a2) "__init__" env (eval (.Call (.Name "super" a1) [] [] a2) env)
      standAt a3.atName
      let (f, first) ← holding [ov] (getMethod ov "__init__" (do return (← importBound (.Call (.Name "super" a1) [] [] a2) env).getD true))
      callWith a5 f first (backTo a5 (starEach [.Name nm a4] env)) []) := by
  rw [arm_eval_Call]
  congr 1
  funext ov
  congr 1
  funext _
  have hf : methodCallForm ([Expr.Name nm a4].length + ([] : List Keyword).length) (backTo a5 (starEach [.Name nm a4] env)) (backToKw a5 (keywordEach [] env)) = true := rfl
  unfold methodCall
  rw [hf]
  unfold methodCallPos calleeOf
  rw [hp]
  rfl
theorem bad_init (bd : BindNm nm) (T : BadTxt prog K mg C fI nm) (ok : okName nm = true) {base : Heap} {mb : Str → Option Value} {x t0 : Addr} {v : Value} (X : K.In s.heap) (hlim : s.heap.NoLimit) (hg : s.heap.Ns mainGlobals mg) (hb : s.heap.Ns builtinsNs mb) (hbb : ∀ x : Str, x ≠ "__name__" → mb x = bootBuiltins x)
    (hx : s.heap.get? x = some (excO C t0)) (hnx : K.lookup x = none) (hroom : A.depth < recursionLimit)
    (hq : ∀ h' tk dx, InitEnd s.heap h' x C dx nm v → R (.ok (.ret .none)) { s with heap := h', toks := tk }) :
    codeAny (model prog w) A (.call (.ref fI) ⟨[.ref x, v], []⟩) R s := by
  obtain ⟨oc, od, doc, pm, an, cda, cc, ct, osl, p1, p2, a1, a2, a3, a4, a5, a6, b1, b2, b3, b4, qual, ccl, cdd, vs, ccs, tf, cl, cld, csl, ho, hcd, hpos, hcda, hvs, hcc⟩ := T.fn
  obtain ⟨n, q, N, bs, bm, sn, sub, ab, col, dd, k0, k1, k2, k3, k5, hC, hbm⟩ := T.cls
  have hcl : clsIn K C = some { name := n, bases := bs, mro := .ref C :: bm, ns := N, qualname := q, hasDict := true, slotNames := sn, subclasses := sub, abstract := ab, collection := col, hasDel := false } := by unfold clsIn; rw [hC] <;> rfl
  have lnm := look_nm ok
  have lcl := look_cl ok
  have lsu := look_su ok
  have lse : (iS nm).names.lookup ("self" : Str) = some .local := rfl
  have hmC : mroIn K C (.ref C) = some true := by
    unfold mroIn
    rw [hcl, Option.bind_some]
    show (if List.isEmpty (Value.ref C :: bm) = true then none else some ((Value.ref C :: bm).contains (.ref C))) = some true
    rw [if_neg (show ¬ (List.isEmpty (Value.ref C :: bm) = true) from Bool.false_ne_true), List.contains_cons, beq_self_eq_true]
    rfl
  refine ks_codeAny_call_defAt (fd := ksFn "__init__" qual (iA p1 p2 nm) (iB nm a1 a2 a3 a4 a5 a6 b1 b2 b3 b4) (iS nm) .none .none doc pm an (.ref cda) ct cc) (body := iB nm a1 a2 a3 a4 a5 a6 b1 b2 b3 b4) (binds := [("self", .ref x), (nm, v)]) hroom (X _ _ ho) rfl hlim (codeRec_of X hcd) rfl
    (BindsTo.of_eq (bd _ _ _ _ _ _ _ _ _ _ _ _)) ?_ ?_ (fun h₁ hns k => ?_)
  · intro y hy
    have hy' : y ∈ [(PySem.Str.ofString "self", NameKind.local), (nm, .local), (PySem.Str.ofString "__class__", .free), (PySem.Str.ofString "super", .globalImplicit)] := hy
    simp only [List.mem_cons, List.not_mem_nil, or_false] at hy'
    rcases hy' with z | z | z | z <;> rw [z] <;> exact fun q => by cases q
  · intro y hy
    simp only [List.mem_cons, List.not_mem_nil, or_false] at hy
    rcases hy with z | z
    · rw [z]; exact lse
    · rw [z]; exact lnm
  have X₁ : K.In h₁ := X.keeps k
  have hx₁ := k _ _ hx
  have hxL : s.heap.objs.size ≠ x := Nat.ne_of_gt (Heap.lt_size hx)
  show wpAt _ _ _ (execs (_ :: _) _) _ _ _
  refine ks_wpAt_execs_cons (ks_wpAt_Expr_any (ks_wpAt_MethodCall ?_ (ev_super hpos)))
  have henv : (callEnv (ksFn "__init__" qual (iA p1 p2 nm) (iB nm a1 a2 a3 a4 a5 a6 b1 b2 b3 b4) (iS nm) .none .none doc pm an (.ref cda) ct cc) s.heap.objs.size fI) = ksEnv qual (iS nm) s.heap.objs.size fI (.ref cda) cc := rfl
  rw [henv]
  have hCf := X₁ _ _ hC
  have IX : InstAt h₁ x (excO C t0) C none := ⟨hx₁, rfl, rfl, trivial⟩
  -- super()
  refine ks_wpAt_super_base (env := ksEnv qual (iS nm) s.heap.objs.size fI (.ref cda) cc) lsu lcl (by decide) rfl (X₁ _ _ ho) rfl (ar := { arg := "self", annotation := none, pos := p1 }) rfl rfl (X₁ _ _ hcda) rfl hvs (by simp) T.ht ?_
  refine ks_loadName_global rfl lsu (loadGlobal_builtin (env := ksEnv qual (iS nm) s.heap.objs.size fI (.ref cda) cc) (hg.keeps k) T.ms (hb.keeps k) ((hbb _ (by decide +kernel)).trans (by decide +kernel)) ⟨rfl, ?_⟩)
  refine wpAny_loadName_free rfl lcl rfl ⟨_, X₁ _ _ hcc, rfl⟩ ?_
  refine wpAny_loadName_local rfl lse hns (bind_self ok _ _) ?_
  refine ks_wpAny_isType_cls hCf rfl ⟨rfl, ?_⟩
  refine ks_wpAny_call_super hCf rfl hx₁ rfl (fun c z => by cases z) (looks_mroIn X₁ hmC) (fun h₂ hso k₂ => ?_)
  have X₂ : K.In h₂ := X₁.keeps k₂
  have hx₂ := k₂ _ _ hx₁
  have IX₂ : InstAt h₂ x (excO C t0) C none := ⟨hx₂, rfl, rfl, trivial⟩
  have hal : alongIn K "__init__" (((Value.ref C :: bm).dropWhile (· != .ref C)).drop 1) = some (some (.builtin "ValueError.__init__")) := by
    have z := T.su
    unfold ks_superIn at z
    rw [hcl] at z
    exact z
  -- .__init__
  refine kxs_getMethod kxs_ValueError hso (looks_opaque X₂ T.op) (l₀ := .ref C :: bm) (fun A Q E s k q => wpAny_bind ((looks_clsIn X₂ hcl) A _ E s k (wpAny_pure q))) rfl X₂ hal (IX₂.type.andThen (looks_subIn X₂ T.veC)) (ks_ne X₂ IX₂ hcl) (by decide) ?_
  have hu : (h₂.push (kxs_mw "ValueError.__init__" x)).get? h₂.objs.size = some (kxs_mw "ValueError.__init__" x) := Heap.get?_push_at rfl rfl
  have k₃ : ∀ b o, h₂.get? b = some o → (h₂.push (kxs_mw "ValueError.__init__" x)).get? b = some o := fun b o e => Heap.get?_push_of_some _ e
  have hns₃ := (hns.keeps k₂).keeps k₃
  refine kxs_callWith (i := "ValueError.__init__") (x := x) (u := h₂.objs.size) rfl (evalArgs_plain ?_)
  show wpAny _ _ (spliced ((false, eval (.Name nm a4) _) :: [])) _ _ _
  refine Calls.spliced_cons (wpAny_Name (wpAny_loadName_local rfl lnm hns₃ (bind_nm ok _ _) (Calls.spliced_nil ⟨hu, ?_⟩)) (beq_eq_false_iff_ne.mpr (okName_ne ok).2.2.2))
  refine call_mw (s := ⟨h₂.push (kxs_mw "ValueError.__init__" x), _, _, _, _⟩) (X₂.keeps k₃) T (k₃ _ _ hx₂) hu (one_size v) fun h₄ t1 k₄ hx₄ => ?_
  have nsL : ∀ b, b = s.heap.objs.size → b ≠ x := fun b e => by rw [e]; exact hxL
  have hns₄ : h₄.Ns s.heap.objs.size _ := hns₃.at (fun o q => k₄ _ _ hxL q)
  have X₄ : K.In h₄ := fun a o e => k₄ a o (fun z => by rw [z, hnx] at e; cases e) (X₂.keeps k₃ a o e)
  -- self.x = x
  refine wpAt_of_wpAny (wpAny_execs_cons (plainObj_wpAny_Assign_Attribute ?_))
  refine wpAny_Name (wpAny_loadName_local rfl lnm hns₄ (bind_nm ok _ _) ?_) (beq_eq_false_iff_ne.mpr (okName_ne ok).2.2.2)
  refine wpAny_Name (wpAny_loadName_local rfl lse hns₄ (bind_self ok _ _) ?_) (by decide)
  refine set_plain X₄ (ox := excO C t1) (od := none) ⟨hx₄, rfl, rfl, trivial⟩ T.sa ?_
  refine exc_osa X₄ hx₄ hcl (show refsVE (.ref C :: bm) = true from hbm) rfl T.noN (fun h₅ tk₅ dx k₅ dn dne hx₅ hn₅ => ?_)
  show wpAny _ _ (execs _ _) _ _ _
  have big : s.heap.objs.size ≤ h₄.objs.size := Nat.le_of_lt hns₄.lt
  exact wpAny_execs_nil (hq h₅ tk₅ dx ⟨fun b o hb e => k₅ b o hb (k₄ b o hb (k₃ _ _ (k₂ _ _ (k b o e)))), ⟨t1, hx₅⟩, Nat.le_trans big dn, dne, hn₅⟩)
theorem bad_made (bd : BindNm nm) (T : BadTxt prog K mg C fI nm) (ok : okName nm = true) {mb : Str → Option Value} {v : Value} (X : K.In s.heap) (hlim : s.heap.NoLimit) (hg : s.heap.Ns mainGlobals mg) (hb : s.heap.Ns builtinsNs mb) (hbb : ∀ x : Str, x ≠ "__name__" → mb x = bootBuiltins x)
    (hroom : A.depth + 1 < recursionLimit) (hq : ∀ h' tk e d, OwnMade s.heap h' e C d nm v → R (.ok (.ret (.ref e))) { s with heap := h', toks := tk }) :
    codeAny (model prog w) A (.call (.ref C) ⟨[v], []⟩) R s := by
  obtain ⟨n, q, N, bs, bm, sn, sub, ab, col, dd, k0, k1, k2, k3, k5, hC, hbm⟩ := T.cls
  obtain ⟨hp, g, dr, tk, os⟩ := s
  have k : ∀ b o, hp.get? b = some o → ((hp.push (kdv_tup [v])).push (excO C hp.objs.size)).get? b = some o := fun b o e => Heap.get?_push_of_some _ (Heap.get?_push_of_some _ e)
  have hget : ((hp.push (kdv_tup [v])).push (excO C hp.objs.size)).get? (hp.objs.size + 1) = some (excO C hp.objs.size) := by heap_get
  have hnx : K.lookup (hp.objs.size + 1) = none := by
    cases e : K.lookup (hp.objs.size + 1) with
    | none => rfl
    | some o =>
      have z : hp.get? (hp.objs.size + 1) = some o := X _ _ e
      exact absurd (Nat.lt_of_succ_lt (Heap.lt_size z)) (Nat.lt_irrefl _)
  refine call_own F.excBase_ValueError (fun X => refsVE_contains X bm hbm) (X _ _ hC) (looks_findIn X T.iC) (fun self => bind_fn X self T.tC) (one_size v) ?_
  refine bad_init (s := ⟨(hp.push (kdv_tup [v])).push (excO C hp.objs.size), g, dr, tk, os⟩) (base := hp) bd T ok (X.keeps k) (hlim.keeps k) (hg.keeps k) (hb.keeps k) hbb hget hnx ?_ fun h' tk' dx ⟨k', ⟨t1, hx⟩, dn, dne, hns⟩ => ?_
  · show A.depth + 1 < recursionLimit
    exact hroom
  · have old : ∀ b o, hp.get? b = some o → h'.get? b = some o := fun b o e => k' b o (Nat.ne_of_lt (Nat.lt_succ_of_lt (Heap.lt_size e))) (k b o e)
    have z : hp.objs.size + 1 + 1 ≤ dx := by
      first
        | (simpa only [Heap.size_push] using dn)
        | exact dn
        | (have q := dn; rw [Heap.size_push, Heap.size_push] at q; exact q)
    exact ⟨rfl, hq h' tk' (hp.objs.size + 1) dx ⟨old, Nat.le_succ _, ⟨_, _, hx, rfl, rfl, rfl, rfl⟩, Nat.le_trans (Nat.le_trans (Nat.le_succ _) (Nat.le_succ _)) z, dne, hns⟩⟩
end
end BadX
end PySem
namespace L2
open PySem PySem.Spec PyProof.Rows
theorem look_one {β : Type} (f : Str) (v : β) : List.lookup f [(f, v)] = some v := by rw [List.lookup_cons, beq_self_eq_true]
theorem relO_one {v : V} {v' : Value} {nm : Str} (r : RelV v v') (f : Str) : RelO (List.lookup f [(nm, v)]) (if f = nm then some v' else none) := by
  by_cases hw : f = nm
  · subst hw
    rw [if_pos rfl, look_one]
    exact r
  · rw [if_neg hw, List.lookup_cons, beq_eq_false_iff_ne.mpr hw]
    exact True.intro
section
variable {X : Cx} {C fI : Addr} {nm : Str}
/-- C(e), C such an exception -/
def tMkBad (C : Addr) (nm : Str) (ta : TA) : L2.St → Hp → XK → Prop := fun σ H Q => ta σ H fun vs H1 => ∃ v, vs = [v] ∧ ∀ d, H1 d = none → Q (.ref C) (some d) (upd H1 d (.xd [(nm, v)]))
theorem pmk_bad {x : Str} {a : Expr} {ta : TA} {p pos : Pos} {k : Nat} (bd : PySem.BadX.BindNm nm) (ok : PySem.BadX.okName nm = true) (T : PySem.BadX.BadTxt X.prog X.K X.mg C fI nm) (gC : X.mg x = some (.ref C)) (hr : Room k X.A) (ha : PA X [a] ta) (hg : Gl X x := by rfl) (hdb : (x == ("__debug__" : Str)) = false := by decide)
    (he : starEach (a :: []) X.env = (false, eval a X.env) :: starEach [] X.env := by rfl) (hpl : (backTo pos (starEach [] X.env)).any (·.1) = false := by rfl) :
    PMk X (.Call (.Name x p) [a] [] pos) (tMkBad C nm ta) := by
  intro pins s σ H Q I h
  refine wpAny_Call_Name_kw (ld_glob I hg gC ?_ hdb)
  refine PySem.W.callWith_K (h₀ := X.base) I.ok.mod.kin T.kC (thn (ha.run pos pins s σ H _ I h) fun us s1 hh => ?_) he hpl
  obtain ⟨vs, H1, I1, r1, v, ev, q1⟩ := hh
  subst ev
  refine ⟨I1.kIn, ?_⟩
  cases r1 with
  | cons rv rn =>
    rename_i v' us'
    cases rn
    show wpAny _ _ (call (.ref C) [v']) _ _ _
    have hlim := I1.nolimit
    obtain ⟨mb, hb, hbb⟩ := I1.ok.mod.blt
    have hgl := I1.ok.mod.glob.keeps I1.bk
    have hbl := hb.keeps I1.bk
    obtain ⟨hp, g, dr, tk, os⟩ := s1
    refine wpAny_call (PySem.BadX.bad_made bd T ok I1.kIn hlim hgl hbl hbb (by have := hr.dp; omega) fun h' tk' e d M => ?_)
    show MkP X pins σ Q (.ref e) ⟨h', g, dr, tk', os⟩
    obtain ⟨oe, fv, hoe, hc, hd, hdat, h1⟩ := M.obj
    have hns := M.ns
    obtain ⟨G', g1, g2⟩ := restrict h' fun b => decide (b ≠ e)
    have gk : ∀ b, b ≠ e → G'.get? b = h'.get? b := fun b hb => g1 b (decide_eq_true hb)
    have ge : G'.get? e = none := g2 e (by simp)
    have old : ∀ b o, hp.get? b = some o → G'.get? b = some o := fun b o q => (gk b (Nat.ne_of_lt (Nat.lt_of_lt_of_le (Heap.lt_size q) M.new))).trans (M.keep b o q)
    have ob : ObjOk X.prog X.w (upd H1 d (.xd [(nm, v)])) G' d (.xd [(nm, v)]) :=
      ⟨_, hns.at (fun o q => (gk d M.dne).trans q), fun f => relO_one rv f⟩
    have J : Inv X pins σ (upd H1 d (.xd [(nm, v)])) ⟨G', g, dr, tk', os⟩ := I1.laid (t' := tk') old M.dbig ob
    refine ⟨e, oe, fv, ⟨G', g, dr, tk', os⟩, _, .ref C, some d, rfl, J, fun b o q => ?_, ge, hoe, ⟨hc, hd⟩, hdat, h1, ?_, rfl, I1.bare, raises_own T.exC T.tyC, q1 d (I1.hok.fresh M.dbig)⟩
    · by_cases hb : b = e
      · have q' : G'.get? b = some o := q
        rw [hb, ge] at q'; cases q'
      · exact (gk b hb).symm.trans q
    · rw [upd_ne (Ne.symm M.dne)]
      exact I1.hok.fresh M.new
/-- e.f, e the exception that the suite holds (at a; its class cls, its dict d) -/
def tByX (C : Addr) (a : Addr) (cls : Value) (d : Option Addr) (f : Str) (te : TE) : TE := fun σ H Q => te σ H fun x H1 => x = .ref a ∧ cls = .ref C ∧ ∃ (dd : Addr) (fs : List (Str × V)) (v : V), d = some dd ∧ H1 dd = some (.xd fs) ∧ fs.lookup f = some v ∧ Q v H1
theorem pe_byX {a : Addr} {oe : Obj} {cls : Value} {d : Option Addr} {pn : List (Addr × Obj)} {e : Expr} {te : TE} {pos : Pos} (T : PySem.BadX.BadTxt X.prog X.K X.mg C fI nm) (hz : Zc cls d oe) (hf : ∃ vs, oe.data = .fields vs) (he : PE (X.suite a ((a, oe) :: pn)) e te)
    (hb : attributeBase e nm X.env (eval e X.env) = eval e X.env := by rfl) :
    PE (X.suite a ((a, oe) :: pn)) (.Attribute e nm pos) (tByX C a cls d nm te) := by
  refine ⟨fun pins s σ H Q I h => ?_⟩
  refine attr_of hb (thn (he.run pins s σ H _ I h) fun u s1 hh => ?_)
  obtain ⟨x, H1, I1, rx, ex, ec, dd, fs, v, ed, ea, el, q⟩ := hh
  subst ex
  obtain rfl : u = Value.ref a := rx
  subst ec
  subst ed
  obtain ⟨ha, _⟩ := I1.pin (a, oe) (List.mem_append_left _ List.mem_cons_self)
  obtain ⟨vs, hd⟩ := hf
  have hx : ObjOk X.prog X.w H1 s1.heap dd (.xd fs) := I1.hok dd _ ea
  obtain ⟨mA, hns, hr⟩ := hx
  obtain ⟨od, ho, hl⟩ := lookIn_ns hns
  obtain ⟨u, hu, ru⟩ := RelO.some_of (v := v) (o := mA nm) (by rw [← el]; exact hr nm)
  have J : PySem.W.InstAt s1.heap a oe C (some od) := ⟨ha, hz.1, by unfold PySem.W.notCls; rw [hd] <;> rfl, by rw [hz.2]; exact ho⟩
  exact HandSPX.exc_get I1.kIn J T.ga T.gg T.exC (PySem.W.findObj_own T.hdC T.noN rfl (by rw [hl, hu])) (handed_of ru) ⟨v, H1, I1.tok _, ru, q⟩
end
end L2
namespace Zp
open PySem PySem.Spec PyProof.Rows L2
/-- an own exception's class, its ghosts -/
structure BadG (P : Program) (K : PySem.W.Frag) (mg : Str → Option Value) (g : Gm) (c : Nat) (fI : Addr) (x nm : Str) : Prop where
  T : PySem.BadX.BadTxt P K mg (g.cl c) fI nm
  gC : mg x = some (.ref (g.cl c))
  fl : g.fl c = [nm]
  bd : PySem.BadX.BindNm nm
  ok : PySem.BadX.okName nm = true
def sRaise (c : Nat) (fe : EF) : SF := fun ρ s => eS (fe ρ s) ρ fun d s1 => .exc c [d] ρ s1
theorem ds_raise {X : Cx} {g : Gm} {W : WX} {c : Nat} {fI : Addr} {x nm : Str} {a : Expr} {ta : TE} {fa : EF} {p pos pos2 : Pos} {k : Nat} (B : BadG X.prog X.K X.mg g c fI x nm) (hc : X.calm = true) (hr : Room k X.A) (tk : Takes X W) (A : DP X g W a ta fa) (hg : Gl X x := by rfl) (hdb : (x == ("__debug__" : Str)) = false := by decide)
    (he : starEach (a :: []) X.env = (false, eval a X.env) :: starEach [] X.env := by rfl) (hpl : (backTo pos (starEach [] X.env)).any (·.1) = false := by rfl) :
    DS X g W (.Raise (some (.Call (.Name x p) [a] [] pos)) none pos2) (fun _ σ H => tMkBad (g.cl c) nm (tCons ta tNil) σ H fun cls d H' => W cls d σ H') (sRaise c fa) := by
  refine ⟨ps_raise hc tk (pmk_bad B.bd B.ok B.T B.gC hr (pa_cons A.pe pa_nil he) hg hdb he hpl), fun G0 H0 G H σ ρ s Dn q o => A.den G H σ ρ s _ q.fq (OutS.bindE o q fun d s1 v G1 H1 _ q1 r o1 => ?_)⟩
  refine ⟨v, rfl, fun dd hd => ?_⟩
  have st := StpS.newO (o := .xd [(nm, v)]) q1.fq.gh hd
  refine o1 (some dd) σ G1 _ (q1.step st.stp (st.pen q1.fq.pen)) (.inr ⟨dd, [(nm, v)], fun _ => v, rfl, upd_same, fun i f hf => ?_, fun i d' hd' => ?_⟩)
  · rw [B.fl] at hf
    cases i with
    | zero =>
      simp at hf
      subst hf
      exact look_one _ _
    | succ i => simp at hf
  · cases i with
    | zero =>
      simp at hd'
      subst hd'
      exact r
    | succ i => simp at hd'
end Zp
set_option Elab.async false
set_option linter.all false
set_option maxRecDepth 100000
set_option maxHeartbeats 2000000
/-! Den12: several except clauses, with names or without. -/
namespace L2
open PySem PySem.Spec PyProof.Rows
/-- what a suite wishes: slot i (if there is one) holds the exception while it runs -/
def suE (oi : Option Nat) (D : Ends) : Ends := match oi with
  | none => D
  | some i => { nx := fun σ' H' => D.nx (σ'.set i none) H', rt := D.rt, bk := fun σ' H' => D.bk (σ'.set i none) H', ct := fun σ' H' => D.ct (σ'.set i none) H' }
def suS (oi : Option Nat) (a : Addr) (σ : L2.St) : L2.St := match oi with
  | none => σ
  | some i => σ.set i (some (.ref a))
abbrev ClauseA := Value × Option Nat × (Addr → Value → Option Addr → TS)
def wManyA (K : PySem.W.Frag) (Wout : WX) (D : Ends) : List ClauseA → WX
  | [] => Wout
  | (c, oi, ts) :: r => fun cls d σ H => ∃ b, PySem.W.exmOne K cls c = some b ∧ (b = true → ∀ a, H a = none → ts a cls d (suE oi D) (suS oi a σ) H) ∧ (b = false → wManyA K Wout D r cls d σ H)
inductive HdsA (X : Cx) : List ExceptHandler → List ClauseA → Prop
  | nil : HdsA X [] []
  | cons {x : Str} {c : Value} {ts : Addr → Value → Option Addr → TS} {b₀ : Stmt} {suite : List Stmt} {np pos' : Pos} {hds : List ExceptHandler} {l : List ClauseA} (hc : Names X x c)
      (hsu : ∀ (a : Addr) (oe : Obj) (cls : Value) (d : Option Addr) (pn : List (Addr × Obj)), Zc cls d oe → (∃ vs, oe.data = .fields vs) → PSs (X.suite a ((a, oe) :: pn)) (b₀ :: suite) (ts a cls d)) (r : HdsA X hds l) :
      HdsA X (.ExceptHandler (some (.Name x np)) none (b₀ :: suite) pos' :: hds) ((c, none, ts) :: l)
  | as {x n : Str} {i : Nat} {c : Value} {ts : Addr → Value → Option Addr → TS} {b₀ : Stmt} {suite : List Stmt} {np pos' : Pos} {hds : List ExceptHandler} {l : List ClauseA} (hi : X.N[i]? = some n) (hln : X.env.kindOf n = some .local) (hc : Names X x c)
      (hsu : ∀ (a : Addr) (oe : Obj) (cls : Value) (d : Option Addr) (pn : List (Addr × Obj)), Zc cls d oe → (∃ vs, oe.data = .fields vs) → PSs (X.suite a ((a, oe) :: pn)) (b₀ :: suite) (ts a cls d)) (r : HdsA X hds l) :
      HdsA X (.ExceptHandler (some (.Name x np)) (some n) (b₀ :: suite) pos' :: hds) ((c, some i, ts) :: l)
section
variable {X : Cx} {body : List Stmt} {h₀ : ExceptHandler} {hds : List ExceptHandler} {l : List ClauseA} {pos : Pos} {tb : WX → TS} {Wout : WX}
theorem ps_try_manyA (hs : X.stack = X.env :: X.outer) (hf : X.env.frame = some X.env.locals) (hN : X.N.Nodup) (tk : Takes X Wout)
    (hb : ∀ (W : WX) (pn : List (Addr × Obj)) (xe : Value → Shared → Prop), Takes (X.tr pn xe) W → PassesOwn (model X.prog X.w) X.A X.env xe → PSs (X.tr pn xe) body (tb W))
    (hh : HdsA X (h₀ :: hds) l) : PS X (.Try body (h₀ :: hds) [] [] pos) (fun D σ H => tb (wManyA X.K Wout D l) D σ H) := by
  refine ⟨fun pins s σ H D I h => ?_⟩
  have ok := I.ok
  have hfr : X.A.frames = some (X.env :: X.outer) := by rw [ok.frames, hs]
  refine wpAny_Try_except ?_
  refine wpAny_mono ((hb (wManyA X.K Wout D l) (X.pn ++ pins) (fun e s₁ => wpAny (model X.prog X.w) X.A (noteFrame e X.env) (fun _ s₂ => wpAny (model X.prog X.w) X.A (setFlight e none) (fun _ s₃ =>
    wpAny (model X.prog X.w) X.A (handleBy e X.env (h₀ :: hds)) (SP X pins D) X.xe s₃) X.xe s₂) X.xe s₁) (fun u s' xx => ?_) PassesOwn.looking).run [] s σ H D (I.toTry _) h) (fun f s1 hsp => ?_) (fun e s1 he => he)
  · obtain ⟨a, B, sI, pins', σ', H', cls, d, rfl, J', nb, up, sky, na, os, ag, w⟩ := xx
    have J : Inv X pins σ' H' sI := J'.ofTry ok
    have sky' : Sky B (X.env :: X.outer) a (Zc cls d) X.env.locals s'.heap := by rw [← hs]; exact sky
    show wpAny (model X.prog X.w) X.A (noteFrame (.ref a) X.env) _ _ _
    refine Sky.land Zc.steady hfr hf sky' fun h3 fl3 up3 => ?_
    have J3 : Inv X pins σ' H' { s' with heap := h3 } := J.landed nb fl3.1 (up.trans up3) os ag
    obtain ⟨oe3, vs3, he3, hz3, hd3⟩ := fl3.there
    have notFr : ∀ {h : Heap} {o : Obj} {vs : Array Value}, h.FunFrames B (X.env :: X.outer) → h.get? a = some o → o.data = .fields vs → a ∉ frs (X.env :: X.outer) := fun {h o vs} ff e dd hm => by
      obtain ⟨_, o', e', hnf⟩ := ff.mem hm
      rw [e] at e'; cases e'
      exact hnf _ dd
    have nfr := notFr fl3.2.2.1 he3 hd3
    have nL : a ≠ X.env.locals := fun z => nfr (List.mem_filterMap.mpr ⟨X.env, List.mem_cons_self, by rw [hf, z]⟩)
    have nF : a ∉ X.fs := fun hm => by
      obtain ⟨e, he, q⟩ := List.mem_filterMap.mp hm
      exact nfr (List.mem_filterMap.mpr ⟨e, List.mem_cons_of_mem _ he, q⟩)
    have S3 := J3.suite he3 hd3 na nL nF
    have LT : PySem.W.Looks (model X.prog X.w) h3 (typeOf (.ref a)) cls := fun A Q E s k q => wpAny_typeOf_ref (k _ _ he3) (by rw [hz3.1]; exact q)
    have test : ∀ {x : Str} {np : Pos} {c : Value} {Q : Value → Shared → Prop} {E : Value → Shared → Prop}, Names X x c → Q c { s' with heap := h3 } → wpAny (model X.prog X.w) (X.A.mark (some (.ref a))) (eval (.Name x np) X.env) Q E { s' with heap := h3 } := fun {x np c Q E} hc q => by
      obtain ⟨hg, hdbg, hm | ⟨hm, hv, hnn⟩⟩ := hc
      · exact ld_glob (X := X.suite a ((a, oe3) :: (X.pn ++ pins))) S3 hg hm q hdbg
      · exact ld_blt (X := X.suite a ((a, oe3) :: (X.pn ++ pins))) S3 hg hm hv q hnn hdbg
    have go : ∀ {hds' : List ExceptHandler} {l' : List ClauseA}, HdsA X hds' l' → wManyA X.K Wout D l' cls d σ' H' →
        wpAny (model X.prog X.w) X.A (handleBy (.ref a) X.env hds') (SP X pins D) X.xe { s' with heap := h3 } := by
      intro hds' l' hk
      induction hk with
      | nil =>
        intro w
        refine wpAny_handleBy_nil ?_
        obtain ⟨k1, k2, k3, oe, vs, T, oT, ts', he, hz, hd, h1, hr⟩ := id fl3
        unfold PySem.passOn
        refine wpAny_bind (wpAny_field he hd h1 ?_)
        rw [if_neg (show ¬ ((Value.ref T == Value.none) = true) from by simp)]
        have fin : wpAny (model X.prog X.w) X.A (setFlight (.ref a) X.env.frame) (fun _ s4 => wpAny (model X.prog X.w) X.A (throw (.ref a) : Sem Flow) (SP X pins D) X.xe s4) X.xe { s' with heap := h3 } := by
          rw [hf]
          refine HandSPX.setFlight_upZ fl3 fun h4 hh4 up4 => wpAny_throw (tk _ _ ?_)
          exact ⟨a, B, sI, pins, σ', H', cls, d, rfl, J, nb, (up.trans up3).trans up4, .inr (.inr (by rw [hs]; exact hh4)), na, os, ag, w⟩
        first
          | exact wpAny_bind (wpAny_pure (wpAny_bind fin))
          | exact wpAny_bind fin
      | @cons x c ts b₀ suite np pos' hds2 l2 hc hsu r ih =>
        intro w
        obtain ⟨b, hb1, hyes, hno⟩ := w
        refine wpAny_handleBy_cons (codeAny_handlers_test ?_) (by intro q; cases q)
        refine test hc ((PySem.W.exm_one (M := model X.prog X.w) (J3.kIn) LT hb1).here ?_)
        cases b with
        | true =>
          refine codeAny_handlers_suite ?_
          refine HandSPX.lands_againZ fl3 fun h4 fl4 up4 => ?_
          have J4 : Inv X pins σ' H' { s' with heap := h4 } := J.landed nb fl4.1 ((up.trans up3).trans up4) os ag
          obtain ⟨oe4, vs4, he4, hz4, hd4⟩ := fl4.there
          have S4 := J4.suite he4 hd4 na nL nF
          refine wpAny_mono ((hsu a oe4 cls d (X.pn ++ pins) hz4 ⟨_, hd4⟩).run [] _ _ H' _ S4 (hyes rfl a na)) (fun f s6 hsp => ?_) (fun _ _ z => False.elim z)
          cases f with
          | next => obtain ⟨σ6, H6, S6, q6⟩ := hsp; exact ⟨_, _, S6.unsuite ok, q6⟩
          | brk => obtain ⟨σ6, H6, S6, q6⟩ := hsp; exact ⟨_, _, S6.unsuite ok, q6⟩
          | cont => obtain ⟨σ6, H6, S6, q6⟩ := hsp; exact ⟨_, _, S6.unsuite ok, q6⟩
          | ret u => obtain ⟨v6, σ6, H6, S6, r6, q6⟩ := hsp; exact ⟨_, _, _, S6.unsuite ok, r6, q6⟩
        | false => exact ih (hno rfl)
      | @as x n i c ts b₀ suite np pos' hds2 l2 hi hln hc hsu r ih =>
        intro w
        obtain ⟨b, hb1, hyes, hno⟩ := w
        refine wpAny_handleBy_cons (codeAny_handlers_test ?_) (by intro q; cases q)
        refine test hc ((PySem.W.exm_one (M := model X.prog X.w) (J3.kIn) LT hb1).here ?_)
        cases b with
        | true =>
          refine codeAny_handlers_suite_as ?_
          refine HandSPX.lands_againZ fl3 fun h4 fl4 up4 => ?_
          have J4 : Inv X pins σ' H' { s' with heap := h4 } := J.landed nb fl4.1 ((up.trans up3).trans up4) os ag
          obtain ⟨oe4, vs4, he4, hz4, hd4⟩ := fl4.there
          have S4 := J4.suite he4 hd4 na nL nF
          refine store_ok (X := X.suite a ((a, oe4) :: (X.pn ++ pins))) (v := .ref a) S4 hN hi (.inl hln) rfl (fun s5 S5 => ?_) (.inr hln)
          refine wpAny_mono ((hsu a oe4 cls d (X.pn ++ pins) hz4 ⟨_, hd4⟩).run [] s5 _ H' _ S5 (hyes rfl a na)) (fun f s6 hsp => ?_) (fun _ _ z => False.elim z)
          have end_ : ∀ {σ6 : L2.St} {H6 : Hp} {Q : Shared → Prop}, Inv (X.suite a ((a, oe4) :: (X.pn ++ pins))) [] σ6 H6 s6 → (∀ s7, Inv X pins (σ6.set i none) H6 s7 → Q s7) →
              wpAny (model X.prog X.w) X.A (do bindName X.env n .none; unbindBehindTheSuite X.env n pos') (fun _ s7 => Q s7) X.xe s6 := fun {σ6 H6 Q} S6 hq => gone_ok (S6.unsuite ok) hN hi hln hq
          cases f with
          | next => obtain ⟨σ6, H6, S6, q6⟩ := hsp; exact end_ S6 fun s7 J7 => ⟨_, _, J7, q6⟩
          | brk => obtain ⟨σ6, H6, S6, q6⟩ := hsp; exact end_ S6 fun s7 J7 => ⟨_, _, J7, q6⟩
          | cont => obtain ⟨σ6, H6, S6, q6⟩ := hsp; exact end_ S6 fun s7 J7 => ⟨_, _, J7, q6⟩
          | ret u => obtain ⟨v6, σ6, H6, S6, r6, q6⟩ := hsp; exact end_ S6 fun s7 J7 => ⟨_, _, _, J7, r6, q6⟩
        | false => exact ih (hno rfl)
    exact go hh w
  · cases f with
    | next => obtain ⟨σ', H', J', q⟩ := hsp; exact wpAny_execs_nil ⟨σ', H', J'.ofTry ok, q⟩
    | brk => obtain ⟨σ', H', J', q⟩ := hsp; exact ⟨σ', H', J'.ofTry ok, q⟩
    | cont => obtain ⟨σ', H', J', q⟩ := hsp; exact ⟨σ', H', J'.ofTry ok, q⟩
    | ret u => obtain ⟨v, σ', H', J', r, q⟩ := hsp; exact ⟨v, σ', H', J'.ofTry ok, r, q⟩
end
end L2
set_option Elab.async false
set_option linter.all false
set_option maxRecDepth 100000
set_option maxHeartbeats 1000000
/-! Den13: repr of data, where no repr is under way. -/
namespace Zp
open PySem PySem.Spec PyProof.Rows L2
section
variable {prog : Program} {w : World} {A : Around} {E : Value → Shared → Prop} {s : Shared}
theorem repr_reads {v : Value} {d : PyData} {as : List Addr} (r : Reads s.heap v d as) (hs : d.showable = true) (hd : d.hasDict = false) (hz : d.shown.length ≤ sizeLine) (hg : A.guards = some []) (hu : A.units + 1 + d.depth < cLine) {Q : Value → Shared → Prop}
    (hQ : ∀ h' u tk, (∀ b o, s.heap.get? b = some o → h'.get? b = some o) → Q (.str d.shown u) { s with heap := h', toks := tk }) : wpAny (model prog w) A (call (.builtin "repr") [v]) Q E s := by
  have hg1 : A.in1.guards = some [] := hg
  have hu1 : A.in1.units = A.units + 1 := rfl
  cases r with
  | none =>
    simp only [PyData.shown] at hQ
    exact P.repr_of_none (hQ s.heap _ _ fun _ _ e => e)
  | bool b =>
    simp only [PyData.shown] at hQ
    exact P.repr_of_bool (hQ s.heap _ _ fun _ _ e => e)
  | int i t =>
    simp only [PyData.shown] at hQ
    exact P.repr_of_int (by simpa [PyData.showable] using hs) (hQ s.heap _ _ fun _ _ e => e)
  | str x t =>
    simp only [PyData.shown] at hQ
    exact P.repr_of_str (hQ s.heap _ _ fun _ _ e => e) (by simpa only [PyData.shown] using hz)
  | @list a o vs n xs as h1 h2 h3 h4 =>
    have hz' : (listText (PyData.shownAll xs)).length ≤ sizeLine := by simpa only [PyData.shown] using hz
    have hdd : PyData.hasDictAll xs = false := by simpa [PyData.hasDict] using hd
    obtain ⟨bs, hb, hk⟩ := ReprAllK.of_readsAll (prog := prog) (w := w) h4 (by simpa [PyData.showable] using hs) (fun hx => by rw [hdd] at hx; cases hx) (fun t ht => Nat.le_trans (listText_mem_le ht) hz')
    have r : Reads s.heap (.ref a) (.list xs) _ := .list h1 h2 h3 h4
    have hna : a ∉ bs := not_mem_of_deeper r (by simp only [PyData.depth]; omega) hb
    simp only [PyData.depth] at hu
    simp only [PyData.shown] at hQ
    refine call_repr_slot (by omega) ⟨_, h1, h2⟩ F.slot_list_repr.toG ?_
    obtain ⟨l⟩ := vs
    cases l with
    | nil =>
      have h4' : ReadsAll s.heap [] xs _ := h4
      cases h4'
      simp only [PyData.shownAll, listText_nil] at hQ
      exact call_list_repr_empty ⟨_, h1, h2⟩ h1 h3 ⟨_, _, rfl, hQ s.heap _ _ fun _ _ e => e⟩
    | cons x l =>
      exact call_list_reprK h1 h2 h3 hna (by simpa using hk.length_eq) (fun i y e => hk.item i y (by simpa using e)) hg1 (fun b _ => Clear.nil b) (by omega) (fun _ _ e => e) (fun h' u tk hk' => ⟨_, _, rfl, hQ h' u tk hk'⟩) hz'
  | @tuple a o vs n xs as h1 h2 h3 h4 =>
    have hz' : (tupleText (PyData.shownAll xs)).length ≤ sizeLine := by simpa only [PyData.shown] using hz
    have hdd : PyData.hasDictAll xs = false := by simpa [PyData.hasDict] using hd
    obtain ⟨bs, hb, hk⟩ := ReprAllK.of_readsAll (prog := prog) (w := w) h4 (by simpa [PyData.showable] using hs) (fun hx => by rw [hdd] at hx; cases hx) (fun t ht => Nat.le_trans (tupleText_mem_le ht) hz')
    have r : Reads s.heap (.ref a) (.tuple xs) _ := .tuple h1 h2 h3 h4
    have hna : a ∉ bs := not_mem_of_deeper r (by simp only [PyData.depth]; omega) hb
    simp only [PyData.depth] at hu
    simp only [PyData.shown] at hQ
    refine call_repr_slot (by omega) ⟨_, h1, h2⟩ F.slot_tuple_repr ?_
    exact call_tuple_reprK h1 h2 h3 hna hk hg1 (fun b _ => Clear.nil b) (by omega) (fun _ _ e => e) (fun h' u tk hk' => ⟨_, _, rfl, hQ h' u tk hk'⟩) hz'
  | dict => simp [PyData.hasDict] at hd
end
mutual
theorem hasDict_toP : ∀ d : D, (toP d).hasDict = false
  | .non => rfl
  | .bl _ => rfl
  | .int _ => rfl
  | .str _ => rfl
  | .tup xs => by show PyData.hasDictAll (toPs xs) = false; exact hasDicts_toP xs
  | .lst xs => by show PyData.hasDictAll (toPs xs) = false; exact hasDicts_toP xs
  | .obj _ _ => rfl
  | .pen => rfl
theorem hasDicts_toP : ∀ ds : List D, PyData.hasDictAll (toPs ds) = false
  | [] => rfl
  | d :: ds => by
    show ((toP d).hasDict || PyData.hasDictAll (toPs ds)) = false
    rw [hasDict_toP d, hasDicts_toP ds]
    rfl
end
def reprOk (d : D) : Bool := plainD d && (toP d).showable && decide ((toP d).shown.length ≤ 16777216) && decide ((toP d).depth ≤ 32)
def dRepr (d : D) : Option D := if reprOk d = true then some (.str (toP d).shown) else none
/-- repr(x) -/
def rRepr (K : PySem.W.Frag) : List V → Hp → VK → Prop := fun xs H Q => ∃ x d, xs = [x] ∧ Dp K H x d ∧ d.showable = true ∧ d.hasDict = false ∧ d.shown.length ≤ sizeLine ∧ d.depth ≤ 32 ∧ Q (.str d.shown) H
theorem call_reprD {X : Cx} (hg : X.A.guards = some []) (hu : X.A.units + 40 < cLine) : CallR X (.builtin "repr") (rRepr X.K) := by
  intro pins s σ H xs us Q I r h
  obtain ⟨x, d, rfl, dp, h1, h2, h3, h4, q⟩ := h
  obtain ⟨u, rfl, r1⟩ := vals1 r
  obtain ⟨as, rd⟩ := Dp.reads I d x u dp r1
  exact repr_reads rd h1 h2 h3 hg (by omega) fun h' t tk k => ⟨.str d.shown, H, I.kept k, ⟨t, rfl⟩, q⟩
theorem repr_ok {K : PySem.W.Frag} {g : Gm} {G H : Hp} {v : V} {d y : D} {Q : VK} (r : Rep K g G v d) (e : Same G H) (h : dRepr d = some y) (q : ∀ x, y = .str x → Q (.str x) H) : rRepr K [v] H Q := by
  unfold dRepr at h
  split at h
  · rename_i z
    cases h
    simp only [reprOk, Bool.and_eq_true, decide_eq_true_eq] at z
    exact ⟨v, toP d, rfl, dp_of r z.1.1.1 e, z.1.1.2, hasDict_toP d, by rw [sizeLine_eq]; exact z.1.2, z.2, q _ rfl⟩
  · cases h
theorem dp_repr {X : Cx} {g : Gm} {W : WX} {a : Expr} {ta : TE} {fa : EF} {p pos : Pos} (hgd : X.A.guards = some []) (hu : X.A.units + 40 < cLine) (hm : X.mg "repr" = none) (A : DP X g W a ta fa) (hg : Gl X "repr" := by rfl) (he : starEach [a] X.env = (false, eval a X.env) :: starEach [] X.env := by rfl) :
    DP X g W (.Call (.Name "repr" p) [a] [] pos) (tCB (rRepr X.K) (tCons ta tNil)) (eUn dRepr fa) := by
  refine ⟨pe_callB (call_reprD hgd hu) hg hm (by decide +kernel) (pa_cons A.pe pa_nil he) (by decide) (by decide) he, fun G H σ ρ s Q f h => A.den G H σ ρ s _ f (OutG.bind h fun d s1 v G1 H1 st1 pn1 r1 h1 => ?_)⟩
  obtain ⟨y, hy⟩ := OutG.lift_some h1
  exact repr_ok r1 st1.gh hy fun x ex => OutG.lift h1 pn1 hy (StpS.refl st1.gh) (by rw [ex]; exact .str x)
end Zp
set_option Elab.async false
set_option linter.all false
set_option maxRecDepth 100000
set_option maxHeartbeats 1000000
/-! Den14: a lambda handed to a def that tells what it raised. -/
namespace Zp
open PySem PySem.Spec PyProof.Rows L2 LamX
theorem XRep.step {K : PySem.W.Frag} {g : Gm} {G H G' H' : Hp} {od : Option Addr} {c : Nat} {ds : List D} {s : PenS} (x : XRep K g G H od c ds) (st : Stp g G H G' H') (pn : PenOk g G H s) : XRep K g G' H' od c ds := by
  rcases x with ⟨a, b⟩ | ⟨x, fs, vv, a, b, c, d⟩
  · exact .inl ⟨a, b⟩
  · refine .inr ⟨x, fs, vv, a, st.hh _ _ b (fun z => ?_) (fun ps z => by cases z), c, fun i e h => (d i e h).mono st.gg⟩
    rw [(pn x z).at_] at b
    cases b
/-! ### what a suite may say of the exception that it holds -/
abbrev XF := Nat → List D → PenS → ResE D
structure DX (Z : Cx) (g : Gm) (n : Nat) (oi : Option Nat) (e : Expr) (t : Addr → Value → Option Addr → TE) (f : XF) : Prop where
  pe : ∀ (a : Addr) (oe : Obj) (cls : Value) (d : Option Addr) (pn : List (Addr × Obj)), Zc cls d oe → (∃ vs, oe.data = .fields vs) → PE (Z.suite a ((a, oe) :: pn)) e (t a cls d)
  den : ∀ a od c ds G H s σ Q, Same G H → PenOk g G H s → XRep Z.K g G H od c ds → σ.length = n → OutG Z.K g W0 G H [] (RD Z.K g) Q (f c ds s) → t a (.ref (g.cl c)) od (suS oi a σ) H Q
structure DXs (Z : Cx) (g : Gm) (n : Nat) (oi : Option Nat) (es : List Expr) (t : Addr → Value → Option Addr → TA) (f : Nat → List D → PenS → ResE (List D)) : Prop where
  pa : ∀ (a : Addr) (oe : Obj) (cls : Value) (d : Option Addr) (pn : List (Addr × Obj)), Zc cls d oe → (∃ vs, oe.data = .fields vs) → PA (Z.suite a ((a, oe) :: pn)) es (t a cls d)
  den : ∀ a od c ds G H s σ Q, Same G H → PenOk g G H s → XRep Z.K g G H od c ds → σ.length = n → OutG Z.K g W0 G H [] (RA Z.K g) Q (f c ds s) → t a (.ref (g.cl c)) od (suS oi a σ) H Q
section
variable {Z : Cx} {g : Gm} {n : Nat} {oi : Option Nat} {e : Expr} {es : List Expr} {t : Addr → Value → Option Addr → TE} {ts : Addr → Value → Option Addr → TA} {f : XF} {fs : Nat → List D → PenS → ResE (List D)} {p pos : Pos}
theorem dx_str {x : Str} {j : Nat} : DX Z g n oi (.Constant (.str x) j pos) (fun _ _ _ => tC (.str x)) (fun _ _ s => .ok (.str x) s) :=
  ⟨fun _ _ _ _ _ _ _ => pe_str, fun a od c ds G H s σ Q e pn x l h => h _ G H (Stp.refl e) pn (.str _)⟩
theorem dx_fld {i c' : Nat} {fI : Addr} {x nm en : Str} (B : BadG Z.prog Z.K Z.mg g c' fI x nm) (hN : Z.N[i]? = some en) (hi : i < n) (hv : Vis Z.env.scope en := by first | exact Or.inl rfl | exact Or.inr (Or.inl rfl) | exact Or.inr (Or.inr rfl)) (hd : (en == ("__debug__" : Str)) = false := by decide)
    (hcd : (en == ("__classdict__" : Str)) = false := by decide) (hb : attributeBase (.Name en p) nm Z.env (eval (.Name en p) Z.env) = eval (.Name en p) Z.env := by rfl) :
    DX Z g n (some i) (.Attribute (.Name en p) nm pos) (fun a cls d => tByX (g.cl c') a cls d nm (tVar i)) (fun c ds s => if c = c' then lift ds[0]? s else .bad) := by
  refine ⟨fun a oe cls d pn hz hf => pe_byX B.T hz hf (pe_var (X := Z.suite a ((a, oe) :: pn)) hN hv hd hcd) hb, fun a od c ds G H s σ Q e pn x l h => ?_⟩
  split at h
  · rename_i ec
    subst ec
    obtain ⟨d, hd⟩ := OutG.lift_some h
    rcases x with ⟨_, b⟩ | ⟨y, fs, vv, ea, eb, ef, eg⟩
    · subst b
      simp at hd
    · refine ⟨.ref a, ?_, rfl, rfl, y, fs, vv 0, ea, eb, ef 0 nm (by rw [B.fl]; rfl), OutG.lift h pn hd (StpS.refl e) (eg 0 d hd)⟩
      show (σ.set i (some (.ref a)))[i]? = some (some (V.ref a))
      rw [List.getElem?_set_self (by omega)]
  · exact h.elim
theorem dx_repr (hgd : Z.A.guards = some []) (hu : Z.A.units + 60 < cLine) (hm : Z.mg "repr" = none) (A : DX Z g n oi e t f) (hg : Gl Z "repr" := by rfl) (he : starEach [e] Z.env = (false, eval e Z.env) :: starEach [] Z.env := by rfl) :
    DX Z g n oi (.Call (.Name "repr" p) [e] [] pos) (fun a cls d => tCB (rRepr Z.K) (tCons (t a cls d) tNil)) (fun c ds s => (f c ds s).bind fun d s1 => lift (dRepr d) s1) := by
  refine ⟨fun a oe cls d pn hz hf => pe_callB (X := Z.suite a ((a, oe) :: pn)) (call_reprD hgd (by show (Z.A.mark (some (.ref a))).units + 40 < cLine; have : (Z.A.mark (some (.ref a))).units = Z.A.units := rfl; omega)) hg hm (by decide +kernel) (pa_cons (A.pe a oe cls d pn hz hf) pa_nil he) (by decide) (by decide) he,
    fun a od c ds G H s σ Q e pn x l h => A.den a od c ds G H s σ _ e pn x l (OutG.bind h fun d s1 v G1 H1 st1 pn1 r1 h1 => ?_)⟩
  obtain ⟨y, hy⟩ := OutG.lift_some h1
  exact repr_ok r1 st1.gh hy fun x ex => OutG.lift h1 pn1 hy (StpS.refl st1.gh) (by rw [ex]; exact .str x)
theorem dxs_nil : DXs Z g n oi [] (fun _ _ _ => tNil) (fun _ _ s => .ok [] s) := ⟨fun _ _ _ _ _ _ _ => pa_nil, fun a od c ds G H s σ Q e pn x l h => h [] G H (Stp.refl e) pn Reps.nil⟩
theorem dxs_cons (A : DX Z g n oi e t f) (B : DXs Z g n oi es ts fs) (hs : starEach (e :: es) Z.env = (false, eval e Z.env) :: starEach es Z.env := by rfl) :
    DXs Z g n oi (e :: es) (fun a cls d => tCons (t a cls d) (ts a cls d)) (fun c ds s => (f c ds s).bind fun y s1 => (fs c ds s1).bind fun ys s2 => .ok (y :: ys) s2) :=
  ⟨fun a oe cls d pn hz hf => pa_cons (A.pe a oe cls d pn hz hf) (B.pa a oe cls d pn hz hf) hs, fun a od c ds G H s σ Q e pn x l h => A.den a od c ds G H s σ _ e pn x l (OutG.bind h fun d1 s1 v1 G1 H1 st1 pn1 r1 h1 =>
    B.den a od c ds G1 H1 s1 σ _ st1.gh pn1 (x.step st1 pn) l (OutG.bind h1 fun d2 s2 v2 G2 H2 st2 pn2 r2 h2 => h2 (v1 :: v2) G2 H2 (Stp.refl st2.gh) pn2 (Reps.cons (r1.mono st2.gg) r2)))⟩
theorem dx_tup {k : Nat} (A : DXs Z g n oi es ts fs) : DX Z g n oi (.Tuple es k pos) (fun a cls d => tTup (ts a cls d)) (fun c ds s => (fs c ds s).bind fun ys s1 => lift (if szB ys.length = true then some (.tup ys) else none) s1) := by
  refine ⟨fun a oe cls d pn hz hf => pe_tup (A.pa a oe cls d pn hz hf), fun a od c ds G H s σ Q e pn x l h => A.den a od c ds G H s σ _ e pn x l (OutG.bind h fun ys s1 vs G1 H1 st1 pn1 r1 h1 => ?_)⟩
  obtain ⟨d, hd⟩ := OutG.lift_some h1
  have hd' := hd
  split at hd'
  · rename_i z
    cases hd'
    refine ⟨by rw [r1.1]; exact szB_le z, fun p hp => OutG.lift h1 pn1 hd (StpS.new st1.gh hp) ?_⟩
    have R := r1.mono (StpS.new (o := .tup vs) st1.gh hp).gg
    exact .tup (SqT.of upd_same) R.1 R.2
  · cases hd'
end
/-! ### the clauses -/
structure HdD where
  c : Nat
  f : XF
def runH (ex : Nat → Nat → Option Bool) (c : Nat) (ds : List D) (s : PenS) : List HdD → ResE D
  | [] => .bad
  | h :: r => match ex c h.c with
    | some true => h.f c ds s
    | some false => runH ex c ds s r
    | none => .bad
/-- clauses that return what they say -/
inductive DHs (Z : Cx) (g : Gm) (n : Nat) : List ExceptHandler → List ClauseA → List HdD → Prop
  | nil : DHs Z g n [] [] []
  | cons {x : Str} {c : Nat} {e : Expr} {t : Addr → Value → Option Addr → TE} {f : XF} {np pos' p6 : Pos} {hds : List ExceptHandler} {l : List ClauseA} {hs : List HdD} (hc : Names Z x (.ref (g.cl c))) (A : DX Z g n none e t f) (r : DHs Z g n hds l hs) :
      DHs Z g n (.ExceptHandler (some (.Name x np)) none [.Return (some e) p6] pos' :: hds) ((.ref (g.cl c), none, fun a cls d D σ H => σ.length = n → tRet (t a cls d) D σ H) :: l) (⟨c, f⟩ :: hs)
  | as {x m : Str} {i : Nat} {c : Nat} {e : Expr} {t : Addr → Value → Option Addr → TE} {f : XF} {np pos' p6 : Pos} {hds : List ExceptHandler} {l : List ClauseA} {hs : List HdD} (hi : Z.N[i]? = some m) (hln : Z.env.kindOf m = some .local) (hc : Names Z x (.ref (g.cl c))) (A : DX Z g n (some i) e t f) (r : DHs Z g n hds l hs) :
      DHs Z g n (.ExceptHandler (some (.Name x np)) (some m) [.Return (some e) p6] pos' :: hds) ((.ref (g.cl c), some i, fun a cls d D σ H => σ.length = n → tRet (t a cls d) D σ H) :: l) (⟨c, f⟩ :: hs)
theorem pss_len {X : Cx} {st : List Stmt} {t : TS} (h : PSs X st t) : PSs X st (fun D σ H => σ.length = X.N.length → t D σ H) := ⟨fun pins s σ H D I q => h.run pins s σ H D I (q I.len)⟩
theorem DHs.hds {Z : Cx} {g : Gm} {hds : List ExceptHandler} {l : List ClauseA} {hs : List HdD} (h : DHs Z g Z.N.length hds l hs) : HdsA Z hds l := by
  induction h with
  | nil => exact .nil
  | cons hc A r ih => exact .cons hc (fun a oe cls d pn hz hf => pss_len (pss_one (ps_ret (A.pe a oe cls d pn hz hf)))) ih
  | as hi hln hc A r ih => exact .as hi hln hc (fun a oe cls d pn hz hf => pss_len (pss_one (ps_ret (A.pe a oe cls d pn hz hf)))) ih
def ExOk (K : PySem.W.Frag) (g : Gm) (ex : Nat → Nat → Option Bool) : Prop := ∀ c c' b, ex c c' = some b → PySem.W.exmOne K (.ref (g.cl c)) (.ref (g.cl c')) = some b
theorem suS_len {oi : Option Nat} {a : Addr} {σ : L2.St} {n : Nat} (h : (suS oi a σ).length = n) : σ.length = n := by
  cases oi with
  | none => exact h
  | some i => rw [← h]; exact (List.length_set ..).symm
theorem DHs.den {Z : Cx} {g : Gm} {n : Nat} {ex : Nat → Nat → Option Bool} (hx : ExOk Z.K g ex) {hds : List ExceptHandler} {l : List ClauseA} {hs : List HdD} (h : DHs Z g n hds l hs) {od : Option Addr} {c : Nat} {ds : List D} {G H : Hp} {s : PenS} {σ : L2.St} {Q : VK} {D : Ends} (hD : D.rt = Q) (e : Same G H) (pn : PenOk g G H s) (x : XRep Z.K g G H od c ds)
    (o : OutG Z.K g W0 G H [] (RD Z.K g) Q (runH ex c ds s hs)) : wManyA Z.K (fun _ _ _ _ => False) D l (.ref (g.cl c)) od σ H := by
  induction h with
  | nil => exact o.elim
  | @cons x' c' e' t f np pos' p6 hds l hs hc A r ih =>
    simp only [runH] at o
    cases q : ex c c' with
    | none => rw [q] at o; exact o.elim
    | some b =>
      rw [q] at o
      refine ⟨b, hx _ _ _ q, fun hb a _ hlen => ?_, fun hb => ?_⟩
      · subst hb
        show t a (.ref (g.cl c)) od (suS none a σ) H D.rt
        rw [hD]
        exact A.den a od c ds G H s σ Q e pn x (suS_len hlen) o
      · subst hb
        exact ih o
  | @as x' m i c' e' t f np pos' p6 hds l hs hi hln hc A r ih =>
    simp only [runH] at o
    cases q : ex c c' with
    | none => rw [q] at o; exact o.elim
    | some b =>
      rw [q] at o
      refine ⟨b, hx _ _ _ q, fun hb a _ hlen => ?_, fun hb => ?_⟩
      · subst hb
        show t a (.ref (g.cl c)) od (suS (some i) a σ) H D.rt
        rw [hD]
        exact A.den a od c ds G H s σ Q e pn x (suS_len hlen) o
      · subst hb
        exact ih o
/-! ### the def that calls what it got -/
def endsQ (Q : VK) : Ends := { nx := fun _ H' => Q .non H', rt := Q }
/-- try: return (ok, a()) / the clauses -/
def TTc (K : PySem.W.Frag) (l : List ClauseA) (okS : Str) : (XK → Hp → VK → Prop) → Hp → VK → Prop := fun tl H Q =>
  tl (fun cls d H' => ∀ σ, wManyA K (fun _ _ _ _ => False) (endsQ Q) l cls d σ H') H (fun v H1 => 2 ≤ sizeLine ∧ ∀ p, H1 p = none → Q (.ref p) (upd H1 p (.tup [.str okS, v])))
theorem compl_gives {X : Cx} {Ng : List Str} {x a q okS : Str} {sg : Scope} {g : Addr} {cdg : Value} {j k : Nat} {p0 p1 p2 p3 p4 p8 : Pos} {h₀ : ExceptHandler} {hds : List ExceptHandler} {l : List ClauseA} (h0 : ∀ f : Addr, (L2.start Ng [V.ref f])[0]? = some (some (V.ref f))) (nd : Ng.Nodup)
    (hh : ∀ (s : Shared) (H : Hp), HdsA (cxOf C8.CX0 X.prog X.w X.K X.mg X.base Ng x sg g cdg X.A X.stack s H C8.E0).nox (h₀ :: hds) l) :
    GivesTo X Ng x sg g cdg [.Try [.Return (some (.Tuple [.Constant (.str okS) j p0, .Call (.Name a p1) [] [] p2] k p3)) p4] (h₀ :: hds) [] [] p8] a q (TTc X.K l okS) := by
  intro f c' s H Q tl act hc h
  refine ⟨_, pss_one (ps_try_manyA (X := (cxOf C8.CX0 X.prog X.w X.K X.mg X.base Ng x sg g cdg X.A X.stack s H C8.E0).nox)
      (tb := fun W D σ H => ∃ Ech : XK, (∀ cls d σ' H', Ech cls d H' → W cls d σ' H') ∧ σ[0]? = some (some (.ref f)) ∧ H c' = some (CodeO c' q) ∧ tl Ech H (fun v H1 => 2 ≤ sizeLine ∧ ∀ p, H1 p = none → D.rt (.ref p) (upd H1 p (.tup [.str okS, v]))))
      rfl rfl nd LamX.takes0 (fun W pn xe tk _ => ?_) (hh s H)), ?_⟩
  · refine ⟨fun pins s' σ H' D I h' => ?_⟩
    obtain ⟨Ech, hW, h1, h2, h3⟩ := h'
    have hp := act W pn xe Ech p1 p2 tk hW
    have hq := pss_one (ps_ret (pos := p4) (pe_tup (x1 := k) (pos := p3) (pa_cons (pe_str (x := okS) (j := j) (pos := p0)) (pa_cons hp pa_nil))))
    exact hq.run pins s' σ H' D I ⟨h1, h2, h3⟩
  · exact ⟨fun cls d H' => ∀ σ, wManyA X.K (fun _ _ _ _ => False) (endsQ Q) l cls d σ H', fun cls d σ' H' w => w σ', h0 f, hc, h⟩
def complF (okS : Str) (ex : Nat → Nat → Option Bool) (hs : List HdD) (r : ResE D) : ResE D := match r with
  | .ok d s => .ok (.tup [.str okS, d]) s
  | .exc c ds s => noX (runH ex c ds s hs)
  | .bad => .bad
def eCompl (okS : Str) (ex : Nat → Nat → Option Bool) (hs : List HdD) (fb : EF) : EF := fun ρ s => complF okS ex hs (fb ρ s)
theorem dp_lam {X : Cx} {g : Gm} {W : WX} {x a okS : Str} {gA c P : Addr} {k : Nat} {pg : Arguments} {bg : List Stmt} {sg : Scope} {dV kV doc pm cdv ct oc : Value} {an od : Option Addr} {osl : Array (Option Value)} {Ng : List Str} {ex : Nat → Nat → Option Bool}
    {params : Arguments} {body : Expr} {scope : Scope} {t : XK → TE} {fb : EF} {p lpos pos p0 p1 p2 p3 p4 p8 : Pos} {j kk : Nat} {h₀ : ExceptHandler} {hds : List ExceptHandler} {l : List ClauseA} {hs : List HdD} (hm : X.mg x = some (.ref gA)) (hk : PySem.W.keepIn X.K (.ref gA) = true)
    (lk : X.K.lookup gA = some ⟨oc, od, .func (PySem.W.fnOf x x pg bg sg dV kV doc pm an cdv ct), osl⟩) (hcg : PySem.W.codeIn X.K cdv x = true) (hb : L2.Binds X.K (PySem.W.fnOf x x pg bg sg dV kV doc pm an cdv ct) [a] []) (Sg : FnScope Ng [a] sg) (hNg : Ng[0]? = some a) (hva : Vis sg a)
    (hbg : bg = [.Try [.Return (some (.Tuple [.Constant (.str okS) j p0, .Call (.Name a p1) [] [] p2] kk p3)) p4] (h₀ :: hds) [] [] p8])
    (h0 : ∀ f : Addr, (L2.start Ng [V.ref f])[0]? = some (some (V.ref f))) (hx : ExOk X.K g ex)
    (hh : ∀ (s : Shared) (H : Hp), DHs (cxOf C8.CX0 X.prog X.w X.K X.mg X.base Ng x sg gA cdv X.A X.stack s H C8.E0).nox g Ng.length (h₀ :: hds) l hs)
    (TB : LamX.TabB X.base X.mg c P) (hcode : X.env.code = .ref c) (hmT : (P, X.env.qual ++ "<lambda>") ∈ g.tb) (hu : ∀ p ∈ g.tb, p.1 = P → p.2 = X.env.qual ++ "<lambda>") (hr : Room (k + 2) X.A) (L : LamS X.env.scope scope) (hdef : defaultsOf params X.env = ([], []))
    (hbind : ∀ (q : Str) (cl : List (Str × Addr)) (pm cv ctv : Value), bindArgs (PySem.W.kla_fn "<lambda>" q params body scope cl pm cv ctv) ⟨[], []⟩ = pure [])
    (B : ∀ (A : Around) (outer : List Env) (s : Shared) (H : Hp) (E : XK) (f c' : Addr), Room k (A.deeper (lamEnv X scope s.heap.objs.size f c')) → DP (lamCx X A outer s H E scope f c') g (fun c d _ H => E c d H) body (t E) fb)
    (hg : Gl X x := by rfl) (hdb : (x == ("__debug__" : Str)) = false := by decide) (hd : (a == ("__debug__" : Str)) = false := by decide) (hcd : (a == ("__classdict__" : Str)) = false := by decide) :
    DP X g W (.Call (.Name x p) [.Lambda params body scope lpos] [] pos) (tLam g.tb (TTc X.K l okS) t) (eCompl okS ex hs fb) := by
  subst hbg
  refine ⟨pe_lamcall hg hm hk lk hcg hb Sg hNg hva (compl_gives h0 Sg.nd fun s H => (hh s H).hds) TB hcode hmT hu hr L hdef hbind (fun A outer s H E f c' r => (B A outer s H E f c' r).pe) hdb hd hcd, fun G H σ ρ s Q f h => ?_⟩
  refine ⟨f.pen.tb, fun H1 eN t1 => ?_⟩
  have gh : Same G H1 := fun b o e => eN b o (f.gh b o e) fun ps z => f.pen.nt b ps (by rw [e, z])
  have st : Stp g G H G H1 := ⟨Same.refl _, gh, fun b o e _ n => eN b o e n, fun b e _ => e, fun b ⟨o, e, n⟩ => ⟨o, eN b o e n, n⟩⟩
  have pn1 : PenOk g G H1 s := ⟨fun b e => by
    have p := f.pen b e
    exact ⟨p.no, p.cs, eN b _ p.at_ fun ps z => by cases z⟩, t1, f.pen.nt⟩
  have f1 := f.step st pn1
  have BB := B X.A [] X.s_0 X.H_0 (fun cls d H' => ∀ σ, wManyA X.K (fun _ _ _ _ => False) (endsQ Q) l cls d σ H') 0 0 ((hr.mono (by omega)).deeper _)
  refine BB.den G H1 σ ρ s _ f1 ?_
  show OutG X.K g _ G H1 σ (RD X.K g) _ (fb ρ s)
  unfold eCompl at h
  have o := h.from pn1 st
  cases q : fb ρ s with
  | bad => rw [q] at o; exact o.elim
  | ok d s1 =>
    rw [q] at o
    intro v G2 H2 st2 pn2 r2
    refine ⟨by decide, fun p hp => ?_⟩
    have sn := StpS.new (o := .tup [.str okS, v]) st2.gh hp
    have rr : Reps X.K g G2 [.str okS, v] [.str okS, d] := Reps.cons (.str _) (Reps.cons r2 Reps.nil)
    have rr' := rr.mono sn.gg
    exact o (.ref p) _ _ (st2.trans sn.stp fun x e _ => pn2.there e) (sn.pen pn2) (.tup (SqT.of upd_same) rr'.1 rr'.2)
  | exc c' ds s1 =>
    rw [q] at o
    intro od G2 H2 st2 pn2 xr σ'
    refine DHs.den (Z := (cxOf C8.CX0 X.prog X.w X.K X.mg X.base Ng x sg gA cdv X.A X.stack X.s_0 X.H_0 C8.E0).nox) (σ := σ') hx (hh X.s_0 X.H_0) rfl st2.gh pn2 xr ?_
    have o2 : OutG X.K g W G H1 σ (RD X.K g) Q (noX (runH ex c' ds s1 hs)) := o
    cases q2 : runH ex c' ds s1 hs with
    | ok d s2 =>
      rw [q2] at o2
      exact fun v G3 H3 st3 pn3 r3 => o2 v G3 H3 (st2.trans st3 fun x e _ => pn2.there e) pn3 r3
    | exc c2 es s2 => rw [q2] at o2; exact o2.elim
    | bad => rw [q2] at o2; exact o2.elim
end Zp
set_option Elab.async false
set_option linter.all false
set_option maxRecDepth 100000
set_option maxHeartbeats 1000000
/-! Den15: ==, != by an own __eq__; isinstance of an own class. -/
namespace Zp
open PySem PySem.Spec PyProof.Rows L2
theorem ns_some {K : PySem.W.Frag} {h : Heap} {N : Addr} {m : Str → Option Value} {n : Str} {v : Value} (X : K.In h) (G : h.Ns N m) (e : PySem.W.nsIn K N n = some (some v)) : m n = some v := by
  obtain ⟨o, es, ep, ho, hd, _, hf⟩ := G
  unfold PySem.W.nsIn at e
  split at e
  · rename_i c d es' n' sl q
    have z := X _ _ q
    rw [ho] at z
    cases z
    cases hd
    split at e
    · rename_i en he
      cases e
      rw [← hf]
      unfold nsFind findBy
      rw [← Array.find?_toList, he]
      rfl
    · split at e <;> cases e
  · cases e
/-- a class with an __eq__ of its own -/
structure EqG (K : PySem.W.Frag) (g : Gm) (c : Nat) (f : Addr) : Prop where
  ie : PySem.W.findIn K (.ref (g.cl c)) "__eq__" = some (some (.ref f))
  fn : PySem.W.isFn K (.ref f) = true
  nf : ∀ t ∈ ["NoneType", "bool", "int", "str", "tuple", "list"], PySem.W.notFirst K (g.cl c) (.type t) = true
  cls : ∃ nm q N bs hdct sn sub ab col dd k0 k1 k2 k3 k5 newId, K.lookup (g.cl c) = some (excClassObj nm q (g.cl c) N bs [.type "object"] hdct sn sub ab col dd k0 k1 k2 k3 k5 newId) ∧ PySem.W.nsOkIn K N = true ∧ PySem.W.nsIn K N "__eq__" = some (some (.ref f)) ∧ PySem.W.nsIn K N "__ne__" = some none
/-- what isinstance, type want of a class -/
structure ObjK (K : PySem.W.Frag) (g : Gm) (c : Nat) : Prop where
  cl : Cls K (g.cl c)
  ha : PySem.W.findIn K (.ref (g.cl c)) "__class__" = some (some (.builtin "object.__class__"))
  hn : PySem.W.specialIn K (.builtin "object.__class__") "__get__" = some (some (.builtin "getset_descriptor.__get__"))
  ht : PySem.W.takesIn K (.builtin "object.__class__") = some true
  hm : PySem.W.mroIn K (g.cl c) (.type "object") = some true
theorem fn_get {K : PySem.W.Frag} {h : Heap} {f : Addr} (X : K.In h) (e : PySem.W.isFn K (.ref f) = true) : ∃ of, h.get? f = some of ∧ of.cls = .type "function" := by
  have e' : (K.lookup f).map (·.cls) = some (.type "function") := beq_iff_eq.mp e
  cases z : K.lookup f with
  | none => rw [z] at e'; cases e'
  | some of => rw [z] at e'; exact ⟨of, X _ _ z, Option.some.inj e'⟩
section
variable {X : Cx} {g : Gm} {W : WX} {k : Nat} {f : Addr} {fd : FuncData} {ps : List Str} {c : Nat} {sp : Sp}
/-- x == y, x an object of the class C -/
def rEqO (K : PySem.W.Frag) (C : Addr) (sp : Sp) : R2 := fun x y H Q => ∃ a dx fs t, x = .ref a ∧ H a = some (.ins C dx fs) ∧ TyX K H y t ∧ PySem.W.notFirst K C t = true ∧ sp [x, y] H (fun v H' => ∃ b, v = .bl b ∧ Q (.bl b) H') (fun _ _ _ => False)
def rNeO (K : PySem.W.Frag) (C : Addr) (sp : Sp) : R2 := fun x y H Q => ∃ a dx fs b dy gs, x = .ref a ∧ y = .ref b ∧ H a = some (.ins C dx fs) ∧ H b = some (.ins C dy gs) ∧ sp [x, y] H (fun v H' => ∃ b, v = .bl b ∧ Q (.bl !b) H') (fun _ _ _ => False)
theorem run_two {A : Around} {pins : List (Addr × Obj)} {σ : L2.St} {H : Hp} {s : Shared} {Q : VK} {us : List Value} {vs : List V} (F : FnOk X.prog X.w X.K X.mg X.base (L2.CX X.prog X.w) k f fd ps sp) (hA : A.frames = X.A.frames) (hr : Room k A) (hb : Binds X.K fd ps []) (I : Inv X pins σ H s) (r : Vals vs us) (h : sp vs H Q fun _ _ _ => False) :
    wpAny (model X.prog X.w) A (call (.ref f) us) (EP X pins σ Q) X.xe s := by
  have hl : us.length = ps.length := by rw [← r.length]; exact F.len _ _ _ _ h
  have b := hb s us I.kIn (by rw [List.append_nil]; exact hl)
  rw [List.append_nil] at b
  have e0 : Env0 X.prog X.w X.K X.mg X.base A X.stack s H := by
    have e := I.env0
    exact ⟨by rw [hA]; exact e.frames, e.mod, e.bs, e.bsz, e.funs, e.frf, e.hok, e.bare⟩
  refine wpAny_call (codeAny_mono (F.run A X.stack s H ⟨us, []⟩ us vs Q _ hr e0 b r h) fun r s' hq => ?_)
  cases r with
  | error e => exact passes_call LamX.takes0 (fun _ _ _ _ z => z.elim) pins σ H s e s' I hq
  | ok fl =>
    cases fl with
    | ret u => exact I.after hq
    | next => exact False.elim hq
    | brk => exact False.elim hq
    | cont => exact False.elim hq
theorem op_eqO (T : EqG X.K g c f) (F : FnOk X.prog X.w X.K X.mg X.base (L2.CX X.prog X.w) k f fd ps sp) (hr : Room (k + 1) X.A) (hb : Binds X.K fd ps []) : OpR X (compareOp .Eq) (rEqO X.K (g.cl c) sp) := by
  intro pins s σ H x y v u Q I rx ry h
  obtain ⟨a, dx, fs, t, rfl, ea, ty, hn, h⟩ := h
  cases rx
  obtain ⟨P, Z, hP, _⟩ := kit_of I ry ty
  obtain ⟨mA, J, _⟩ := ins_get I.hok ea
  obtain ⟨od, J, _⟩ := J.look
  obtain ⟨m, hF⟩ := I.fr
  show wpAny (model X.prog X.w) X.A (richCompare .Eq (.ref a) u) (EP X pins σ Q) X.xe s
  refine PySem.W.cmp_K (op := .Eq) (tb := t) hr.units0 hF I.ok.mod.kin J (Z.ty _ _ I.kIn hP) hn T.ie T.fn ?_
  refine wpAny_mono (run_two F rfl (hr.mono (by omega)) hb I (us := [.ref a, u]) (vs := [V.ref a, y]) (.cons rfl (.cons ry .nil)) h) (fun r s' q => ?_) fun _ _ z => z
  obtain ⟨w, H', I', rw', b, ew, q⟩ := q
  subst ew
  cases rw'
  exact ⟨.bl b, H', I', rfl, q⟩
theorem op_neO (T : EqG X.K g c f) (F : FnOk X.prog X.w X.K X.mg X.base (L2.CX X.prog X.w) k f fd ps sp) (hr : Room (k + 1) X.A) (hb : Binds X.K fd ps []) : OpR X (compareOp .NotEq) (rNeO X.K (g.cl c) sp) := by
  intro pins s σ H x y v u Q I rx ry h
  obtain ⟨a, dx, fs, b, dy, gs, rfl, rfl, ea, eb, h⟩ := h
  cases rx
  cases ry
  obtain ⟨mA, J, _⟩ := ins_get I.hok ea
  obtain ⟨mB, J2, _⟩ := ins_get I.hok eb
  obtain ⟨od, J, _⟩ := J.look
  obtain ⟨od2, J2, _⟩ := J2.look
  obtain ⟨nm, q, N, bs, hdct, sn, sub, ab, col, dd, k0, k1, k2, k3, k5, newId, hC, hok, he, hne⟩ := T.cls
  have hN : s.heap.Ns N (s.heap.nsMap N) := .of_isNs (PySem.W.isNs_of_in I.kIn hok)
  obtain ⟨of, hof, hofc⟩ := fn_get I.kIn T.fn
  have O : s.heap.OwnEqNoNe a (g.cl c) f "object" [.type "object"] :=
    ⟨_, of, nm, q, N, bs, hdct, sn, sub, ab, col, dd, k0, k1, k2, k3, k5, newId, _, some (.builtin "object.__eq__"), J.at_, J.cls, I.kIn _ _ hC, hN, ns_some I.kIn hN he, hof, hofc, PySem.F.cmp_object.mro, PySem.F.cmp_object.eq.lookup, PySem.W.ns_none_of I.kIn hN hne⟩
  have goal := compareOp_ne_ownEq (prog := X.prog) (w := X.w) (A := X.A) (E := X.xe) (h := s.heap) (g := s.gens) (d := s.drawn) (t := s.toks) (os := s.os) PySem.F.cmp_object O J2.at_ J2.cls (by have := hr.un; omega) (Q := EP X pins σ Q)
    (wpAny_mono (run_two (A := X.A.in1) F rfl hr.in1 hb I (us := [.ref a, .ref b]) (vs := [V.ref a, V.ref b]) (.cons rfl (.cons rfl .nil)) h) (fun r s' q => ?_) fun _ _ z => z)
  · exact goal
  · obtain ⟨w, H', I', rw', b, ew, q⟩ := q
    subst ew
    cases rw'
    exact ⟨b, rfl, .bl !b, H', I', rfl, q⟩
end
def isC (c : Nat) : D → Bool
  | .obj c' _ => decide (c' = c)
  | _ => false
def notP (c : Nat) : D → Bool
  | .obj c' _ => decide (c' = c)
  | .pen => false
  | _ => true
def bK (f : Bool → Bool) : D → PenS → ResE D := fun d s => match d with
  | .bl b => .ok (.bl (f b)) s
  | _ => .bad
def eEqO (c : Nat) (fn : FF) (fa fb : EF) : EF := fun ρ s => (fa ρ s).bind fun a s1 => (fb ρ s1).bind fun b s2 => if (isC c a && notP c b) = true then (noX (fn [a, b] s2)).bind (bK id) else .bad
def eNeO (c : Nat) (fn : FF) (fa fb : EF) : EF := fun ρ s => (fa ρ s).bind fun a s1 => (fb ρ s1).bind fun b s2 => if (isC c a && isC c b) = true then (noX (fn [a, b] s2)).bind (bK not) else .bad
section
variable {X : Cx} {g : Gm} {W : WX} {k : Nat} {f : Addr} {fd : FuncData} {ps : List Str} {c : Nat} {fn : FF} {a b : Expr} {ta tb : TE} {fa fb : EF} {pos : Pos}
theorem isC_ins {K : PySem.W.Frag} {G H : Hp} {v : V} {d : D} (r : Rep K g G v d) (h : isC c d = true) (e : Same G H) : ∃ p dx fs, v = .ref p ∧ H p = some (.ins (g.cl c) dx fs) := by
  cases r with
  | obj vv h2 hn hf hl hr =>
    have ec := of_decide_eq_true h
    subst ec
    exact ⟨_, _, _, rfl, e _ _ h2⟩
  | _ => cases h
theorem notP_ty {K : PySem.W.Frag} {G H : Hp} {v : V} {d : D} (O : ObjK K g c) (T : EqG K g c f) (r : Rep K g G v d) (h : notP c d = true) (e : Same G H) : ∃ t, TyX K H v t ∧ PySem.W.notFirst K (g.cl c) t = true := by
  by_cases hc : isC c d = true
  · obtain ⟨p, dx, fs, rfl, ei⟩ := isC_ins r hc e
    exact ⟨.ref (g.cl c), .base (.ins ei O.cl O.ha O.hn O.ht O.hm), by simp [PySem.W.notFirst]⟩
  · have : ∃ t, tyN d = some t ∧ t ∈ ["NoneType", "bool", "int", "str", "tuple", "list"] := by
      cases d with
      | obj c' xs => exact absurd h hc
      | pen => cases h
      | non => exact ⟨_, rfl, by decide⟩
      | bl b => exact ⟨_, rfl, by decide⟩
      | int i => exact ⟨_, rfl, by decide⟩
      | str x => exact ⟨_, rfl, by decide⟩
      | tup xs => exact ⟨_, rfl, by decide⟩
      | lst xs => exact ⟨_, rfl, by decide⟩
    obtain ⟨t, ht, hm⟩ := this
    exact ⟨.type t, ty_rep r ht e, T.nf t hm⟩
theorem own_res {K : PySem.W.Frag} {G H : Hp} {σ : L2.St} {d1 d2 : D} {s : PenS} {v1 v2 : V} {h : Bool → Bool} {Q : VK} (e : Same G H) (pn : PenOk g G H s) (r1 : Rep K g G v1 d1) (r2 : Rep K g G v2 d2)
    (o : OutG K g W G H σ (RD K g) Q ((noX (fn [d1, d2] s)).bind (bK h))) : spD K g 2 fn [v1, v2] H (fun v H' => ∃ b, v = .bl b ∧ Q (.bl (h b)) H') (fun _ _ _ => False) := by
  refine ⟨rfl, G, [d1, d2], s, e, pn, Reps.cons r1 (Reps.cons r2 Reps.nil), ?_⟩
  cases q : fn [d1, d2] s with
  | ok d s1 =>
    rw [q] at o
    intro v G1 H1 st1 pn1 rv
    have o' : OutG K g W G H σ (RD K g) Q (bK h d s1) := o
    cases rv with
    | bl b => exact ⟨b, rfl, o' _ G1 H1 st1 pn1 (.bl _)⟩
    | _ => exact o'.elim
  | exc c ds s1 => rw [q] at o; exact o.elim
  | bad => rw [q] at o; exact o.elim
theorem den_eqO (O : ObjK X.K g c) (T : EqG X.K g c f) (A : DP X g W a ta fa) (B : DP X g W b tb fb) : ∀ G H σ ρ s Q, Fq X.K g G H σ ρ s → OutG X.K g W G H σ (RD X.K g) Q (eEqO c fn fa fb ρ s) → tOp (rEqO X.K (g.cl c) (spD X.K g 2 fn)) ta tb σ H Q := fun G H σ ρ s Q f h =>
  A.den G H σ ρ s _ f (OutG.bind h fun d1 s1 v1 G1 H1 st1 pn1 r1 h1 => B.den G1 H1 σ ρ s1 _ (f.step st1 pn1) (OutG.bind h1 fun d2 s2 v2 G2 H2 st2 pn2 r2 h2 => by
    split at h2
    · rename_i z
      rw [Bool.and_eq_true] at z
      obtain ⟨p, dx, fs, rfl, ei⟩ := isC_ins (r1.mono st2.gg) z.1 st2.gh
      obtain ⟨t, ty, nf⟩ := notP_ty O T r2 z.2 st2.gh
      exact ⟨p, dx, fs, t, rfl, ei, ty, nf, own_res st2.gh pn2 (r1.mono st2.gg) r2 h2⟩
    · exact h2.elim))
theorem den_neO (A : DP X g W a ta fa) (B : DP X g W b tb fb) : ∀ G H σ ρ s Q, Fq X.K g G H σ ρ s → OutG X.K g W G H σ (RD X.K g) Q (eNeO c fn fa fb ρ s) → tOp (rNeO X.K (g.cl c) (spD X.K g 2 fn)) ta tb σ H Q := fun G H σ ρ s Q f h =>
  A.den G H σ ρ s _ f (OutG.bind h fun d1 s1 v1 G1 H1 st1 pn1 r1 h1 => B.den G1 H1 σ ρ s1 _ (f.step st1 pn1) (OutG.bind h1 fun d2 s2 v2 G2 H2 st2 pn2 r2 h2 => by
    split at h2
    · rename_i z
      rw [Bool.and_eq_true] at z
      obtain ⟨p, dx, fs, rfl, ei⟩ := isC_ins (r1.mono st2.gg) z.1 st2.gh
      obtain ⟨p2, dy, gs, rfl, ei2⟩ := isC_ins r2 z.2 st2.gh
      exact ⟨p, dx, fs, p2, dy, gs, rfl, rfl, ei, ei2, own_res st2.gh pn2 (r1.mono st2.gg) r2 h2⟩
    · exact h2.elim))
theorem dp_eqO (O : ObjK X.K g c) (T : EqG X.K g c f) (F : FnOk X.prog X.w X.K X.mg X.base (L2.CX X.prog X.w) k f fd ps (spD X.K g 2 fn)) (hr : Room (k + 1) X.A) (hb : Binds X.K fd ps []) (A : DP X g W a ta fa) (B : DP X g W b tb fb) (hm : behindInMarks CmpOp.Eq b = false := by first | exact nomark _ | rfl) :
    DP X g W (.Compare a [.Eq] [b] pos) (tOp (rEqO X.K (g.cl c) (spD X.K g 2 fn)) ta tb) (eEqO c fn fa fb) := ⟨pe_cmpR (op_eqO T F hr hb) A.pe B.pe hm, den_eqO O T A B⟩
theorem dp_neO (T : EqG X.K g c f) (F : FnOk X.prog X.w X.K X.mg X.base (L2.CX X.prog X.w) k f fd ps (spD X.K g 2 fn)) (hr : Room (k + 1) X.A) (hb : Binds X.K fd ps []) (A : DP X g W a ta fa) (B : DP X g W b tb fb) (hm : behindInMarks CmpOp.NotEq b = false := by first | exact nomark _ | rfl) :
    DP X g W (.Compare a [.NotEq] [b] pos) (tOp (rNeO X.K (g.cl c) (spD X.K g 2 fn)) ta tb) (eNeO c fn fa fb) := ⟨pe_cmpR (op_neO T F hr hb) A.pe B.pe hm, den_neO A B⟩
theorem dt_of (A : DP X g W a ta fa) (P : PE X a ta → PT X a (tB ta)) : DT X g W a (tB ta) (tOf fa) := by
  refine ⟨P A.pe, fun G H σ ρ s Q f h => A.den G H σ ρ s _ f (OutG.bind h fun d s1 v G1 H1 st1 pn1 r1 h1 => ?_)⟩
  obtain ⟨k, hk⟩ := OutG.lift_some h1
  cases r1 with
  | bl b =>
    cases hk
    exact ⟨_, rfl, OutG.lift h1 pn1 rfl (StpS.refl st1.gh) rfl⟩
  | _ => cases hk
theorem dt_eqO (O : ObjK X.K g c) (T : EqG X.K g c f) (F : FnOk X.prog X.w X.K X.mg X.base (L2.CX X.prog X.w) k f fd ps (spD X.K g 2 fn)) (hr : Room (k + 1) X.A) (hb : Binds X.K fd ps []) (A : DP X g W a ta fa) (B : DP X g W b tb fb) (hm : behindInMarks CmpOp.Eq b = false := by first | exact nomark _ | rfl) :
    DT X g W (.Compare a [.Eq] [b] pos) (tTest (tOp (rEqO X.K (g.cl c) (spD X.K g 2 fn)) ta tb)) (tOf (eEqO c fn fa fb)) := by
  refine ⟨pt_cmpR (op_eqO T F hr hb) A.pe B.pe hm, fun G H σ ρ s Q f h => den_eqO O T A B G H σ ρ s _ f (OutG.bind h fun d s1 v G1 H1 st1 pn1 r1 h1 => ?_)⟩
  obtain ⟨k, hk⟩ := OutG.lift_some h1
  cases r1 with
  | bl b =>
    cases hk
    exact ⟨_, rfl, OutG.lift h1 pn1 rfl (StpS.refl st1.gh) rfl⟩
  | _ => cases hk
theorem dt_neO (T : EqG X.K g c f) (F : FnOk X.prog X.w X.K X.mg X.base (L2.CX X.prog X.w) k f fd ps (spD X.K g 2 fn)) (hr : Room (k + 1) X.A) (hb : Binds X.K fd ps []) (A : DP X g W a ta fa) (B : DP X g W b tb fb) (hm : behindInMarks CmpOp.NotEq b = false := by first | exact nomark _ | rfl) :
    DT X g W (.Compare a [.NotEq] [b] pos) (tTest (tOp (rNeO X.K (g.cl c) (spD X.K g 2 fn)) ta tb)) (tOf (eNeO c fn fa fb)) := by
  refine ⟨pt_cmpR (op_neO T F hr hb) A.pe B.pe hm, fun G H σ ρ s Q f h => den_neO A B G H σ ρ s _ f (OutG.bind h fun d s1 v G1 H1 st1 pn1 r1 h1 => ?_)⟩
  obtain ⟨k, hk⟩ := OutG.lift_some h1
  cases r1 with
  | bl b =>
    cases hk
    exact ⟨_, rfl, OutG.lift h1 pn1 rfl (StpS.refl st1.gh) rfl⟩
  | _ => cases hk
theorem mem_look {β : Type} {n : Nat} {b : β} : ∀ {l : List (Nat × β)}, l.lookup n = some b → (n, b) ∈ l
  | [], h => by simp at h
  | (m, x) :: l, h => by
    rw [List.lookup_cons] at h
    cases q : n == m with
    | true =>
      rw [q] at h
      cases h
      rw [beq_iff_eq.mp q]
      exact List.mem_cons_self
    | false =>
      rw [q] at h
      exact List.mem_cons_of_mem _ (mem_look h)
/-! ### isinstance(x, C) -/
/-- what classes answer: the class's number, and others' -/
structure IsiG (K : PySem.W.Frag) (g : Gm) (c : Nat) (os : List (Nat × Bool)) : Prop where
  no : ∀ t ∈ ["NoneType", "bool", "int", "str", "tuple", "list"], PySem.W.kitOne K (.type t) (.ref (g.cl c)) = some false
  os : ∀ p ∈ os, ObjK K g p.1 ∧ PySem.W.kitOne K (.ref (g.cl p.1)) (.ref (g.cl c)) = some p.2
def dIsC (os : List (Nat × Bool)) : D → Option D
  | .obj c' _ => (os.lookup c').map .bl
  | .pen => none
  | _ => some (.bl false)
theorem dp_isiC {n : Str} {p p2 : Pos} {os : List (Nat × Bool)} (T : IsiG X.K g c os) (hm : X.mg "isinstance" = none) (hn : X.mg n = some (.ref (g.cl c))) (A : DP X g W a ta fa) (hg : Gl X "isinstance" := by rfl) (hg2 : Gl X n := by rfl) (hnd : (n == ("__debug__" : Str)) = false := by decide)
    (he : starEach [a, .Name n p2] X.env = (false, eval a X.env) :: starEach [.Name n p2] X.env := by rfl) (he2 : starEach [.Name n p2] X.env = (false, eval (.Name n p2) X.env) :: starEach [] X.env := by rfl) (hpl : (backTo pos (starEach [.Name n p2] X.env)).any (·.1) = false := by rfl) :
    DP X g W (.Call (.Name "isinstance" p) [a, .Name n p2] [] pos) (tCB (rIsi X.K) (tCons ta (tCons (tC (.ref (g.cl c))) tNil))) (eUn (dIsC os) fa) := by
  refine ⟨pe_callB call_isi hg hm PyProof.Rows.boot_isinstance (pa_cons A.pe (pa_cons (pe_glob hg2 hn rfl hnd) pa_nil he2) he) (by decide) (by decide) he hpl, fun G H σ ρ s Q f h => A.den G H σ ρ s _ f (OutG.bind h fun d s1 v G1 H1 st1 pn1 r1 h1 => ?_)⟩
  obtain ⟨y, hy⟩ := OutG.lift_some h1
  by_cases ho : ∃ c' xs, d = .obj c' xs
  · obtain ⟨c', xs, rfl⟩ := ho
    have hy' := hy
    simp only [dIsC] at hy'
    cases e : os.lookup c' with
    | none => rw [e] at hy'; cases hy'
    | some b =>
      rw [e] at hy'
      cases hy'
      obtain ⟨O, ko⟩ := T.os (c', b) (mem_look e)
      obtain ⟨p, dx, fs, rfl, ei⟩ := isC_ins (c := c') r1 (decide_eq_true rfl) st1.gh
      exact ⟨.ref p, .ref (g.cl c), .ref (g.cl c'), .ref (g.cl c), b, rfl, .own _, .base (.ins ei O.cl O.ha O.hn O.ht O.hm), ko, OutG.lift h1 pn1 hy (StpS.refl st1.gh) (.bl b)⟩
  · have : ∃ t, tyN d = some t ∧ t ∈ ["NoneType", "bool", "int", "str", "tuple", "list"] ∧ y = .bl false := by
      cases d with
      | obj c' xs => exact absurd ⟨c', xs, rfl⟩ ho
      | pen => cases hy
      | non => cases hy; exact ⟨_, rfl, by decide, rfl⟩
      | bl b => cases hy; exact ⟨_, rfl, by decide, rfl⟩
      | int i => cases hy; exact ⟨_, rfl, by decide, rfl⟩
      | str x => cases hy; exact ⟨_, rfl, by decide, rfl⟩
      | tup xs => cases hy; exact ⟨_, rfl, by decide, rfl⟩
      | lst xs => cases hy; exact ⟨_, rfl, by decide, rfl⟩
    obtain ⟨t, ht, hm, rfl⟩ := this
    exact ⟨v, .ref (g.cl c), .type t, .ref (g.cl c), false, rfl, .own _, ty_rep r1 ht st1.gh, T.no t hm, OutG.lift h1 pn1 hy (StpS.refl st1.gh) (.bl false)⟩
end
end Zp
set_option Elab.async false
set_option linter.all false
set_option maxRecDepth 100000
set_option maxHeartbeats 1000000
/-! Den16: the pen of the draws. -/
namespace Zp
open PySem PySem.Spec PyProof.Rows L2
def ePen (i : Nat) (sel : PenS → Int) : EF := fun ρ s => match ρ[i]? with
  | some (.val .pen) => .ok (.int (sel s)) s
  | _ => .bad
def bCells (i : Nat) : BF := fun ρ s => match ρ[i]? with
  | some (.val .pen) => .ok (false, s.cells.map D.int) s
  | _ => .bad
def sPen (i : Nat) (up : PenS → Int → Option PenS) (fe : EF) : SF := fun ρ s => eS (fe ρ s) ρ fun d s1 => match ρ[i]? with
  | some (.val .pen) => match d with
    | .int v => match up s1 v with
      | some s2 => .nx ρ s2
      | none => .bad
    | _ => .bad
  | _ => .bad
theorem pen_slot {K : PySem.W.Frag} {g : Gm} {G H : Hp} {σ : L2.St} {ρ : List Sv} {s : PenS} {i : Nat} (q : Fq K g G H σ ρ s) (h : ρ[i]? = some (.val .pen)) : ∃ a, σ[i]? = some (some (.ref a)) ∧ g.pa = some a := by
  obtain ⟨v, h1, h2⟩ := q.val i _ h
  cases h2 with
  | pen e => exact ⟨_, h1, e⟩
theorem cells_rep {K : PySem.W.Frag} {g : Gm} {G : Hp} : ∀ ns : List Int, Reps K g G (ns.map V.int) (ns.map D.int)
  | [] => Reps.nil
  | n :: ns => Reps.cons (.int n) (cells_rep ns)
section
variable {X : Cx} {g : Gm} {W : WX} {e : Expr} {te : TE} {fe : EF} {p1 p2 p3 p4 pos : Pos} {j : Nat}
theorem dp_penI (i : Nat) {x k : Str} {sel : PenS → Int} (hu : X.A.units + 1 < cLine) (hk : ∀ l s, valV (penKv l s) (.inr k) = some (.int (sel s))) (hN : X.N[i]? = some x := by rfl) (hv : Vis X.env.scope x := by first | exact Or.inl rfl | exact Or.inr (Or.inl rfl) | exact Or.inr (Or.inr rfl)) (hd : (x == ("__debug__" : Str)) = false := by decide)
    (hcd : (x == ("__classdict__" : Str)) = false := by decide) (hs : NoSl (.Constant (.str k) j p2) := by exact fun _ _ => rfl) : DP X g W (.Subscript (.Name x p1) (.Constant (.str k) j p2) pos) (tDGet (tVar i) (tC (.str k))) (ePen i sel) := by
  refine ⟨pe_dget hu (pe_var hN hv hd hcd) pe_str hs, fun G H σ ρ s Q q h => ?_⟩
  unfold ePen at h
  split at h
  · rename_i hr
    obtain ⟨a, h1, h2⟩ := pen_slot q hr
    refine ⟨_, h1, a, .int (sel s), rfl, ?_, h _ G H (Stp.refl q.gh) q.pen (.int _)⟩
    have g1 := DGet.k (k := Sum.inr k) (q.pen a h2).at_
    rw [hk] at g1
    exact g1
  · exact h.elim
theorem db_cells (i : Nat) {x : Str} (hu : X.A.units + 1 < cLine) (hN : X.N[i]? = some x := by rfl) (hv : Vis X.env.scope x := by first | exact Or.inl rfl | exact Or.inr (Or.inl rfl) | exact Or.inr (Or.inr rfl)) (hd : (x == ("__debug__" : Str)) = false := by decide)
    (hcd : (x == ("__classdict__" : Str)) = false := by decide) (hs : NoSl (.Constant (.str "cells") j p2) := by exact fun _ _ => rfl) : DB X g W (.Subscript (.Name x p1) (.Constant (.str "cells") j p2) pos) (tDGet (tVar i) (tC (.str "cells"))) (bCells i) := by
  refine ⟨pe_dget hu (pe_var hN hv hd hcd) pe_str hs, fun G H σ ρ s Q q h => ?_⟩
  unfold bCells at h
  split at h
  · rename_i hr
    obtain ⟨a, h1, h2⟩ := pen_slot q hr
    have pa := q.pen a h2
    refine ⟨_, h1, a, .ref g.pl, rfl, DGet.k (k := Sum.inr "cells") pa.at_, h _ G H (Stp.refl q.gh) q.pen ⟨g.pl, _, rfl, ?_, cells_rep s.cells⟩⟩
    rw [if_neg Bool.false_ne_true]
    exact q.gh _ _ pa.cs
  · exact h.elim
theorem ds_pen (i : Nat) {x k : Str} {up : PenS → Int → Option PenS} (hu : X.A.units + 1 < cLine) (hk : ∀ l s v s', up s v = some s' → putK (penKv l s) (.inr k) (.int v) = penKv l s' ∧ s'.cells = s.cells) (A : DP X g W e te fe) (hN : X.N[i]? = some x := by rfl) (hv : Vis X.env.scope x := by first | exact Or.inl rfl | exact Or.inr (Or.inl rfl) | exact Or.inr (Or.inr rfl)) (hd : (x == ("__debug__" : Str)) = false := by decide)
    (hcd : (x == ("__classdict__" : Str)) = false := by decide) (hs : swapsWith e (some (.Subscript (.Name x p1) (.Constant (.str k) j p2) p3)) pos.line X.env = pure false := by rfl) : DS X g W (.Assign [.Subscript (.Name x p1) (.Constant (.str k) j p2) p3] e pos) (sDPut (tVar i) (tC (.str k)) te) (sPen i up fe) := by
  refine ⟨ps_dput hu (pe_var hN hv hd hcd) pe_str A.pe hs, fun G0 H0 G H σ ρ s Dn q o => A.den G H σ ρ s _ q.fq (OutS.bindE o q fun d s1 v G1 H1 st1 q1 r o1 => ?_)⟩
  split at o1
  · rename_i hr
    obtain ⟨a, h1, h2⟩ := pen_slot q1.fq hr
    have pa := q1.fq.pen a h2
    cases r with
    | int n =>
      simp only [] at o1
      split at o1
      · rename_i s2 hs2
        obtain ⟨e1, e2⟩ := hk g.pl s1 n s2 hs2
        refine ⟨_, h1, a, _, rfl, DPut.k (k := Sum.inr k) (v := .int n) pa.at_ (by show 5 < sizeLine; rw [sizeLine_eq]; omega), ?_⟩
        rw [e1]
        have sg : Same G1 (upd H1 a (.dK (penKv g.pl s2))) := fun b o e => by
          rw [upd_ne (ne_of_none e pa.no)]
          exact q1.fq.gh _ _ e
        refine o1 σ G1 _ (q1.step ⟨Same.refl _, sg, fun b o e n _ => ?_, fun b e _ => e, al_upd (fun ps z => by cases z) fun b l => l⟩ ⟨fun b e => ?_, tabs_upd pa.at_ (fun ps z => by cases z) (fun φ z => by cases z) q1.fq.pen.tb, q1.fq.pen.nt⟩)
        · rw [upd_ne (fun z => n (by rw [z]; exact h2))]
          exact e
        · have eb : b = a := by
            rw [h2] at e
            exact (Option.some.inj e).symm
          subst eb
          exact ⟨pa.no, by rw [e2]; exact pa.cs, upd_same⟩
      · exact o1.elim
    | _ => exact o1.elim
  · exact o1.elim
end
def upAt (s : PenS) (v : Int) : Option PenS := if 0 ≤ v then some { s with at_ := v.toNat } else none
def upDigits (s : PenS) (v : Int) : Option PenS := some { s with digits := v }
def upCount (s : PenS) (v : Int) : Option PenS := some { s with count := v }
def upFold (s : PenS) (v : Int) : Option PenS := some { s with fold := v }
theorem put_at : ∀ l s v s', upAt s v = some s' → putK (penKv l s) (.inr "at") (.int v) = penKv l s' ∧ s'.cells = s.cells := fun l s v s' h => by
  unfold upAt at h
  split at h
  · rename_i z
    cases h
    refine ⟨?_, rfl⟩
    show _ = [_, (_, V.int ((v.toNat : Nat) : Int)), _, _, _]
    rw [Int.toNat_of_nonneg z]
    rfl
  · cases h
theorem put_digits : ∀ l s v s', upDigits s v = some s' → putK (penKv l s) (.inr "digits") (.int v) = penKv l s' ∧ s'.cells = s.cells := fun l s v s' h => by
  cases h
  exact ⟨rfl, rfl⟩
theorem put_count : ∀ l s v s', upCount s v = some s' → putK (penKv l s) (.inr "count") (.int v) = penKv l s' ∧ s'.cells = s.cells := fun l s v s' h => by
  cases h
  exact ⟨rfl, rfl⟩
theorem put_fold : ∀ l s v s', upFold s v = some s' → putK (penKv l s) (.inr "fold") (.int v) = penKv l s' ∧ s'.cells = s.cells := fun l s v s' h => by
  cases h
  exact ⟨rfl, rfl⟩
theorem get_at (l : Addr) (s : PenS) : valV (penKv l s) (.inr "at") = some (.int s.at_) := rfl
theorem get_digits (l : Addr) (s : PenS) : valV (penKv l s) (.inr "digits") = some (.int s.digits) := rfl
theorem get_count (l : Addr) (s : PenS) : valV (penKv l s) (.inr "count") = some (.int s.count) := rfl
theorem get_fold (l : Addr) (s : PenS) : valV (penKv l s) (.inr "fold") = some (.int s.fold) := rfl
end Zp
set_option Elab.async false
set_option linter.all false
set_option maxRecDepth 100000
set_option maxHeartbeats 1000000
/-! Den17: what a def, a class, an error are, in one word each. -/
namespace Zp
open PySem PySem.Spec PyProof.Rows L2
/-- a def of the module: n values bound, the others by default dv -/
structure FDk (P : Program) (w : World) (K : PySem.W.Frag) (mg : Str → Option Value) (base : Heap) (g : Gm) (x : Str) (lev n : Nat) (dv : List D) (fn : FF) : Prop where
  ex : ∃ (f : Addr) (fd : FuncData) (ps : List Str) (dvs : List V) (us : List Value), mg x = some (.ref f) ∧ PySem.W.keepIn K (.ref f) = true ∧ Binds K fd ps us ∧ Vals dvs us ∧ (∀ G, Reps K g G dvs dv) ∧ FnOk P w K mg base (L2.CX P w) lev f fd ps (spD K g n fn)
section
variable {X : Cx} {g : Gm} {W : WX} {lev k n c : Nat} {dv : List D} {fn : FF} {x : Str} {p pos : Pos} {e : Expr} {es : List Expr} {t : TA} {fa : AF}
def tCallX (K : PySem.W.Frag) (sp : Sp) (E : L2.St → XK) (t : TA) : TE := fun σ H Q => t σ H fun vs H1 => ∃ dvs, sp (vs ++ dvs) H1 Q (E σ)
/-- f(..) -/
theorem dp_callF (F : FDk X.prog X.w X.K X.mg X.base g x lev n dv fn) (hr : Room lev X.A) (tk : Takes X W) (A : DA X g W (e :: es) t fa)
    (hg : Gl X x := by rfl) (hdb : (x == ("__debug__" : Str)) = false := by decide) (he : starEach (e :: es) X.env = (false, eval e X.env) :: starEach es X.env := by rfl) (hpl : (backTo pos (starEach es X.env)).any (·.1) = false := by rfl) :
    DP X g W (.Call (.Name x p) (e :: es) [] pos) (fun σ H Q => ∃ dvs us, Vals dvs us ∧ (∃ f fd ps, X.mg x = some (.ref f) ∧ PySem.W.keepIn X.K (.ref f) = true ∧ Binds X.K fd ps us ∧ FnOk X.prog X.w X.K X.mg X.base (L2.CX X.prog X.w) lev f fd ps (spD X.K g n fn)) ∧ tCallSD (spD X.K g n fn) dvs (WE W) t σ H Q) (eCallD n fn dv fa) := by
  refine ⟨⟨fun pins s σ H Q I h => ?_⟩, fun G H σ ρ s Q q h => ?_⟩
  · obtain ⟨dvs, us, hd, ⟨f, fd, ps, hm, hk, hb, F⟩, h⟩ := h
    exact (pe_callSD F hr hg hm hk hb hd (fun σ => passAt tk σ) A.pa hdb he hpl).run pins s σ H Q I h
  · obtain ⟨f, fd, ps, dvs, us, hm, hk, hb, hd, rd, F⟩ := F.ex
    exact ⟨dvs, us, hd, ⟨f, fd, ps, hm, hk, hb, F⟩, (dp_callD (p := p) (pos := pos) F hr hm hk hb hd rd tk A hg hdb he hpl).den G H σ ρ s Q q h⟩
/-- a class of one's own: its number, its __init__ -/
structure MKk (P : Program) (w : World) (K : PySem.W.Frag) (mg : Str → Option Value) (base : Heap) (g : Gm) (x : Str) (lev c n : Nat) (fn : FF) : Prop where
  ex : ∃ (f : Addr) (fd : FuncData) (ps : List Str), Mk K (g.cl c) f ∧ mg x = some (.ref (g.cl c)) ∧ Binds K fd ps [] ∧ FnOk P w K mg base (L2.CX P w) lev f fd ps (spI K g c n fn)
theorem dp_makeF (F : MKk X.prog X.w X.K X.mg X.base g x lev c n fn) (hr : Room (lev + 1) X.A) (tk : Takes X W) (A : DA X g W (e :: es) t fa)
    (hg : Gl X x := by rfl) (hdb : (x == ("__debug__" : Str)) = false := by decide) (he : starEach (e :: es) X.env = (false, eval e X.env) :: starEach es X.env := by rfl) (hpl : (backTo pos (starEach es X.env)).any (·.1) = false := by rfl) :
    DP X g W (.Call (.Name x p) (e :: es) [] pos) (fun σ H Q => (∃ f fd ps, Mk X.K (g.cl c) f ∧ X.mg x = some (.ref (g.cl c)) ∧ Binds X.K fd ps [] ∧ FnOk X.prog X.w X.K X.mg X.base (L2.CX X.prog X.w) lev f fd ps (spI X.K g c n fn)) ∧ tMakeS (g.cl c) (spI X.K g c n fn) (WE W) t σ H Q) (eCall n fn fa) := by
  refine ⟨⟨fun pins s σ H Q I h => ?_⟩, fun G H σ ρ s Q q h => ?_⟩
  · obtain ⟨⟨f, fd, ps, M, hm, hb, F⟩, h⟩ := h
    exact (pe_makeS M F hr hg hm hb (fun σ => passAt tk σ) A.pa hdb he hpl).run pins s σ H Q I h
  · obtain ⟨f, fd, ps, M, hm, hb, F⟩ := F.ex
    exact ⟨⟨f, fd, ps, M, hm, hb, F⟩, (dp_make (p := p) (pos := pos) M F hr hm hb tk A hg hdb he hpl).den G H σ ρ s Q q h⟩
/-- an __eq__ of one's own -/
structure EQk (P : Program) (w : World) (K : PySem.W.Frag) (mg : Str → Option Value) (base : Heap) (g : Gm) (lev c : Nat) (fn : FF) : Prop where
  ex : ∃ (f : Addr) (fd : FuncData) (ps : List Str), ObjK K g c ∧ EqG K g c f ∧ Binds K fd ps [] ∧ FnOk P w K mg base (L2.CX P w) lev f fd ps (spD K g 2 fn)
end
section
variable {X : Cx} {g : Gm} {W : WX} {lev c : Nat} {fn : FF} {a b : Expr} {ta tb : TE} {fa fb : EF} {pos : Pos}
abbrev EqX (X : Cx) (g : Gm) (lev c : Nat) (fn : FF) : Prop := EQk X.prog X.w X.K X.mg X.base g lev c fn
theorem dp_eqF (F : EQk X.prog X.w X.K X.mg X.base g lev c fn) (hr : Room (lev + 1) X.A) (A : DP X g W a ta fa) (B : DP X g W b tb fb) (hm : behindInMarks CmpOp.Eq b = false := by first | exact nomark _ | rfl) :
    DP X g W (.Compare a [.Eq] [b] pos) (fun σ H Q => EqX X g lev c fn ∧ tOp (rEqO X.K (g.cl c) (spD X.K g 2 fn)) ta tb σ H Q) (eEqO c fn fa fb) := by
  refine ⟨⟨fun pins s σ H Q I h => ?_⟩, fun G H σ ρ s Q q h => ?_⟩
  · obtain ⟨⟨f, fd, ps, O, T, hb, F⟩, h⟩ := h
    exact (pe_cmpR (op_eqO T F hr hb) A.pe B.pe hm).run pins s σ H Q I h
  · obtain ⟨f, fd, ps, O, T, hb, F'⟩ := F.ex
    exact ⟨F, den_eqO O T A B G H σ ρ s Q q h⟩
theorem dp_neF (F : EQk X.prog X.w X.K X.mg X.base g lev c fn) (hr : Room (lev + 1) X.A) (A : DP X g W a ta fa) (B : DP X g W b tb fb) (hm : behindInMarks CmpOp.NotEq b = false := by first | exact nomark _ | rfl) :
    DP X g W (.Compare a [.NotEq] [b] pos) (fun σ H Q => EqX X g lev c fn ∧ tOp (rNeO X.K (g.cl c) (spD X.K g 2 fn)) ta tb σ H Q) (eNeO c fn fa fb) := by
  refine ⟨⟨fun pins s σ H Q I h => ?_⟩, fun G H σ ρ s Q q h => ?_⟩
  · obtain ⟨⟨f, fd, ps, O, T, hb, F⟩, h⟩ := h
    exact (pe_cmpR (op_neO T F hr hb) A.pe B.pe hm).run pins s σ H Q I h
  · exact ⟨F, den_neO A B G H σ ρ s Q q h⟩
theorem tof_den {K : PySem.W.Frag} (A : ∀ G H σ ρ s Q, Fq K g G H σ ρ s → OutG K g W G H σ (RD K g) Q (fa ρ s) → ta σ H Q) : ∀ G H σ ρ s Q, Fq K g G H σ ρ s → OutG K g W G H σ RT Q (tOf fa ρ s) → tTest ta σ H Q := fun G H σ ρ s Q f h => A G H σ ρ s _ f (OutG.bind h fun d s1 v G1 H1 st1 pn1 r1 h1 => by
  obtain ⟨k, hk⟩ := OutG.lift_some h1
  cases r1 with
  | bl b =>
    cases hk
    exact ⟨_, rfl, OutG.lift h1 pn1 rfl (StpS.refl st1.gh) rfl⟩
  | _ => cases hk)
theorem dt_eqF (F : EQk X.prog X.w X.K X.mg X.base g lev c fn) (hr : Room (lev + 1) X.A) (A : DP X g W a ta fa) (B : DP X g W b tb fb) (hm : behindInMarks CmpOp.Eq b = false := by first | exact nomark _ | rfl) :
    DT X g W (.Compare a [.Eq] [b] pos) (fun σ H Q => EqX X g lev c fn ∧ tTest (tOp (rEqO X.K (g.cl c) (spD X.K g 2 fn)) ta tb) σ H Q) (tOf (eEqO c fn fa fb)) := by
  refine ⟨⟨fun pins s σ H Q I h => ?_⟩, fun G H σ ρ s Q q h => ?_⟩
  · obtain ⟨⟨f, fd, ps, O, T, hb, F⟩, h⟩ := h
    exact (pt_cmpR (op_eqO T F hr hb) A.pe B.pe hm).run pins s σ H Q I h
  · obtain ⟨f, fd, ps, O, T, hb, F'⟩ := F.ex
    exact ⟨F, tof_den (den_eqO O T A B) G H σ ρ s Q q h⟩
theorem dt_neF (F : EQk X.prog X.w X.K X.mg X.base g lev c fn) (hr : Room (lev + 1) X.A) (A : DP X g W a ta fa) (B : DP X g W b tb fb) (hm : behindInMarks CmpOp.NotEq b = false := by first | exact nomark _ | rfl) :
    DT X g W (.Compare a [.NotEq] [b] pos) (fun σ H Q => EqX X g lev c fn ∧ tTest (tOp (rNeO X.K (g.cl c) (spD X.K g 2 fn)) ta tb) σ H Q) (tOf (eNeO c fn fa fb)) := by
  refine ⟨⟨fun pins s σ H Q I h => ?_⟩, fun G H σ ρ s Q q h => ?_⟩
  · obtain ⟨⟨f, fd, ps, O, T, hb, F⟩, h⟩ := h
    exact (pt_cmpR (op_neO T F hr hb) A.pe B.pe hm).run pins s σ H Q I h
  · exact ⟨F, tof_den (den_neO A B) G H σ ρ s Q q h⟩
theorem dt_in {op : CmpOp} {fl : BF} (neg : Bool) (ho : OpR X (compareOp op) (rIn X.K neg)) (A : DP X g W a ta fa) (B : DB X g W b tb fl) (hm : behindInMarks op b = false := by first | exact nomark _ | rfl) : DT X g W (.Compare a [op] [b] pos) (tTest (tOp (rIn X.K neg) ta tb)) (tOf (eEB (dIn neg) fa fl)) :=
  ⟨pt_cmpR ho A.pe B.pe hm, tof_den (dp_in (pos := pos) neg ho A B hm).den⟩
/-- [..] * n -/
def dRepL (ds : List D) : D → Option (List D)
  | .int k => if (decide (-(2 ^ 63) ≤ k) && decide (k < 2 ^ 63) && szB (ds.length * k.toNat)) = true then some (List.replicate k.toNat ds).flatten else none
  | _ => none
def oRep (fo : AF) (fb : EF) : AF := fun ρ s => (fo ρ s).bind fun ds s1 => (fb ρ s1).bind fun k s2 => lift (dRepL ds k) s2
theorem do_rep {fo : AF} (A : DO X g W a ta fo) (B : DP X g W b tb fb) : DO X g W (.BinOp a .Mult b pos) (tOp rRep ta tb) (oRep fo fb) := by
  refine ⟨pe_op op_rep A.pe B.pe, fun G H σ ρ s Q f h => A.den G H σ ρ s _ f (OutG.bind h fun ds s1 v1 G1 H1 st1 pn1 r1 h1 => B.den G1 H1 σ ρ s1 _ (f.step st1 pn1) (OutG.bind h1 fun d2 s2 v2 G2 H2 st2 pn2 r2 h2 => ?_))⟩
  obtain ⟨y, hy⟩ := OutG.lift_some h2
  obtain ⟨p, vs, rfl, q1, q2, q3, q4, q5⟩ := r1
  cases r2 with
  | int k =>
    have hy' := hy
    simp only [dRepL] at hy'
    split at hy'
    · rename_i z
      cases hy'
      rw [Bool.and_eq_true, Bool.and_eq_true, decide_eq_true_eq, decide_eq_true_eq] at z
      have e1 : H2 p = some (.lst vs) := st2.hh _ _ q1 q4 fun ps z => by cases z
      refine ⟨p, _, _, rfl, rfl, e1, z.1.1, z.1.2, by rw [q5.1]; exact szB_le z.2, fun n hn => OutG.lift h2 pn2 hy (StpS.newO st2.gh hn) ⟨n, _, rfl, upd_same, st2.gh.free hn, ?_, fun e => pn2.there e hn, (Reps.rep q5 k.toNat).mono st2.gg⟩⟩
      exact (st1.trans st2 fun x e _ => pn1.there e).fr hn
    · cases hy'
  | _ => cases hy
/-- an error of one's own is raised -/
structure BDk (P : Program) (K : PySem.W.Frag) (mg : Str → Option Value) (g : Gm) (c : Nat) (x nm : Str) : Prop where
  ex : ∃ fI, BadG P K mg g c fI x nm
theorem ds_raiseF {x nm : Str} {p pos2 : Pos} {k : Nat} (B : BDk X.prog X.K X.mg g c x nm) (hc : X.calm = true) (hr : Room k X.A) (tk : Takes X W) (A : DP X g W a ta fa) (hg : Gl X x := by rfl) (hdb : (x == ("__debug__" : Str)) = false := by decide)
    (he : starEach (a :: []) X.env = (false, eval a X.env) :: starEach [] X.env := by rfl) (hpl : (backTo pos (starEach [] X.env)).any (·.1) = false := by rfl) :
    DS X g W (.Raise (some (.Call (.Name x p) [a] [] pos)) none pos2) (fun _ σ H => tMkBad (g.cl c) nm (tCons ta tNil) σ H fun cls d H' => W cls d σ H') (sRaise c fa) := by
  obtain ⟨fI, B⟩ := B.ex
  exact ds_raise B hc hr tk A hg hdb he hpl
end
section
variable {P : Program} {w : World} {K : PySem.W.Frag} {mg : Str → Option Value} {base : Heap} {g : Gm}
/-- fn_ok for a def with defaults -/
theorem fn_okD {x qual : Str} {st : Stmt} {f : Addr} {fd : FuncData} {N ps : List Str} {k n : Nat} {fb : SF} {dvs : List V} {kws : List (Str × V)} (F : FunD K x qual (defArgs st) (defBody st) (defScope st) dvs kws f fd) (S : FnScope N ps (defScope st)) (hn : ps.length = n)
    (hbody : ∀ (cdv : Value) (A : Around) (outer : List Env) (s : Shared) (H : Hp) (E : XK), Room k (A.deeper (envOfC qual (defScope st) s.heap.objs.size f cdv)) → ∃ t, DSs (cxOf (L2.CX P w) P w K mg base N qual (defScope st) f cdv A outer s H E) g (fun c d _ H => E c d H) (defBody st) t fb) :
    FnOk P w K mg base (L2.CX P w) (k + 1) f fd ps (spD K g n (runB N.length fb)) := by
  refine F.ok S (fun vs H Q E h => h.1.trans hn.symm) (fun cdv A outer s H vs Q E hr h => ?_)
  obtain ⟨t, B⟩ := hbody cdv A outer s H E hr
  obtain ⟨hl, G, ds, s1, e, pn, r, o⟩ := h
  refine ⟨t, B.ps, B.den G H G H _ _ s1 _ (startFq e pn r) ?_⟩
  unfold runB at o
  cases q : fb (ds.map Sv.val ++ List.replicate (N.length - ds.length) Sv.no) s1 with
  | nx ρ s2 => rw [q] at o; exact fun σ G1 H1 q1 => o .non G1 H1 q1.st q1.fq.pen .non
  | ret d s2 => rw [q] at o; exact fun v G1 H1 st pn r => o v G1 H1 st pn r
  | exc c es ρ s2 => rw [q] at o; exact fun od σ G1 H1 q1 x => o od G1 H1 q1.st q1.fq.pen x
  | brk ρ s2 => rw [q] at o; exact o.elim
  | ct ρ s2 => rw [q] at o; exact o.elim
  | bad => rw [q] at o; exact o.elim
theorem fdk_of {x : Str} {f : Addr} {fd : FuncData} {ps : List Str} {lev n : Nat} {fn : FF} (hm : mg x = some (.ref f)) (hk : PySem.W.keepIn K (.ref f) = true) (hb : Binds K fd ps []) (F : FnOk P w K mg base (L2.CX P w) lev f fd ps (spD K g n fn)) : FDk P w K mg base g x lev n [] fn :=
  ⟨f, fd, ps, [], [], hm, hk, hb, .nil, fun G => Reps.nil, F⟩
end
end Zp
set_option Elab.async false
set_option linter.all false
set_option maxRecDepth 100000
set_option maxHeartbeats 1000000
/-! Den18: ranges downwards; constants of the module; ghosts changed. -/
namespace Zp
open PySem PySem.Spec PyProof.Rows L2
def downD (lo hi : Int) : List D := (List.range (lo - hi).toNat).map fun i => .int (lo + (i : Nat) * (-1))
def rg3 : D → D → D → Option (List D)
  | .int i, .int j, .int c => if (rgB i && rgB j && decide (c = -1)) = true then some (downD i j) else none
  | _, _, _ => none
def iRange3 (f h k : EF) : AF := fun ρ s => (f ρ s).bind fun d s1 => (h ρ s1).bind fun e s2 => (k ρ s2).bind fun c s3 => lift (rg3 d e c) s3
section
variable {X : Cx} {g : Gm} {W : WX} {a b c e tg : Expr} {ta tb tc : TE} {fa fb fc : EF} {p pos : Pos}
theorem di_range3 (hm : X.mg "range" = none) (A : DP X g W a ta fa) (B : DP X g W b tb fb) (C : DP X g W c tc fc) (hg : Gl X "range" := by rfl) (hs : starEach [a, b, c] X.env = (false, eval a X.env) :: starEach [b, c] X.env := by rfl) (hs2 : starEach [b, c] X.env = (false, eval b X.env) :: starEach [c] X.env := by rfl) (hs3 : starEach [c] X.env = (false, eval c X.env) :: starEach [] X.env := by rfl)
    (hpl : (backTo pos (starEach [b, c] X.env)).any (·.1) = false := by rfl) :
    DI X g W tg (.Call (.Name "range" p) [a, b, c] [] pos) (iRng3 (tCons ta (tCons tb (tCons tc tNil)))) (iRange3 fa fb fc) := by
  refine ⟨pi_range3 hg hm (pa_cons A.pe (pa_cons B.pe (pa_cons C.pe pa_nil hs3) hs2) hs) hs hpl, fun G H σ ρ s R f h => A.den G H σ ρ s _ f (OutG.bind h fun d s1 v G1 H1 st1 pn1 r1 h1 => B.den G1 H1 σ ρ s1 _ (f.step st1 pn1) (OutG.bind h1 fun d2 s2 v2 G2 H2 st2 pn2 r2 h2 =>
    C.den G2 H2 σ ρ s2 _ ((f.step st1 pn1).step st2 pn2) (OutG.bind h2 fun d3 s3 v3 G3 H3 st3 pn3 r3 h3 => ?_)))⟩
  obtain ⟨ds, hd⟩ := OutG.lift_some h3
  have hd' := hd
  unfold rg3 at hd'
  split at hd'
  · rename_i i j k
    cases r1
    cases r2
    cases r3
    split at hd'
    · rename_i z
      cases hd'
      simp only [rgB, Bool.and_eq_true, decide_eq_true_eq] at z
      obtain ⟨⟨⟨z1, z2⟩, z3, z4⟩, rfl⟩ := z
      refine ⟨i, j, -1, (i - j).toNat, rfl, RgC.neg z1 z2 z3 z4, OutG.lift h3 pn3 hd (StpS.refl st3.gh) ?_⟩
      intro G4 H4 e1 e2
      refine ⟨fun m d h => ?_, ?_⟩
      · unfold downD at h
        rw [List.getElem?_map] at h
        cases q : (List.range (i - j).toNat)[m]? with
        | none => rw [q] at h; cases h
        | some y =>
          rw [q] at h
          cases h
          obtain ⟨hi, ej⟩ := List.getElem?_eq_some_iff.mp q
          have hj : y = m := by rw [← ej]; simp
          subst hj
          refine ⟨(by simpa using hi : y < (i - j).toNat), fun x H3' yy => ?_⟩
          obtain ⟨y1, y2⟩ := yy
          subst y1
          subst y2
          exact ⟨G4, StpS.refl e2, .int _⟩
      · show (i - j).toNat ≤ _
        simp [downD]
    · cases hd'
  · cases hd'
/-- a constant of the module -/
structure CONk (K : PySem.W.Frag) (mg : Str → Option Value) (x : Str) (d : D) : Prop where
  ex : ∃ (v : V) (u : Value), mg x = some u ∧ RelV v u ∧ ∀ (g : Gm) (G : Hp), Rep K g G v d
theorem dp_const {x : Str} {d : D} (C : CONk X.K X.mg x d) (hg : Gl X x := by rfl) (hd : (x == ("__debug__" : Str)) = false := by decide) : DP X g W (.Name x pos) (fun σ H Q => ∃ v u, X.mg x = some u ∧ RelV v u ∧ Q v H) (eC d) := by
  refine ⟨⟨fun pins s σ H Q I h => ?_⟩, fun G H σ ρ s Q f h => ?_⟩
  · obtain ⟨v, u, hm, r, q⟩ := h
    exact (pe_glob hg hm r hd).run pins s σ H Q I q
  · obtain ⟨v, u, hm, r, rp⟩ := C.ex
    exact ⟨v, u, hm, r, h v G H (Stp.refl f.gh) f.pen (rp g G)⟩
end
/-! the same at other ghosts of the same classes -/
section
variable {P : Program} {K : PySem.W.Frag} {mg : Str → Option Value} {g g' : Gm} {c : Nat}
theorem ClsG.to {ns : List Str} (h : ClsG K g c ns) (e : g'.cl = g.cl) (e2 : g'.fl = g.fl) : ClsG K g' c ns := ⟨by rw [e]; exact h.cls, by rw [e2]; exact h.fl, h.nd, h.lt, by rw [e]; exact h.na⟩
theorem ObjK.to (h : ObjK K g c) (e : g'.cl = g.cl) : ObjK K g' c := ⟨by rw [e]; exact h.cl, by rw [e]; exact h.ha, h.hn, h.ht, by rw [e]; exact h.hm⟩
theorem EqG.to {f : Addr} (h : EqG K g c f) (e : g'.cl = g.cl) : EqG K g' c f := ⟨by rw [e]; exact h.ie, h.fn, by rw [e]; exact h.nf, by rw [e]; exact h.cls⟩
theorem BDk.to {x nm : Str} (h : BDk P K mg g c x nm) (e : g'.cl = g.cl) (e2 : g'.fl = g.fl) : BDk P K mg g' c x nm := by
  obtain ⟨fI, B⟩ := h.ex
  exact ⟨fI, ⟨by rw [e]; exact B.T, by rw [e]; exact B.gC, by rw [e2]; exact B.fl, B.bd, B.ok⟩⟩
theorem IsiG.to {os : List (Nat × Bool)} (h : IsiG K g c os) (e : g'.cl = g.cl) : IsiG K g' c os := ⟨by rw [e]; exact h.no, fun p hp => ⟨(h.os p hp).1.to e, by rw [e]; exact (h.os p hp).2⟩⟩
theorem ExOk.to {ex : Nat → Nat → Option Bool} (h : ExOk K g ex) (e : g'.cl = g.cl) : ExOk K g' ex := fun c c' b q => by rw [e]; exact h c c' b q
end
/-! comprehensions, lambdas whose readings name the context: the same by rfl -/
section
variable {X : Cx} {g : Gm} {W : WX}
abbrev BX (α : Type) : Type := Shared → Hp → Addr → List (Str × Addr) → List Addr → α
theorem do_compU {elt tg iter : Expr} {ifs : List Expr} {scope : Scope} {own : List (Str × Nat)} {pos : Pos} {wi : TI} {t : BX TG} {tt : BX TT} {te : BX TE} {fi : AF} {gf : GF} {ft : TF} {fe : EF} {js vs : List Nat} (s0 : Shared) (H00 : Hp) (hc : X.calm = true) (hN : X.N.Nodup) (I : DI X g W tg iter wi fi) (ok : BlkOk X.N X.env.scope scope own)
    (hg : ∀ (s : Shared) (H : Hp) (C : Addr) (cl : List (Str × Addr)) (fp : List Addr), DG (X.blk s H scope (compEnvC scope cl C X.env) fp) g tg (t s H C cl fp) js gf)
    (ht : ∀ (s : Shared) (H : Hp) (C : Addr) (cl : List (Str × Addr)) (fp : List Addr), DTs (X.blk s H scope (compEnvC scope cl C X.env) fp) g W0 ifs (tt s H C cl fp) ft)
    (he : ∀ (s : Shared) (H : Hp) (C : Addr) (cl : List (Str × Addr)) (fp : List Addr), DP (X.blk s H scope (compEnvC scope cl C X.env) fp) g W0 elt (te s H C cl fp) fe)
    (hj : ∀ j ∈ js, j ∈ vs) (hv : own.map (·.2) = vs := by rfl) (h1 : ∀ s H C cl fp, t s H C cl fp = t s0 H00 0 [] [] := by intros; rfl) (h2 : ∀ s H C cl fp, tt s H C cl fp = tt s0 H00 0 [] [] := by intros; rfl) (h3 : ∀ s H C cl fp, te s H C cl fp = te s0 H00 0 [] [] := by intros; rfl)
    (hs : ∀ x, foldedSetIterable iter X.env x = pure x := by intro _; rfl) : DO X g W (.ListComp elt [⟨tg, iter, ifs, 0⟩] scope pos) (tLc wi (t s0 H00 0 [] []) (tt s0 H00 0 [] []) (te s0 H00 0 [] []) vs) (oComp vs fi gf ft fe) := by
  subst hv
  exact do_comp hc hN I ok (fun s H C cl fp => by rw [← h1 s H C cl fp]; exact hg s H C cl fp) (fun s H C cl fp => by rw [← h2 s H C cl fp]; exact ht s H C cl fp) (fun s H C cl fp => by rw [← h3 s H C cl fp]; exact he s H C cl fp) hj hs s0 H00
theorem ds_setLcU (i : Nat) {y : Str} {py : Pos} {elt tg iter : Expr} {ifs : List Expr} {scope : Scope} {own : List (Str × Nat)} {pos spos : Pos} {wi : TI} {t : BX TG} {tt : BX TT} {te : BX TE} {fi : AF} {gf : GF} {ft : TF} {fe : EF} {js vs : List Nat} (s0 : Shared) (H00 : Hp) (hc : X.calm = true) (hN : X.N.Nodup) (hy : X.N[i]? = some y) (hyl : X.env.scope.names.lookup y = some .local)
    (hsw : swapsWith (.ListComp elt [⟨tg, iter, ifs, 0⟩] scope pos) (some (.Name y py)) spos.line X.env = pure true) (I : DI X g W tg iter wi fi) (ok : BlkOk X.N X.env.scope scope own)
    (hg : ∀ (s : Shared) (H : Hp) (C : Addr) (cl : List (Str × Addr)) (fp : List Addr), DG (X.blk s H scope (compEnvC scope cl C X.env) fp) g tg (t s H C cl fp) js gf)
    (ht : ∀ (s : Shared) (H : Hp) (C : Addr) (cl : List (Str × Addr)) (fp : List Addr), DTs (X.blk s H scope (compEnvC scope cl C X.env) fp) g W0 ifs (tt s H C cl fp) ft)
    (he : ∀ (s : Shared) (H : Hp) (C : Addr) (cl : List (Str × Addr)) (fp : List Addr), DP (X.blk s H scope (compEnvC scope cl C X.env) fp) g W0 elt (te s H C cl fp) fe)
    (hj : ∀ j ∈ js, j ∈ vs) (hv : own.map (·.2) = vs := by rfl) (h1 : ∀ s H C cl fp, t s H C cl fp = t s0 H00 0 [] [] := by intros; rfl) (h2 : ∀ s H C cl fp, tt s H C cl fp = tt s0 H00 0 [] [] := by intros; rfl) (h3 : ∀ s H C cl fp, te s H C cl fp = te s0 H00 0 [] [] := by intros; rfl)
    (hs : ∀ x, foldedSetIterable iter X.env x = pure x := by intro _; rfl) :
    DS X g W (.Assign [.Name y py] (.ListComp elt [⟨tg, iter, ifs, 0⟩] scope pos) spos) (tAsg (tLc wi (t s0 H00 0 [] []) (tt s0 H00 0 [] []) (te s0 H00 0 [] []) vs) (gName i)) (sSetO i (oComp vs fi gf ft fe)) := by
  subst hv
  exact ds_setLc i hc hN hy hyl hsw I ok (fun s H C cl fp => by rw [← h1 s H C cl fp]; exact hg s H C cl fp) (fun s H C cl fp => by rw [← h2 s H C cl fp]; exact ht s H C cl fp) (fun s H C cl fp => by rw [← h3 s H C cl fp]; exact he s H C cl fp) hj s0 H00 hs
end
/-- frozen behind the statement -/
def sThenF (j : Nat) (f : SF) : SF := fun ρ s => match f ρ s with
  | .nx ρ1 s1 => .nx (frz j ρ1) s1
  | r => r
theorem ds_thenF {X : Cx} {g : Gm} {W : WX} {st : Stmt} {t : TS} {f : SF} (j : Nat) (A : DS X g W st t f) : DS X g W st t (sThenF j f) := ⟨A.ps, fun G0 H0 G H σ ρ s Dn q o => A.den G0 H0 G H σ ρ s Dn q (by
  unfold sThenF at o
  cases e : f ρ s with
  | nx ρ1 s1 =>
    rw [e] at o
    intro σ1 G1 H1 q1
    obtain ⟨G2, q2⟩ := q1.frz j
    exact o σ1 G2 H1 q2
  | ret d s1 => rw [e] at o; exact o
  | brk ρ1 s1 => rw [e] at o; exact o
  | ct ρ1 s1 => rw [e] at o; exact o
  | exc c ds ρ1 s1 => rw [e] at o; exact o
  | bad => rw [e] at o; exact o)⟩
/-- the fuel of a while -/
def FU : Nat := 1000
end Zp
set_option Elab.async false
set_option linter.all false
set_option maxRecDepth 100000
set_option maxHeartbeats 1000000
/-! Den19: _law_complaint(lambda: ..) by its bundle. -/
namespace Zp
open PySem PySem.Spec PyProof.Rows L2 LamX
/-- the def that calls what it got, as it stands -/
structure CPk (K : PySem.W.Frag) (mg : Str → Option Value) (x a : Str) (st : Stmt) : Prop where
  ex : ∃ (gA : Addr) (kV doc pm cdv ct oc : Value) (an od : Option Addr) (osl : Array (Option Value)), mg x = some (.ref gA) ∧ PySem.W.keepIn K (.ref gA) = true ∧
    K.lookup gA = some ⟨oc, od, .func (PySem.W.fnOf x x (defArgs st) (defBody st) (defScope st) .none kV doc pm an cdv ct), osl⟩ ∧ PySem.W.codeIn K cdv x = true ∧ L2.Binds K (PySem.W.fnOf x x (defArgs st) (defBody st) (defScope st) .none kV doc pm an cdv ct) [a] []
/-- its clauses, in any of its frames -/
def CompC (P : Program) (w : World) (K : PySem.W.Frag) (mg : Str → Option Value) (base : Heap) (g : Gm) (x : Str) (st : Stmt) (Ng : List Str) (hds : List ExceptHandler) (hs : List HdD) : Prop :=
  ∃ l : List ClauseA, ∀ (A : Around) (outer : List Env) (gA : Addr) (cdv : Value) (s : Shared) (H : Hp), A.guards = some [] → Room 0 A → DHs (cxOf C8.CX0 P w K mg base Ng x (defScope st) gA cdv A outer s H C8.E0).nox g Ng.length hds l hs
abbrev LX (α : Type) : Type := Around → List Env → Shared → Hp → XK → Addr → Addr → α
theorem dp_lamU {X : Cx} {g : Gm} {W : WX} {x a okS : Str} {st : Stmt} {c Pt : Addr} (k : Nat) {Ng : List Str} {ex : Nat → Nat → Option Bool} {params : Arguments} {body : Expr} {scope : Scope} {t : LX TE} {fb : EF} {p lpos pos p0 p1 p2 p3 p4 p8 : Pos} {j kk : Nat} {h₀ : ExceptHandler} {hds : List ExceptHandler} {hs : List HdD}
    (C : CPk X.K X.mg x a st) (D : CompC X.prog X.w X.K X.mg X.base g x st Ng (h₀ :: hds) hs) (Sg : FnScope Ng [a] (defScope st)) (hgd : X.A.guards = some []) (hbg : defBody st = [.Try [.Return (some (.Tuple [.Constant (.str okS) j p0, .Call (.Name a p1) [] [] p2] kk p3)) p4] (h₀ :: hds) [] [] p8])
    (hx : ExOk X.K g ex) (TB : LamX.TabB X.base X.mg c Pt) (hcode : X.env.code = .ref c) (hmT : (Pt, X.env.qual ++ "<lambda>") ∈ g.tb) (hu : ∀ p ∈ g.tb, p.1 = Pt → p.2 = X.env.qual ++ "<lambda>") (hr : Room (k + 2) X.A) (L : LamS X.env.scope scope)
    (B : ∀ (A : Around) (outer : List Env) (s : Shared) (H : Hp) (E : XK) (f c' : Addr), Room k (A.deeper (lamEnv X scope s.heap.objs.size f c')) → DP (lamCx X A outer s H E scope f c') g (fun c d _ H => E c d H) body (t A outer s H E f c') fb)
    (ht : ∀ A outer s H E f c', t A outer s H E f c' = t X.A [] X.s_0 X.H_0 E 0 0 := by intros; rfl) (hNg : Ng[0]? = some a := by rfl) (hva : Vis (defScope st) a := by first | exact Or.inl rfl | exact Or.inr (Or.inl rfl) | exact Or.inr (Or.inr rfl)) (h0 : ∀ f : Addr, (L2.start Ng [V.ref f])[0]? = some (some (V.ref f)) := by intro _; rfl) (hdef : defaultsOf params X.env = ([], []) := by rfl)
    (hbind : ∀ (q : Str) (cl : List (Str × Addr)) (pm cv ctv : Value), bindArgs (PySem.W.kla_fn "<lambda>" q params body scope cl pm cv ctv) ⟨[], []⟩ = pure [] := by intros; rfl)
    (hg : Gl X x := by rfl) (hdb : (x == ("__debug__" : Str)) = false := by decide) (hd : (a == ("__debug__" : Str)) = false := by decide) (hcd : (a == ("__classdict__" : Str)) = false := by decide) :
    ∃ te, DP X g W (.Call (.Name x p) [.Lambda params body scope lpos] [] pos) te (eCompl okS ex hs fb) := by
  obtain ⟨gA, kV, doc, pm, cdv, ct, oc, an, od, osl, hm, hk, lk, hcg, hb⟩ := C.ex
  obtain ⟨l, D⟩ := D
  exact ⟨_, dp_lam (l := l) (t := fun E => t X.A [] X.s_0 X.H_0 E 0 0) hm hk lk hcg hb Sg hNg hva hbg h0 hx (fun s H => D X.A X.stack gA cdv s H hgd (hr.mono (by omega))) TB hcode hmT hu hr L hdef hbind (fun A outer s H E f c' r => by rw [← ht A outer s H E f c']; exact B A outer s H E f c' r) hg hdb hd hcd⟩
end Zp
set_option Elab.async false
set_option linter.all false
set_option maxRecDepth 100000
set_option maxHeartbeats 1000000
/-! Den20: the pen is made. -/
namespace Zp
open PySem PySem.Spec PyProof.Rows L2 LamX
def foldOf (ns : List Int) : Int := ns.foldl (fun f c => (f * 47 + c) % 1000000007) 0
def penOf (ns : List Int) : PenS := ⟨ns, 0, 0, 0, foldOf ns⟩
def eFold : EF := eOp dMod (eUn dInt (eOp dAdd (eOp dMul (eVar 1) (eC (.int 47))) (eVar 2))) (eC (.int 1000000007))
/-- nothing frozen -/
def nilH : Hp := fun _ => none
theorem same_nil (H : Hp) : Same nilH H := fun b o e => by cases e
def penHp (H1 : Hp) (p l : Addr) (ns : List Int) : Hp := upd (upd (upd H1 p (.dK [])) l (.lst (ns.map V.int))) p (.dK (penKv l (penOf ns)))
/-- what the pen's def promises -/
def spPen (K : PySem.W.Frag) (g : Gm) : Sp := fun vs H Q E => ∃ a ns, vs = [.ref a] ∧ SqL K H a (ns.map V.int) ∧ Tabs g.tb H ∧ ∀ p l H1, Stp g nilH H nilH H1 → Tabs g.tb H1 → H1 p = none → H1 l = none → l ≠ p → Q (.ref p) (penHp H1 p l ns)
theorem sql_stp {K : PySem.W.Frag} {g : Gm} {G H G' H' : Hp} {a : Addr} {vs : List V} (hg : g.pa = none) (st : Stp g G H G' H') (h : SqL K H a vs) : SqL K H' a vs := by
  have k : ∀ b o, H b = some o → (∀ ps, o ≠ .tbl ps) → H' b = some o := fun b o e t => st.hh b o e (by rw [hg]; exact fun z => by cases z) t
  rcases h with (h | ⟨o, h⟩) | h
  · exact .inl (.inl (k _ _ h fun ps z => by cases z))
  · exact .inl (.inr ⟨o, k _ _ h fun ps z => by cases z⟩)
  · exact .inr h
theorem foldOf_take (ns : List Int) (i : Nat) (c : Int) (h : ns[i]? = some c) : foldOf (ns.take (i + 1)) = (foldOf (ns.take i) * 47 + c) % 1000000007 := by
  obtain ⟨hi, rfl⟩ := List.getElem?_eq_some_iff.mp h
  unfold foldOf
  rw [List.take_succ_eq_append_getElem hi, List.foldl_append]
  rfl
theorem pen_fq {K : PySem.W.Frag} {g : Gm} {H : Hp} {σ : L2.St} {f c : Int} {s : PenS} (hg : g.pa = none) (tb : Tabs g.tb H) (h3 : σ.length = 3) (h1 : σ[1]? = some (some (.int f))) (h2 : σ[2]? = some (some (.int c))) :
    Fq K g nilH H σ [.no, .val (.int f), .val (.int c)] s := by
  have no : ∀ {i : Nat} {x : Sv}, ([.no, .val (.int f), .val (.int c)] : List Sv)[i]? = some x → x = .no ∨ (i = 1 ∧ x = .val (.int f)) ∨ (i = 2 ∧ x = .val (.int c)) := fun {i x} h => by
    match i with
    | 0 => exact .inl (by cases h; rfl)
    | 1 => exact .inr (.inl ⟨rfl, by cases h; rfl⟩)
    | 2 => exact .inr (.inr ⟨rfl, by cases h; rfl⟩)
    | i + 3 => cases h
  refine ⟨same_nil H, ⟨fun x e => (by rw [hg] at e; cases e), tb, fun a ps z => by cases z⟩, h3.symm, fun i d h => ?_, fun i ds h => ?_, fun i j a ds es h => ?_, fun i c' fs h => ?_, fun i j a c' d fs es h => ?_⟩
  · rcases no h with z | ⟨rfl, z⟩ | ⟨rfl, z⟩
    · cases z
    · cases z; exact ⟨_, h1, .int _⟩
    · cases z; exact ⟨_, h2, .int _⟩
  all_goals (rcases no h with z | ⟨_, z⟩ | ⟨_, z⟩ <;> cases z)
def penTr (K : PySem.W.Frag) : List (TE × TE) := [(tC (.str "cells"), tCB (fun xs H Q => ∃ p ys, xs = [.ref p] ∧ (SqL K H p ys ∨ SqT K H p ys) ∧ ∀ l, H l = none → Q (.ref l) (upd H l (.lst ys))) (tCons (tVar 0) tNil)), (tC (.str "at"), tC (.int 0)), (tC (.str "digits"), tC (.int 0)), (tC (.str "count"), tC (.int 0)), (tC (.str "fold"), tVar 1)]
theorem foldl_rng : ∀ (ns : List Int) (f : Int), 0 ≤ f → f < 1000000007 → 0 ≤ ns.foldl (fun f c => (f * 47 + c) % 1000000007) f ∧ ns.foldl (fun f c => (f * 47 + c) % 1000000007) f < 1000000007
  | [], f, h1, h2 => ⟨h1, h2⟩
  | c :: ns, f, h1, h2 => foldl_rng ns _ (Int.emod_nonneg _ (by decide)) (Int.emod_lt_of_pos _ (by decide))
theorem fold_rng (ns : List Int) : 0 ≤ foldOf ns ∧ foldOf ns < 1000000007 := foldl_rng ns 0 (by decide) (by decide)
theorem log2_le {n : Nat} (k : Nat) (h : n < 2 ^ (k + 1)) : n.log2 ≤ k := by
  by_cases z : n = 0
  · subst z; exact Nat.zero_le _
  · exact Nat.lt_succ_iff.mp ((Nat.log2_lt z).mpr h)
theorem mulOk_of {i j : Int} (a b : Nat) (h1 : i.natAbs < 2 ^ (a + 1)) (h2 : j.natAbs < 2 ^ (b + 1)) (h : a + b < 1000000) : mulOk i j = true := by
  unfold mulOk
  have := log2_le a h1
  have := log2_le b h2
  exact decide_eq_true (by omega)
theorem fold_step (f c : Int) (s : PenS) (h1 : 0 ≤ f) (h2 : f < 1000000007) : eFold [.no, .val (.int f), .val (.int c)] s = .ok (.int ((f * 47 + c) % 1000000007)) s := by
  have hm : mulOk f 47 = true := mulOk_of 30 6 (by omega) (by decide) (by decide)
  have h : dMul (.int f) (.int 47) = some (.int (f * 47)) := if_pos hm
  unfold eFold
  simp only [eOp, eUn, eVar, eC, List.getElem?_cons_zero, List.getElem?_cons_succ, ResE.bind, h, lift, dAdd, dInt]
  rfl
theorem pen_run {K : PySem.W.Frag} {g : Gm} {W : WX} {te : TE} (hg : g.pa = none) (hte : ∀ G H σ ρ s Q, Fq K g G H σ ρ s → OutG K g W G H σ (RD K g) Q (eFold ρ s) → te σ H Q) {a : Addr} {ns : List Int} {H : Hp} {D : Ends} (hs : SqL K H a (ns.map V.int)) (tb : Tabs g.tb H)
    (hq : ∀ p l H1, Stp g nilH H nilH H1 → Tabs g.tb H1 → H1 p = none → H1 l = none → l ≠ p → D.rt (.ref p) (penHp H1 p l ns)) :
    tSeq (tAsg (tC (.int 0)) (gName 1)) (tSeq (tFor (iList K (tVar 0)) (gName 2) (tAsg te (gName 1))) (tRet (tDisp (penTr K)))) D [some (.ref a), none, none] H := by
  refine ⟨.ref a, rfl, a, rfl, ⟨_, hs⟩, ?_⟩
  refine for_list (xs := ns.map V.int) (fun i σ H1 => σ.length = 3 ∧ σ[0]? = some (some (.ref a)) ∧ σ[1]? = some (some (.int (foldOf (ns.take i)))) ∧ Stp g nilH H nilH H1 ∧ Tabs g.tb H1) ⟨rfl, rfl, rfl, Stp.refl (same_nil H), tb⟩ (fun i σ H1 _ P => sql_stp hg P.2.2.2.1 hs) (fun i x σ H1 hx P => ?_) (fun σ H1 P => ?_)
  · obtain ⟨h3, h0, h1, st, tb1⟩ := P
    rw [List.getElem?_map] at hx
    obtain ⟨c, hc, rfl⟩ := Option.map_eq_some_iff.mp hx
    show te (σ.set 2 (some (.int c))) H1 _
    have q := pen_fq (K := K) (f := foldOf (ns.take i)) (c := c) (s := penOf ns) (σ := σ.set 2 (some (.int c))) hg tb1 (by simp [h3]) (by rw [List.getElem?_set_ne (by decide)]; exact h1) (by rw [List.getElem?_set_self (by omega)])
    refine hte nilH H1 _ _ _ _ q ?_
    rw [fold_step _ _ _ (fold_rng _).1 (fold_rng _).2]
    intro v G2 H2 st2 pn2 r
    cases r
    refine ⟨by simp [h3], ?_, ?_, ?_, pn2.tb⟩
    · rw [List.getElem?_set_ne (by decide), List.getElem?_set_ne (by decide)]
      exact h0
    · rw [List.getElem?_set_self (by simp [h3]), foldOf_take ns i c hc]
    · have s3 := st.trans st2 fun x e => (by rw [hg] at e; cases e)
      exact ⟨Same.refl _, same_nil _, s3.hh, fun _ e _ => e, s3.al⟩
  · obtain ⟨h3, h0, h1, st, tb1⟩ := P
    rw [List.length_map, List.take_length] at h1
    intro p hp
    refine ⟨.ref a, h0, a, ns.map V.int, rfl, .inl ?_, fun l hl => ?_⟩
    · have s2 : Stp g nilH H1 nilH (upd H1 p (.dK [])) := (StpS.newO (same_nil _) hp).stp
      exact sql_stp hg s2 (sql_stp hg st hs)
    · have nl : l ≠ p := fun z => by rw [z, upd_same] at hl; cases hl
      refine ⟨.int (foldOf ns), h1, ?_⟩
      refine ⟨by rw [upd_ne nl.symm]; exact upd_same, [(.inr "cells", .ref l), (.inr "at", .int 0), (.inr "digits", .int 0), (.inr "count", .int 0), (.inr "fold", .int (foldOf ns))], rfl, (by show 5 ≤ 15; omega), ?_⟩
      exact hq p l H1 st tb1 hp (by rw [upd_ne nl] at hl; exact hl) nl
end Zp
set_option Elab.async false
set_option linter.all false
set_option maxRecDepth 100000
set_option maxHeartbeats 1000000
/-! Den21: what clauses say, by name. -/
namespace Zp
open PySem PySem.Spec PyProof.Rows L2 LamX
theorem hu_rep {k : Nat} {A : Around} (r : Room k A) : A.units + 40 < cLine := by have := r.un; omega
abbrev XFs := Nat → List D → PenS → ResE (List D)
def xStr (x : Str) : XF := fun _ _ s => .ok (.str x) s
def xFld (c' : Nat) : XF := fun c ds s => if c = c' then lift ds[0]? s else .bad
def xRepr (f : XF) : XF := fun c ds s => (f c ds s).bind fun d s1 => lift (dRepr d) s1
def xNil : XFs := fun _ _ s => .ok [] s
def xCons (f : XF) (fs : XFs) : XFs := fun c ds s => (f c ds s).bind fun y s1 => (fs c ds s1).bind fun ys s2 => .ok (y :: ys) s2
def xTup (fs : XFs) : XF := fun c ds s => (fs c ds s).bind fun ys s1 => lift (if szB ys.length = true then some (.tup ys) else none) s1
def clA (g : Gm) (n c : Nat) (oi : Option Nat) (t : Addr → Value → Option Addr → TE) : ClauseA := (.ref (g.cl c), oi, fun a cls d D σ H => σ.length = n → tRet (t a cls d) D σ H)
section
variable {Z : Cx} {g : Gm} {n c c' i : Nat} {oi : Option Nat} {x nm en : Str} {p pos : Pos}
theorem names_bad (B : BDk Z.prog Z.K Z.mg g c x nm) (hg : Gl Z x := by rfl) (hd : (x == ("__debug__" : Str)) = false := by decide) : Names Z x (.ref (g.cl c)) := by
  obtain ⟨fI, B⟩ := B.ex
  exact ⟨hg, hd, .inl B.gC⟩
theorem dx_fldF (B : BDk Z.prog Z.K Z.mg g c' x nm) (hN : Z.N[i]? = some en) (hi : i < n) (hv : Vis Z.env.scope en := by first | exact Or.inl rfl | exact Or.inr (Or.inl rfl) | exact Or.inr (Or.inr rfl)) (hd : (en == ("__debug__" : Str)) = false := by decide)
    (hcd : (en == ("__classdict__" : Str)) = false := by decide) (hb : attributeBase (.Name en p) nm Z.env (eval (.Name en p) Z.env) = eval (.Name en p) Z.env := by rfl) :
    DX Z g n (some i) (.Attribute (.Name en p) nm pos) (fun a cls d => tByX (g.cl c') a cls d nm (tVar i)) (xFld c') := by
  obtain ⟨fI, B⟩ := B.ex
  exact dx_fld B hN hi hv hd hcd hb
end
end Zp
set_option Elab.async false
set_option linter.all false
set_option maxRecDepth 100000
set_option maxHeartbeats 2000000
/-! Den22: the law's def run where the checker calls it (nothing is being shown there, so repr of rows is open). -/
namespace Zp
open PySem PySem.Spec PyProof.Rows L2
/-- the tables as they lie at the start, the script where the head keeps no record of it -/
def hp0 (K : PySem.W.Frag) (T : List Addr) (a : Addr) (oA : Obj) (xs : List V) : Hp := fun b => if b ∈ T then some (.tbl #[]) else if b = a ∧ K.lookup a = none then some (.frz oA (.lst xs)) else none
theorem hp0_cases {K : PySem.W.Frag} {T : List Addr} {a b : Addr} {oA : Obj} {xs : List V} {u : HO} (h : hp0 K T a oA xs b = some u) : (b ∈ T ∧ u = .tbl #[]) ∨ (b = a ∧ K.lookup a = none ∧ u = .frz oA (.lst xs)) := by
  unfold hp0 at h
  split at h
  · cases h
    exact .inl ⟨by assumption, rfl⟩
  · split at h
    · rename_i z
      cases h
      exact .inr ⟨z.1, z.2, rfl⟩
    · cases h
theorem law_callG {P : Program} {w : World} {K : PySem.W.Frag} {mg mb : Str → Option Value} {fa a : Addr} {cs : List (Addr × Addr)} {s₁ : Shared} {vs : List Value} {ns : List Int}
    (KX : K.In s₁.heap) (hns : s₁.heap.Ns mainGlobals mg) (hb : s₁.heap.Ns builtinsNs mb) (hbb : ∀ x : Str, x ≠ "__name__" → mb x = bootBuiltins x) (hlim : s₁.heap.NoLimit) (hg : s₁.gens = #[])
    (hT : ∀ p ∈ cs, s₁.heap.get? p.2 = some { cls := .none, data := .fields #[] }) (nT : ∀ p ∈ cs, K.lookup p.2 = none) (C : ∀ p ∈ cs, PySem.W.CodeHd s₁.heap p.1 p.2)
    (hbm : ∃ (bm : Addr) (ob : Obj), mg "__builtins__" = some (.ref bm) ∧ bm ≠ builtinsNs ∧ s₁.heap.get? bm = some ob ∧ ob.cls = .type "module" ∧ ob.dict = some builtinsNs ∧ ob.data = .plain)
    (ha : s₁.heap.get? a = some { cls := .type "list", data := .seq vs.toArray }) (hi : IntsAre vs ns) (hl : ns.length ≤ sizeLine)
    (F : ∀ (base : Heap) (H : Hp), K.In base → base.Ns mainGlobals mg → (∀ p ∈ cs, LamX.TabB base mg p.1 p.2) → (∀ p ∈ cs, H p.2 = some (.tbl #[])) → SqL K H a (ns.map V.int) → Env0 P w K mg base callerA [] s₁ H →
      codeAny (model P w) callerA (.call (.ref fa) ⟨[.ref a], []⟩) (CR (L2.CX P w) [] P w H s₁ (fun v _ => v = .bl true) fun _ _ _ => False) s₁) :
    codeAny (model P w) callerA (.call (.ref fa) ⟨[.ref a], []⟩) (fun r s' => r = .ok (.ret (.bool true)) ∧ OldK s₁.heap s'.heap ∧ s'.os = s₁.os ∧ AllBare s'.gens) s₁ := by
  have rv := vals_ints hi
  have tabAt : ∀ b, b ∈ cs.map (·.2) → ∃ p ∈ cs, p.2 = b := fun b hb => let ⟨p, hp, e⟩ := List.mem_map.mp hb; ⟨p, hp, e⟩
  have tabGet : ∀ b, b ∈ cs.map (·.2) → s₁.heap.get? b = some { cls := .none, data := .fields #[] } := fun b hb => by
    obtain ⟨p, hp, rfl⟩ := tabAt b hb
    exact hT p hp
  have aNot : a ∉ cs.map (·.2) := fun z => by
    have q := (tabGet a z).symm.trans ha
    cases q
  generalize hH : hp0 K (cs.map (·.2)) a { cls := .type "list", data := .seq vs.toArray } (ns.map V.int) = H
  have cas : ∀ {b u}, H b = some u → (b ∈ cs.map (·.2) ∧ u = .tbl #[]) ∨ (b = a ∧ K.lookup a = none ∧ u = .frz { cls := .type "list", data := .seq vs.toArray } (.lst (ns.map V.int))) := fun {b u} h => by
    rw [← hH] at h
    exact hp0_cases h
  have tabH : ∀ p ∈ cs, H p.2 = some (.tbl #[]) := fun p hp => by
    rw [← hH]
    exact if_pos (List.mem_map.mpr ⟨p, hp, rfl⟩)
  -- what is no table's object and no row is seen in the base
  have seen : ∀ {b : Addr} {o : Obj}, s₁.heap.get? b = some o → (∀ x n, o.data ≠ .seq x n) → o.data ≠ .fields #[] → H b = none := fun {b o} e h1 h2 => by
    cases q : H b with
    | none => rfl
    | some u =>
      rcases cas q with ⟨hb, _⟩ | ⟨rfl, _⟩
      · rw [tabGet b hb] at e
        cases e
        exact (h2 rfl).elim
      · rw [ha] at e
        cases e
        exact (h1 _ _ rfl).elim
  have nsB : ∀ {b : Addr} {m : Str → Option Value}, s₁.heap.Ns b m → (hidT s₁.heap H).Ns b m := fun {b m} ⟨o, es, ep, e, d, r⟩ =>
    ⟨o, es, ep, hidT_get e (seen e (fun x n z => by rw [d] at z; cases z) fun z => by rw [d] at z; cases z), d, r⟩
  have inB : K.In (hidT s₁.heap H) := fun b o e => hidT_get (KX b o e) (by
    cases q : H b with
    | none => rfl
    | some u =>
      rcases cas q with ⟨hb, _⟩ | ⟨rfl, n, _⟩
      · obtain ⟨p, hp, rfl⟩ := tabAt b hb
        rw [nT p hp] at e
        cases e
      · rw [n] at e
        cases e)
  have ok : HOk P w H s₁.heap := fun b u e => by
    rcases cas e with ⟨hb, rfl⟩ | ⟨rfl, _, rfl⟩
    · exact tabGet b hb
    · exact ⟨ha, by rw [List.length_map]; exact hl, vs, _, rv, ha⟩
  have sq : SqL K H a (ns.map V.int) := by
    cases q : K.lookup a with
    | none => exact .inl (.inr ⟨_, by rw [← hH]; exact (if_neg aNot).trans (if_pos ⟨rfl, q⟩)⟩)
    | some o =>
      have e := (KX a o q).symm.trans ha
      cases e
      exact .inr ⟨_, vs.toArray, _, q, rfl, rfl, rfl, by rw [List.size_toArray, hi.length]; exact hl, by simpa using rv⟩
  have tabB : ∀ p ∈ cs, LamX.TabB (hidT s₁.heap H) mg p.1 p.2 := fun p hp => by
    obtain ⟨bm, ob, b1, b2, b3, b4, b5, b6⟩ := hbm
    obtain ⟨og, es, ep, eg, hd, _⟩ := hns
    refine ⟨?_, ⟨bm, ob, b1, b2, fun q => ?_, fun q => ?_, hidT_get b3 (seen b3 (fun x n z => by rw [b6] at z; cases z) fun z => by rw [b6] at z; cases z), b4, b5, b6⟩, fun z => ?_⟩
    · obtain ⟨o, us, file, tf, flags, tg, inF, text, tt, e1, r1, r2, rest⟩ := C p hp
      refine ⟨o, us, file, tf, flags, tg, inF, text, tt, hidT_get e1 (seen e1 (fun x n z => by rw [r2] at z; cases z) fun z => ?_), r1, r2, rest⟩
      rw [r2] at z
      cases z
      simp at rest
    · rw [q] at b3
      have e := b3.symm.trans eg
      cases e
      rw [b6] at hd
      cases hd
    · rw [q] at b3
      have e := b3.symm.trans (hT p hp)
      cases e
      cases b6
    · rw [z] at eg
      have e := eg.symm.trans (hT p hp)
      cases e
      cases hd
  have e0 : Env0 P w K mg (hidT s₁.heap H) callerA [] s₁ H := ⟨rfl, ⟨inB, nsB hns, ⟨mb, nsB hb, hbb⟩, let ⟨mc, h1, h2⟩ := hlim; ⟨mc, nsB h1, h2⟩⟩, fun b o e => of_hidT e, Nat.le_of_eq (hidT_size _ _), trivial, fun b hb => absurd (show b ∈ ([] : List Addr) from hb) (by simp), ok, .of_eq hg⟩
  refine codeAny_mono (F _ H inB (nsB hns) tabB tabH sq e0) fun r s' h => ?_
  match r, h with
  | .error e, h => obtain ⟨_, _, _, _, _, _, _, _, _, _, _, _, z⟩ := h; exact z.elim
  | .ok .next, h => exact h.elim
  | .ok .brk, h => exact h.elim
  | .ok .cont, h => exact h.elim
  | .ok (.ret u), ⟨v, H', os, bare, un, ok', rel, q⟩ =>
    obtain rfl : v = .bl true := q
    obtain rfl : u = Value.bool true := rel
    have keep : ∀ b o, b ∉ cs.map (·.2) → s₁.heap.get? b = some o → s'.heap.get? b = some o := fun b o nb e => by
      cases z : H b with
      | none => exact un.keep b o e z (fun y => absurd (show b ∈ ([] : List Addr) from y) (by simp)) (by simp)
      | some u =>
        rcases cas z with ⟨hb, _⟩ | ⟨rfl, _, rfl⟩
        · exact absurd hb nb
        · have e2 := (ok' b _ (un.frzs b _ _ z)).1
          rw [ha] at e
          cases e
          exact e2
    have grow : ∀ p ∈ cs, ∃ more : Array Value, s'.heap.get? p.2 = some { cls := .none, data := .fields more } := fun p hp => by
      obtain ⟨more, z⟩ := un.tbls p.2 #[] (tabH p hp)
      exact ⟨_, ok' p.2 _ z⟩
    refine ⟨rfl, ⟨fun b o e => ?_, fun b o e => ?_⟩, os, bare⟩
    all_goals
      by_cases hb : b ∈ cs.map (·.2)
      case neg => first | exact .inl (keep b o hb e) | exact ⟨o, keep b o hb e⟩
    · obtain ⟨p, hp, rfl⟩ := tabAt b hb
      obtain ⟨more, hm⟩ := grow p hp
      rw [hT p hp] at e
      cases e
      exact .inr (.inl ⟨((C p hp).tab (hT p hp)).isCodeTable, rfl, #[], more, rfl, by rw [Array.empty_append]; exact hm⟩)
    · obtain ⟨p, hp, rfl⟩ := tabAt b hb
      obtain ⟨more, hm⟩ := grow p hp
      exact ⟨_, hm⟩
/-- what is known of the law's def at the head's heap -/
def LawAtG (l : PySem.W.OpenLaw) (w : World) (K : PySem.W.Frag) (n : Nat) (mg : Str → Option Value) (fa : Addr) (h : Heap) : Prop :=
  ∃ cs : List (Addr × Addr), (∀ p ∈ cs, h.get? p.2 = some { cls := .none, data := .fields #[] }) ∧ (∀ p ∈ cs, K.lookup p.2 = none) ∧ (∀ p ∈ cs, PySem.W.CodeHd h p.1 p.2) ∧
    ∀ (base : Heap) (H : Hp) (a : Addr) (ns : List Int) (s : Shared), ns.length ≤ n → (∀ z ∈ ns, Builtin.Int.intBits z ≤ 1048576) → K.In base → base.Ns mainGlobals mg → (∀ p ∈ cs, LamX.TabB base mg p.1 p.2) → (∀ p ∈ cs, H p.2 = some (.tbl #[])) → SqL K H a (ns.map V.int) →
      Env0 l.prog w K mg base callerA [] s H → codeAny (model l.prog w) callerA (.call (.ref fa) ⟨[.ref a], []⟩) (CR (L2.CX l.prog w) [] l.prog w H s (fun v _ => v = .bl true) fun _ _ _ => False) s
theorem walk_ofG {l : PySem.W.OpenLaw} {n : Nat} {q : Program} {loose : List Str} {XP : (Str → Option Value) → Heap → Prop} {YP : World → Heap → Prop} {d : DefRec}
    (hn : l.most = some n) (hn2 : n ≤ sizeLine) (hdf : d.params.defaults = [])
    (F : ∀ (w : World) (mg : Str → Option Value) (fa : Addr) (h : Heap), YP w h → h.Ns mainGlobals mg → mg d.name = some (.ref fa) → ∃ K : PySem.W.Frag, K.In h ∧ LawAtG l w K n mg fa h) :
    PySem.W.WalkO q loose XP YP l.row.toRowW d [] (fun f vs => PySem.call f vs) := by
  refine Att.attach_callB hn hdf fun w s₀ s₁ mg mb fa o pm cd doc a vs ns G Y ho hd hcd hmg hobj hints hlen hbits hg => ?_
  obtain ⟨K, KX, cs, hT, nT, C, hF⟩ := F w mg fa _ Y G.T.g hmg
  exact law_callG KX G.T.g G.T.b G.T.builtins G.T.nolimit hg hT nT C G.T.bmain hobj hints (Nat.le_trans hlen hn2) fun base H i1 i2 i3 i4 i5 i6 => hF base H a ns s₁ hlen hbits i1 i2 i3 i4 i5 i6
end Zp
set_option Elab.async false
set_option linter.all false
set_option maxRecDepth 100000
set_option maxHeartbeats 2000000
/-! Den23: the law's def: the pen is made, the rest is read by the words. -/
namespace Zp
open PySem PySem.Spec PyProof.Rows L2
theorem pss_ex {X : Cx} {b : List Stmt} : PSs X b (fun D σ H => ∃ t, PSs X b t ∧ t D σ H) := ⟨fun pins s σ H D I ⟨t, h, q⟩ => h.run pins s σ H D I q⟩
/-- the ghosts once the pen stands -/
def penG (g : Gm) (p l : Addr) : Gm := { g with pa := some p, pl := l }
theorem pen_start {K : PySem.W.Frag} {g : Gm} {H1 : Hp} {p l a : Addr} {ns : List Int} {m : Nat} (tb : LamX.Tabs g.tb H1) (hp : H1 p = none) (hl : H1 l = none) (hn : l ≠ p) :
    Fs K (penG g p l) (upd nilH l (.lst (ns.map V.int))) (penHp H1 p l ns) (upd nilH l (.lst (ns.map V.int))) (penHp H1 p l ns) (some (.ref a) :: some (.ref p) :: List.replicate m none) (.no :: .val .pen :: List.replicate m .no) (penOf ns) := by
  have hP : penHp H1 p l ns p = some (.dK (penKv l (penOf ns))) := upd_same
  have hL : penHp H1 p l ns l = some (.lst (ns.map V.int)) := by
    unfold penHp
    rw [upd_ne hn, upd_same]
  have gh : Same (upd nilH l (.lst (ns.map V.int))) (penHp H1 p l ns) := fun b o e => by
    by_cases z : b = l
    · subst z
      rw [upd_same] at e
      cases e
      exact hL
    · rw [upd_ne z] at e
      cases e
  have hh : Same H1 (penHp H1 p l ns) := fun b o e => by
    unfold penHp
    rw [upd_ne (ne_of_none e hp), upd_ne (ne_of_none e hl), upd_ne (ne_of_none e hp)]
    exact e
  have no : ∀ {i : Nat} {x : Sv}, (Sv.no :: .val .pen :: List.replicate m .no)[i]? = some x → x = .no ∨ (i = 1 ∧ x = .val .pen) := fun {i x} h => by
    match i with
    | 0 => exact .inl (by cases h; rfl)
    | 1 => exact .inr ⟨rfl, by cases h; rfl⟩
    | i + 2 =>
      left
      have e : (List.replicate m Sv.no)[i]? = some x := h
      rw [List.getElem?_replicate] at e
      split at e
      · cases e; rfl
      · cases e
  have pn : PenOk (penG g p l) (upd nilH l (.lst (ns.map V.int))) (penHp H1 p l ns) (penOf ns) := by
    refine ⟨fun x e => ?_, tb.ext hh, nt_upd (fun ps z => by cases z) fun a ps z => by cases z⟩
    obtain rfl : p = x := Option.some.inj e
    exact ⟨by rw [upd_ne (Ne.symm hn)]; rfl, upd_same, hP⟩
  refine ⟨⟨gh, pn, by simp, fun i d h => ?_, fun i ds h => ?_, fun i j b ds es h => ?_, fun i c' fs h => ?_, fun i j b c' d fs es h => ?_⟩, Stp.refl gh, fun i x b h n1 n2 => ?_, fun x e => pn.there e⟩
  · rcases no h with z | ⟨rfl, z⟩
    · cases z
    · cases z
      exact ⟨.ref p, rfl, .pen rfl⟩
  all_goals first
    | (rcases no h with z | ⟨_, z⟩ <;> cases z; done)
    | (rcases no h with z | ⟨_, z⟩
       · exact (n2 z).elim
       · exact (n1 _ z).elim)
theorem law_body {X : Cx} {g0 : Gm} {fp : Addr} {fd : FuncData} {k m : Nat} {p1 p2 p3 p4 p5 : Pos} {rest : List Stmt} {fb : SF} (hpa : g0.pa = none) (Fp : FnOk X.prog X.w X.K X.mg X.base (L2.CX X.prog X.w) k fp fd ["script"] (spPen X.K g0)) (hr : Room k X.A) (hm : X.mg "_law_pen" = some (.ref fp)) (hk : PySem.W.keepIn X.K (.ref fp) = true)
    (hb : Binds X.K fd ["script"] []) (tk : Takes X (fun _ _ _ _ => False)) (hN : X.N.Nodup) (h0 : X.N[0]? = some ("script" : Str)) (h1 : X.N[1]? = some ("pen" : Str)) (hx : Loc X.env.scope "pen") (hv : Vis X.env.scope "script") (hf : X.fn "pen" = true ∨ X.env.scope.names.lookup ("pen" : Str) = some .local) (hst : ∀ a, start X.N [.ref a] = some (.ref a) :: none :: List.replicate m none)
    (B : ∀ g, g.cl = g0.cl → g.fl = g0.fl → g.tb = g0.tb → ∃ t, DSs X g (fun _ _ _ _ => False) rest t fb) {a : Addr} {ns : List Int} {H : Hp} (hs : SqL X.K H a (ns.map V.int)) (tb : LamX.Tabs g0.tb H)
    (ho : ∃ s', fb (.no :: .val .pen :: List.replicate m .no) (penOf ns) = .ret (.bl true) s') (hg : Gl X "_law_pen" := by rfl)
    (he : starEach [.Name "script" p3] X.env = (false, eval (.Name "script" p3) X.env) :: starEach [] X.env := by rfl) (hpl : (backTo p4 (starEach [] X.env)).any (·.1) = false := by rfl) (hsw : swapsWith (.Call (.Name "_law_pen" p2) [.Name "script" p3] [] p4) (some (.Name "pen" p1)) p5.line X.env = pure false := by rfl) :
    ∃ t, PSs X (.Assign [.Name "pen" p1] (.Call (.Name "_law_pen" p2) [.Name "script" p3] [] p4) p5 :: rest) t ∧ t { nx := fun _ H' => (fun v _ => v = V.bl true) V.non H', rt := fun v _ => v = .bl true } (start X.N [.ref a]) H := by
  refine ⟨_, pss_cons (ps_set hN h1 hx (pe_callS Fp hr hg hm hk hb (fun σ => passAt tk σ) (pa_cons (pe_var h0 hv) pa_nil he) (by decide) he hpl) hsw hf) pss_ex, ?_⟩
  rw [hst a]
  refine ⟨.ref a, rfl, a, ns, rfl, hs, tb, fun p l H1 st t1 hp hl hn => ?_⟩
  obtain ⟨t, D⟩ := B (penG g0 p l) rfl rfl rfl
  obtain ⟨s', ho⟩ := ho
  refine ⟨t, D.ps, D.den _ _ _ _ _ _ (penOf ns) _ (pen_start t1 hp hl hn) ?_⟩
  rw [ho]
  intro v G H' _ _ r
  cases r
  rfl
end Zp
set_option Elab.async false
set_option linter.all false
set_option maxRecDepth 100000
set_option maxHeartbeats 2000000
/-! Den24: what is looked at once the top has run: classes, errors, tables by Bools. -/
namespace Zp
open PySem PySem.Spec PyProof.Rows L2 He
/-! ### checks -/
def shapeB (K : PySem.W.Frag) (C : Addr) (pb : Addr → List Value → Bool → String → Bool) : Bool := match K.lookup C with
  | some ⟨.type t, _, .cls cd, sl⟩ => (match cd.mro, sl.toList with
    | .ref C' :: bm, [_, _, _, _, some (.builtin n), _] => decide (t = "type") && (decide (C' = C) && (!cd.hasDel && pb cd.ns bm cd.hasDict n))
    | _, _ => false)
  | _ => false
theorem shape_ok {K : PySem.W.Frag} {C : Addr} {pb : Addr → List Value → Bool → String → Bool} (h : shapeB K C pb = true) :
    ∃ nm q N bs bm hdct sn sub ab col dd k0 k1 k2 k3 k5 nw, K.lookup C = some (excClassObj nm q C N bs bm hdct sn sub ab col dd k0 k1 k2 k3 k5 nw) ∧ pb N bm hdct nw = true := by
  unfold shapeB at h
  split at h
  · rename_i t dd cd sl ho
    obtain ⟨nm, bs, mro, ns, qn, hd, sn, sub, ab, col, del⟩ := cd
    simp only at h
    split at h
    · rename_i xl C' bm k0 k1 k2 k3 n k5 e2
      obtain ⟨h1, h⟩ := ba h
      obtain ⟨h2, h⟩ := ba h
      obtain ⟨h3, h4⟩ := ba h
      obtain rfl : t = "type" := of_decide_eq_true h1
      obtain rfl : C' = C := of_decide_eq_true h2
      have e3 : del = false := by simpa using h3
      subst e3
      refine ⟨nm, qn, ns, bs, bm, hd, sn, sub, ab, col, dd, k0, k1, k2, k3, k5, n, ?_, h4⟩
      rw [ho]
      have e4 : sl = #[k0, k1, k2, k3, some (.builtin n), k5] := by
        apply Array.toList_inj.mp
        exact e2
      rw [e4]
    · cases h
  · cases h
def clsB (K : PySem.W.Frag) (C : Addr) : Bool := PySem.W.plainGet K C Str.empty && (PySem.W.hasDictIn K C && (PySem.W.plainOver K C && eqO (PySem.W.findIn K (.ref C) "__setattr__") (some (some (.builtin "object.__setattr__")))))
theorem clsB_ok {K : PySem.W.Frag} {C : Addr} (h : clsB K C = true) : Cls K C := by
  obtain ⟨h1, h⟩ := ba h
  obtain ⟨h2, h⟩ := ba h
  obtain ⟨h3, h4⟩ := ba h
  exact ⟨h1, h2, h3, eqO_ok h4⟩
def objB (K : PySem.W.Frag) (C : Addr) : Bool := clsB K C && (eqO (PySem.W.findIn K (.ref C) "__class__") (some (some (.builtin "object.__class__"))) && (eqO (PySem.W.specialIn K (.builtin "object.__class__") "__get__") (some (some (.builtin "getset_descriptor.__get__"))) &&
  (decide (PySem.W.takesIn K (.builtin "object.__class__") = some true) && decide (PySem.W.mroIn K C (.type "object") = some true))))
theorem objB_ok {K : PySem.W.Frag} {g : Gm} {c : Nat} (h : objB K (g.cl c) = true) : ObjK K g c := by
  obtain ⟨h1, h⟩ := ba h
  obtain ⟨h2, h⟩ := ba h
  obtain ⟨h3, h⟩ := ba h
  obtain ⟨h4, h5⟩ := ba h
  exact ⟨clsB_ok h1, eqO_ok h2, eqO_ok h3, of_decide_eq_true h4, of_decide_eq_true h5⟩
def kinds6 : List String := ["NoneType", "bool", "int", "str", "tuple", "list"]
def eqB (K : PySem.W.Frag) (C f : Addr) : Bool := eqO (PySem.W.findIn K (.ref C) "__eq__") (some (some (.ref f))) && (PySem.W.isFn K (.ref f) && ((kinds6.all fun t => PySem.W.notFirst K C (.type t)) &&
  shapeB K C fun N bm _ _ => decide (bm = [.type "object"]) && (PySem.W.nsOkIn K N && (eqO (PySem.W.nsIn K N "__eq__") (some (some (.ref f))) && eqO (PySem.W.nsIn K N "__ne__") (some none)))))
theorem eqB_ok {K : PySem.W.Frag} {g : Gm} {c : Nat} {f : Addr} (h : eqB K (g.cl c) f = true) : EqG K g c f := by
  obtain ⟨h1, h⟩ := ba h
  obtain ⟨h2, h⟩ := ba h
  obtain ⟨h3, h4⟩ := ba h
  obtain ⟨nm, q, N, bs, bm, hdct, sn, sub, ab, col, dd, k0, k1, k2, k3, k5, nw, e, h5⟩ := shape_ok h4
  obtain ⟨h5, h6⟩ := ba h5
  obtain ⟨h6, h7⟩ := ba h6
  obtain ⟨h7, h8⟩ := ba h7
  obtain rfl := of_decide_eq_true h5
  exact ⟨eqO_ok h1, h2, fun t ht => List.all_eq_true.mp h3 t ht, ⟨nm, q, N, bs, hdct, sn, sub, ab, col, dd, k0, k1, k2, k3, k5, nw, e, h6, eqO_ok h7, eqO_ok h8⟩⟩
def isiB (K : PySem.W.Frag) (cl : Nat → Addr) (c : Nat) (os : List (Nat × Bool)) : Bool := (kinds6.all fun t => decide (PySem.W.kitOne K (.type t) (.ref (cl c)) = some false)) && os.all fun p => objB K (cl p.1) && decide (PySem.W.kitOne K (.ref (cl p.1)) (.ref (cl c)) = some p.2)
theorem isiB_ok {K : PySem.W.Frag} {g : Gm} {c : Nat} {os : List (Nat × Bool)} (h : isiB K g.cl c os = true) : IsiG K g c os := by
  obtain ⟨h1, h2⟩ := ba h
  refine ⟨fun t ht => of_decide_eq_true (List.all_eq_true.mp h1 t ht), fun p hp => ?_⟩
  obtain ⟨h3, h4⟩ := ba (List.all_eq_true.mp h2 p hp)
  exact ⟨objB_ok h3, of_decide_eq_true h4⟩
def clsGB (K : PySem.W.Frag) (C : Addr) (ns : List Str) : Bool := clsB K C && ns.all fun f => eqO (PySem.W.findIn K (.ref C) f) (some none)
theorem clsGB_ok {K : PySem.W.Frag} {g : Gm} {c : Nat} {ns : List Str} (h : clsGB K (g.cl c) ns = true) (fl : g.fl c = ns) (nd : ns.Nodup) (lt : ns.length < 1000) : ClsG K g c ns := by
  obtain ⟨h1, h2⟩ := ba h
  exact ⟨clsB_ok h1, fl, nd, lt, fun f hf => eqO_ok (List.all_eq_true.mp h2 f hf)⟩
def mkB (K : PySem.W.Frag) (C f : Addr) : Bool := PySem.W.makesIn K C && (eqO (PySem.W.findIn K (.ref C) "__init__") (some (some (.ref f))) && (PySem.W.isFn K (.ref f) && PySem.W.keepIn K (.ref C)))
theorem mkB_ok {K : PySem.W.Frag} {C f : Addr} (h : mkB K C f = true) : Mk K C f := by
  obtain ⟨h1, h⟩ := ba h
  obtain ⟨h2, h⟩ := ba h
  obtain ⟨h3, h4⟩ := ba h
  exact ⟨h1, eqO_ok h2, h3, h4⟩
def exB (K : PySem.W.Frag) (cl : Nat → Addr) (ex : Nat → Nat → Option Bool) (n : Nat) : Bool := (List.range n).all fun c => (List.range n).all fun c' => match ex c c' with
  | some b => decide (PySem.W.exmOne K (.ref (cl c)) (.ref (cl c')) = some b)
  | none => true
theorem exB_ok {K : PySem.W.Frag} {g : Gm} {ex : Nat → Nat → Option Bool} {n : Nat} (h : exB K g.cl ex n = true) (hn : ∀ c c' b, ex c c' = some b → c < n ∧ c' < n) : ExOk K g ex := fun c c' b e => by
  obtain ⟨h1, h2⟩ := hn c c' b e
  have z := List.all_eq_true.mp (List.all_eq_true.mp h c (List.mem_range.mpr h1)) c' (List.mem_range.mpr h2)
  rw [e] at z
  exact of_decide_eq_true z
/-- an error's class and its __init__ -/
def badB (K : PySem.W.Frag) (C fI : Addr) (nm file : Str) : Bool := (shapeB K C fun _ bm hd nw => PySem.HandSPX.refsVE bm && (hd && decide (nw = "ValueError.__new__"))) && (eqO (PySem.W.findIn K (.ref C) "__setattr__") (some (some (.builtin "object.__setattr__"))) &&
  (eqO (PySem.W.findIn K (.ref C) "__getattribute__") (some (some (.builtin "BaseException.__getattribute__"))) && (eqO (PySem.W.findIn K (.ref C) "__getattr__") (some none) && (eqO (PySem.W.findIn K (.ref C) nm) (some none) && (eqO (PySem.W.findIn K (.ref C) "__init__") (some (some (.ref fI))) &&
  (decide (PySem.W.typeIn K (.ref fI) = some (.type "function")) && (PySem.W.keepIn K (.ref C) && (decide (PySem.W.subIn K (.ref C) (.type "BaseException") = some true) && (decide (PySem.W.subIn K (.ref C) (.type "ValueError") = some true) && (decide (PySem.W.typeIn K (.ref C) = some (.type "type")) &&
  (PySem.W.hasDictIn K C && (eqO (PySem.W.ks_superIn K C C "__init__") (some (some (.builtin "ValueError.__init__"))) && (eqO (PySem.W.nsIn K cStatics "thirdparty.any") (some none) && (match K.lookup fI with
    | some ⟨_, _, .func fd, _⟩ => (match fd.defaults, fd.kwdefaults, fd.code, fd.closure with
      | .none, .none, .ref cda, [(_, cc)] => PySem.W.codeIn K (.ref cda) fd.qualname && ((match K.lookup cda with
          | some ⟨_, _, .fields vs, _⟩ => (match (vs[2]? : Option Value) with | some (.str y _) => decide (y = file) | _ => false)
          | _ => false) && (match K.lookup cc with
          | some ⟨_, _, .cell (some (.ref C')), _⟩ => decide (C' = C)
          | _ => false))
      | _, _, _, _ => false)
    | _ => false))))))))))))))
abbrev FnZ : Type := Option (Str × Str × Arguments × FuncBody × Scope × Addr × List Str × Addr)
def fnZ (K : PySem.W.Frag) (p : Str × Option Str) : FnZ := match K.lookup (fAd K p) with
  | some ⟨_, _, .func fd, _⟩ => some (fd.name, fd.qualname, fd.params, fd.body, fd.scope, fd.globals, fd.closure.map (·.1), fd.builtins)
  | _ => none
structure ZD where
  at_ : Str × Option Str
  qual : Str
  params : Arguments
  body : List Stmt
  scope : Scope
def ZD.val (d : ZD) : FnZ := some ("__init__", d.qual, d.params, .stmts d.body, d.scope, mainGlobals, ["__class__"], builtinsNs)
theorem bad_ok {P : Program} {K : PySem.W.Frag} {mg : Str → Option Value} {C : Addr} {nm : Str} {d : ZD} (h : badB K C (fAd K d.at_) nm P.main.file = true) (e : fnZ K d.at_ = d.val) (ms : mg "super" = none) (ht : (P.main.scope.names.lookup ("super" : Str)).isSome = false)
    (hp : ∃ p1 p2, d.params = PySem.BadX.iA p1 p2 nm) (hb : ∃ a1 a2 a3 a4 a5 a6 b1 b2 b3 b4, d.body = PySem.BadX.iB nm a1 a2 a3 a4 a5 a6 b1 b2 b3 b4 ∧ (a3.endLine == a5.line) = true) (hs : d.scope = PySem.BadX.iS nm) : PySem.BadX.BadTxt P K mg C (fAd K d.at_) nm := by
  obtain ⟨h1, h⟩ := ba h
  obtain ⟨h2, h⟩ := ba h
  obtain ⟨h3, h⟩ := ba h
  obtain ⟨h4, h⟩ := ba h
  obtain ⟨h5, h⟩ := ba h
  obtain ⟨h6, h⟩ := ba h
  obtain ⟨h7, h⟩ := ba h
  obtain ⟨h8, h⟩ := ba h
  obtain ⟨h9, h⟩ := ba h
  obtain ⟨h10, h⟩ := ba h
  obtain ⟨h11, h⟩ := ba h
  obtain ⟨h12, h⟩ := ba h
  obtain ⟨h13, h⟩ := ba h
  obtain ⟨h14, h15⟩ := ba h
  obtain ⟨n, q, N, bs, bm, hdct, sn, sub, ab, col, dd, k0, k1, k2, k3, k5, nw, eC, z⟩ := shape_ok h1
  obtain ⟨z1, z⟩ := ba z
  obtain ⟨z2, z3⟩ := ba z
  obtain rfl : hdct = true := z2
  obtain rfl := of_decide_eq_true z3
  refine ⟨⟨n, q, N, bs, bm, sn, sub, ab, col, dd, k0, k1, k2, k3, k5, eC, z1⟩, eqO_ok h2, eqO_ok h3, eqO_ok h4, eqO_ok h5, eqO_ok h6, of_decide_eq_true h7, h8, of_decide_eq_true h9, of_decide_eq_true h10, of_decide_eq_true h11, h12, eqO_ok h13, eqO_ok h14, ms, ht, ?_⟩
  obtain ⟨p1, p2, hp⟩ := hp
  obtain ⟨a1, a2, a3, a4, a5, a6, b1, b2, b3, b4, hb, ha⟩ := hb
  unfold fnZ at e
  split at h15
  · rename_i oc od fd osl ho
    rw [ho] at e
    obtain ⟨n1, n2, n3, n4, n5, n6, n7, n8, n9, n10, n11, n12, n13, n14, n15⟩ := fd
    simp only at h15
    split at h15
    · rename_i cda w cc
      obtain ⟨y1, y⟩ := ba h15
      obtain ⟨y2, y3⟩ := ba y
      have e2 : (some (n1, n2, n3, n4, n5, n6, [w], n15) : FnZ) = d.val := e
      simp only [ZD.val, Option.some.injEq, Prod.mk.injEq] at e2
      obtain ⟨x1, x2, x3, x4, x5, x6, x7, x8⟩ := e2
      subst x1 x2 x3 x4 x5 x6 x8
      have x9 : w = "__class__" := (List.cons.inj x7).1
      subst x9
      split at y2
      · rename_i ccl cdd vs ccs hc
        split at y2
        · rename_i y t hv
          obtain rfl := of_decide_eq_true y2
          split at y3
          · rename_i cl cld C' csl hcc
            obtain rfl := of_decide_eq_true y3
            exact ⟨oc, od, n10, n11, n12, cda, cc, n14, osl, p1, p2, a1, a2, a3, a4, a5, a6, b1, b2, b3, b4, d.qual, ccl, cdd, vs, ccs, t, cl, cld, csl, by rw [ho, hp, hb, hs] <;> rfl, y1, ha, hc, hv, hcc⟩
          · cases y3
        · cases y2
      · cases y2
    · cases h15
  · cases h15
end Zp
set_option Elab.async false
set_option linter.all false
set_option maxRecDepth 100000
set_option maxHeartbeats 2000000
/-! Den25: the Hook by those checks; the law's run. -/
namespace Zp
open PySem PySem.Spec PyProof.Rows L2 He
abbrev AlZ : Type := AlD × (Bool × List FnZ)
def asZ (g : Addr → Option Obj) (n : Nat) : List Addr := cStatics :: asD g n
abbrev frZ (g : Addr → Option Obj) (n : Nat) : PySem.W.Frag := frT g (asZ g n)
structure SaysZ (fa : List Fa) (fn : List DefD) (fz : List ZD) (tf : List Defn) (ex : PySem.W.Frag → Bool) (h : Heap) (K : PySem.W.Frag) : Prop where
  d : SaysD fa fn K
  z : fz.map (fun d => fnZ K d.at_) = fz.map ZD.val
  more : ex K = true
  hd : ∀ p ∈ tf, PySem.W.codeHdIn K (cT K p).1 (cT K p).2 = true
  out : ∀ p ∈ tf, K.lookup (cT K p).2 = none
  empty : ∀ p ∈ tf, h.get? (cT K p).2 = some { cls := .none, data := .fields #[] }
def obsZ (n : Nat) (fa : List Fa) (fn : List DefD) (fz : List ZD) (tf : List Defn) (ex : PySem.W.Frag → Bool) (g : Addr → Option Obj) : AlZ := (obsD fa fn (frZ g n), (ex (frZ g n) && tabsB g tf (frZ g n), fz.map fun d => fnZ (frZ g n) d.at_))
def valZ (fn : List DefD) (fz : List ZD) : AlZ := (valD fn, (true, fz.map ZD.val))
theorem saysZ_of {n : Nat} {fa : List Fa} {fn : List DefD} {fz : List ZD} {tf : List Defn} {ex : PySem.W.Frag → Bool} {h : Heap} (e : obsZ n fa fn fz tf ex h.get? = valZ fn fz) : SaysZ fa fn fz tf ex h (frZ h.get? n) := by
  have e1 : obsD fa fn (frZ h.get? n) = valD fn := congrArg (fun z : AlZ => z.1) e
  have e2 : (ex (frZ h.get? n) && tabsB h.get? tf (frZ h.get? n)) = true := congrArg (fun z : AlZ => z.2.1) e
  have e3 : fz.map (fun d => fnZ (frZ h.get? n) d.at_) = fz.map ZD.val := congrArg (fun z : AlZ => z.2.2) e
  obtain ⟨h1, h2⟩ := ba e2
  have key : ∀ p ∈ tf, PySem.W.codeHdIn (frZ h.get? n) (cT (frZ h.get? n) p).1 (cT (frZ h.get? n) p).2 = true ∧ ∃ o, h.get? (cT (frZ h.get? n) p).2 = some o ∧ emptyTab o = true := fun p hp => by
    obtain ⟨h3, h4⟩ := ba (List.all_eq_true.mp h2 p hp)
    refine ⟨h3, ?_⟩
    split at h4
    · exact ⟨_, by assumption, h4⟩
    · cases h4
  refine ⟨e1, e3, h1, fun p hp => (key p hp).1, fun p hp => ?_, fun p hp => ?_⟩
  · obtain ⟨_, o, q, z⟩ := key p hp
    exact frT_none q z
  · obtain ⟨_, o, q, z⟩ := key p hp
    rw [q, emptyTab_eq z]
def hookZ (n : Nat) (fa : List Fa) (fn : List DefD) (fz : List ZD) (tf : List Defn) (ex : PySem.W.Frag → Bool) : PySem.W.Hook where
  α := AlZ
  obs := fun s => obsZ n fa fn fz tf ex s.heap.get?
  val := fun _ => valZ fn fz
  says := fun _ h => ∃ K : PySem.W.Frag, K.In h ∧ SaysZ fa fn fz tf ex h K
  of := fun _ _ e => ⟨_, frT_in, saysZ_of e⟩
  keeps := fun _ _ _ ⟨K, hK, c⟩ k => ⟨K, PySem.W.Frag.In.keeps hK k, ⟨c.d, c.z, c.more, c.hd, c.out, fun p hp => k _ _ (c.empty p hp)⟩⟩
theorem obsZ_eq {n : Nat} {fa : List Fa} {fn : List DefD} {fz : List ZD} {tf : List Defn} {ex : PySem.W.Frag → Bool} {g : Addr → Option Obj} {s : Shared} (h : ∀ a, g a = s.heap.get? a) : obsZ n fa fn fz tf ex g = (hookZ n fa fn fz tf ex).obs s := by
  have e : g = s.heap.get? := funext h
  rw [e] <;> rfl
theorem SaysZ.bad {fa : List Fa} {fn : List DefD} {fz : List ZD} {tf : List Defn} {ex : PySem.W.Frag → Bool} {h : Heap} {K : PySem.W.Frag} (c : SaysZ fa fn fz tf ex h K) (i : Nat) {d : ZD} (hi : fz[i]? = some d := by rfl) : fnZ K d.at_ = d.val := by
  have e2 : (fz.map fun d => fnZ K d.at_)[i]? = (fz.map ZD.val)[i]? := by rw [c.z]
  rw [List.getElem?_map, List.getElem?_map, hi] at e2
  exact Option.some.inj e2
theorem fun_of {K : PySem.W.Frag} {x qual : Str} {st : Stmt} {f : Addr} {fd : FuncData} (F : FunD K x qual (defArgs st) (defBody st) (defScope st) [] [] f fd) : Fun K x qual st f fd := by
  obtain ⟨oc, od, dV, kV, doc, pm, an, cdv, ct, osl, rfl, lk, hcd, hD, hK⟩ := F.ex
  rcases hD with ⟨_, rfl⟩ | ⟨e, _⟩
  · exact ⟨⟨oc, od, kV, doc, pm, an, cdv, ct, osl, rfl, lk, hcd⟩, F.kp⟩
  · exact absurd rfl e
theorem fdk_dfl {P : Program} {w : World} {K : PySem.W.Frag} {mg : Str → Option Value} {base : Heap} {g : Gm} {x : Str} {f : Addr} {fd : FuncData} {ps : List Str} {dvs : List V} {dv : List D} {lev n : Nat} {fn : FF} (hm : mg x = some (.ref f)) (hk : PySem.W.keepIn K (.ref f) = true)
    (hb : ∃ us, Vals dvs us ∧ Binds K fd ps us) (hr : ∀ G, Reps K g G dvs dv) (F : FnOk P w K mg base (L2.CX P w) lev f fd ps (spD K g n fn)) : FDk P w K mg base g x lev n dv fn := by
  obtain ⟨us, h1, h2⟩ := hb
  exact ⟨f, fd, ps, dvs, us, hm, hk, h2, h1, hr, F⟩
theorem mkk_of {P : Program} {w : World} {K : PySem.W.Frag} {mg : Str → Option Value} {base : Heap} {g : Gm} {x : Str} {f : Addr} {fd : FuncData} {ps : List Str} {lev c n : Nat} {fn : FF} (M : Mk K (g.cl c) f) (hm : mg x = some (.ref (g.cl c))) (hb : Binds K fd ps [])
    (F : FnOk P w K mg base (L2.CX P w) lev f fd ps (spI K g c n fn)) : MKk P w K mg base g x lev c n fn := ⟨f, fd, ps, M, hm, hb, F⟩
theorem eqk_of {P : Program} {w : World} {K : PySem.W.Frag} {mg : Str → Option Value} {base : Heap} {g : Gm} {f : Addr} {fd : FuncData} {ps : List Str} {lev c : Nat} {fn : FF} (O : ObjK K g c) (E : EqG K g c f) (hb : Binds K fd ps [])
    (F : FnOk P w K mg base (L2.CX P w) lev f fd ps (spD K g 2 fn)) : EQk P w K mg base g lev c fn := ⟨f, fd, ps, O, E, hb, F⟩
theorem cpk_of {K : PySem.W.Frag} {mg : Str → Option Value} {x a : Str} {st : Stmt} {f : Addr} {fd : FuncData} (hm : mg x = some (.ref f)) (F : Fun K x x st f fd) (hb : Binds K fd [a] []) : CPk K mg x a st := by
  obtain ⟨oc, od, kV, doc, pm, an, cdv, ct, osl, rfl, lk, hcd⟩ := F.ex
  exact ⟨f, kV, doc, pm, cdv, ct, oc, an, od, osl, hm, F.kp, lk, hcd, hb⟩
theorem tabs0 {H : Hp} {a : Addr} {q : Str} (h : H a = some (.tbl #[])) : LamX.Tabs [(a, q)] H := fun p hp => by
  obtain rfl := List.mem_singleton.mp hp
  refine ⟨#[], h, ?_, fun pos cv e => ?_⟩
  · trivial
  · cases e
def ofI (i : Int) : Dv := .int i
theorem reps_ints {K : PySem.W.Frag} {g : Gm} {G : Hp} : ∀ ns : List Int, Reps K g G ((ns.map Dv.int).map (Dv.v K)) (ns.map D.int)
  | [] => Reps.nil
  | n :: ns => Reps.cons (.int n) (reps_ints ns)
theorem con_tup {K : PySem.W.Frag} {mg : Str → Option Value} {x : Str} {ns : List Int} (hm : mg x = some (.ref (ga K x))) (h : tupB K x (ns.map Dv.int) = true) : CONk K mg x (.tup (ns.map D.int)) :=
  ⟨.ref (ga K x), .ref (ga K x), hm, rfl, fun g G => .tup (tupB_ok h G) (reps_ints (g := g) (G := G) ns).1 (reps_ints (g := g) (G := G) ns).2⟩
theorem con_int {K : PySem.W.Frag} {h : Heap} {mg : Str → Option Value} (X : K.In h) (G : h.Ns mainGlobals mg) {x : Str} {i : Int} (c : (Fa.int x i).ok K = true) : CONk K mg x (.int i) := by
  obtain ⟨t, e⟩ := int_ok X G c
  exact ⟨.int i, .int i t, e, ⟨t, rfl⟩, fun g G => .int i⟩
theorem law_run {P : Program} {w : World} {K : PySem.W.Frag} {mg : Str → Option Value} {base : Heap} {H : Hp} {a : Addr} {ns : List Int} {s : Shared} {st : Stmt} {m lev : Nat} {fa fp : Addr} {fd fdp : FuncData} {N : List Str} {g0 : Gm} {fb : SF} {p1 p2 p3 p4 p5 : Pos} {rest : List Stmt}
    (F : Fun K "law" "law" st fa fd) (hfa : fa = fAd K (("law" : Str), none)) (S : FnScope N ["script"] (defScope st)) (hst : defBody st = .Assign [.Name "pen" p1] (.Call (.Name "_law_pen" p2) [.Name "script" p3] [] p4) p5 :: rest)
    (hb : ∀ (u : Value), BindsTo s fd ⟨[u], []⟩ [("script", u)])
    (hpa : g0.pa = none) (Fp : FnOk P w K mg base (L2.CX P w) 1 fp fdp ["script"] (spPen K g0)) (hmp : mg "_law_pen" = some (.ref fp)) (hkp : PySem.W.keepIn K (.ref fp) = true) (hbp : Binds K fdp ["script"] [])
    (e0 : Env0 P w K mg base callerA [] s H) (hs : SqL K H a (ns.map V.int)) (tb : LamX.Tabs g0.tb H) (hr : Room (lev + 1) callerA) (h1 : 1 ≤ lev)
    (B : ∀ g, g.cl = g0.cl → g.fl = g0.fl → g.tb = g0.tb → Room lev (callerA.deeper (envOfC "law" (defScope st) s.heap.objs.size fa (.ref (codeOf K (("law" : Str), none))))) →
      ∃ t, DSs (cxOf (L2.CX P w) P w K mg base N "law" (defScope st) fa (.ref (codeOf K (("law" : Str), none))) callerA [] s H (fun _ _ _ => False)) g (fun _ _ _ _ => False) rest t fb)
    (ho : ∃ s', fb (.no :: .val .pen :: List.replicate m .no) (penOf ns) = .ret (.bl true) s') (n0 : N[0]? = some ("script" : Str)) (n1 : N[1]? = some ("pen" : Str)) (hl : Loc (defScope st) "pen") (hv : Vis (defScope st) "script") (hz : ∀ a, start N [.ref a] = some (.ref a) :: none :: List.replicate m none)
    (hcalm : ∀ c, Gl (cxOf (L2.CX P w) P w K mg base N "law" (defScope st) fa (.ref c) callerA [] s H (fun _ _ _ => False)) "_law_pen")
    (he : ∀ c, starEach [.Name "script" p3] (cxOf (L2.CX P w) P w K mg base N "law" (defScope st) fa (.ref c) callerA [] s H (fun _ _ _ => False)).env = (false, eval (.Name "script" p3) (cxOf (L2.CX P w) P w K mg base N "law" (defScope st) fa (.ref c) callerA [] s H (fun _ _ _ => False)).env) :: starEach [] (cxOf (L2.CX P w) P w K mg base N "law" (defScope st) fa (.ref c) callerA [] s H (fun _ _ _ => False)).env)
    (hsw : ∀ c, swapsWith (.Call (.Name "_law_pen" p2) [.Name "script" p3] [] p4) (some (.Name "pen" p1)) p5.line (cxOf (L2.CX P w) P w K mg base N "law" (defScope st) fa (.ref c) callerA [] s H (fun _ _ _ => False)).env = pure false) :
    codeAny (model P w) callerA (.call (.ref fa) ⟨[.ref a], []⟩) (CR (L2.CX P w) [] P w H s (fun v _ => v = .bl true) fun _ _ _ => False) s := by
  obtain ⟨oc, od, kV, doc, pm, an, cdv, ct, osl, rfl, lk, hcd⟩ := F.ex
  obtain ⟨c, rfl⟩ := codeIn_ref hcd
  have ec : codeOf K (("law" : Str), none) = c := codeOf_eq (p := (("law" : Str), none)) (by rw [← hfa]; exact lk) rfl
  subst ec
  refine LamX.run_ofS (N := N) (ps := ["script"]) (us := [.ref a]) (vs := [.ref a]) lk hcd S hr e0 (hb (.ref a)) (.cons rfl .nil) rfl fun hr' => ?_
  rw [hst]
  exact law_body (X := cxOf (L2.CX P w) P w K mg base N "law" (defScope st) fa (.ref (codeOf K (("law" : Str), none))) callerA [] s H (fun _ _ _ => False)) hpa Fp (hr'.mono h1) hmp hkp hbp (takes_of rfl rfl rfl rfl) S.nd n0 n1 hl hv (.inl rfl) hz (fun g e1 e2 e3 => B g e1 e2 e3 hr') hs tb ho (hcalm _) (he _) rfl (hsw _)
end Zp
set_option Elab.async false
set_option linter.all false
set_option maxRecDepth 100000
set_option maxHeartbeats 2000000
/-! Den26: words evaluated; what == says of plain data; loops. -/
namespace Zp
open PySem PySem.Spec L2
/-! ### words -/
section
variable {α β : Type} {ρ : List Sv} {s : PenS} {d : D}
@[simp] theorem b_ok {a : α} {k : α → PenS → ResE β} : (ResE.ok a s).bind k = k a s := rfl
@[simp] theorem b_bad {k : α → PenS → ResE β} : (ResE.bad).bind k = .bad := rfl
@[simp] theorem b_exc {c : Nat} {ds : List D} {k : α → PenS → ResE β} : (ResE.exc c ds s).bind k = .exc c ds s := rfl
@[simp] theorem l_some {a : α} : lift (some a) s = .ok a s := rfl
@[simp] theorem l_none : lift (none : Option α) s = .bad := rfl
@[simp] theorem s_ok {a : α} {k : α → PenS → ResS} : eS (.ok a s) ρ k = k a s := rfl
@[simp] theorem s_bad {k : α → PenS → ResS} : eS .bad ρ k = .bad := rfl
@[simp] theorem s_exc {c : Nat} {ds : List D} {k : α → PenS → ResS} : eS (.exc c ds s) ρ k = .exc c ds ρ s := rfl
@[simp] theorem q_nx {k : SF} : (ResS.nx ρ s).seq k = k ρ s := rfl
@[simp] theorem q_ret {k : SF} : (ResS.ret d s).seq k = .ret d s := rfl
@[simp] theorem q_exc {c : Nat} {ds : List D} {k : SF} : (ResS.exc c ds ρ s).seq k = .exc c ds ρ s := rfl
@[simp] theorem x_ok {a : α} : noX (.ok a s) = .ok a s := rfl
theorem v_var {i : Nat} (h : ρ[i]? = some (.val d)) : eVar i ρ s = .ok d s := by unfold eVar; rw [h]
@[simp] theorem a_eVar (i : Nat) (ρ : List Sv) (s : PenS) : eVar i ρ s = (match ρ[i]? with
  | some (.val d) => .ok d s
  | _ => .bad) := rfl
@[simp] theorem a_eC (d : D) (ρ : List Sv) (s : PenS) : eC d ρ s = (.ok d s) := rfl
@[simp] theorem a_eOp (o : D → D → Option D) (f h : EF) (ρ : List Sv) (s : PenS) : eOp o f h ρ s = ((f ρ s).bind fun a s1 => (h ρ s1).bind fun b s2 => lift (o a b) s2) := rfl
@[simp] theorem a_eUn (o : D → Option D) (f : EF) (ρ : List Sv) (s : PenS) : eUn o f ρ s = ((f ρ s).bind fun a s1 => lift (o a) s1) := rfl
@[simp] theorem a_aNil (ρ : List Sv) (s : PenS) : aNil ρ s = (.ok [] s) := rfl
@[simp] theorem a_aCons (f : EF) (h : AF) (ρ : List Sv) (s : PenS) : aCons f h ρ s = ((f ρ s).bind fun a s1 => (h ρ s1).bind fun as s2 => .ok (a :: as) s2) := rfl
@[simp] theorem a_eTup (f : AF) (ρ : List Sv) (s : PenS) : eTup f ρ s = ((f ρ s).bind fun ds s1 => lift (if szB ds.length = true then some (.tup ds) else none) s1) := rfl
@[simp] theorem a_oLst (f : AF) (ρ : List Sv) (s : PenS) : oLst f ρ s = ((f ρ s).bind fun ds s1 => lift (if szB ds.length = true then some ds else none) s1) := rfl
@[simp] theorem a_eFrz (f : AF) (ρ : List Sv) (s : PenS) : eFrz f ρ s = ((f ρ s).bind fun ds s1 => .ok (.lst ds) s1) := rfl
@[simp] theorem a_bOf (f : EF) (ρ : List Sv) (s : PenS) : bOf f ρ s = ((f ρ s).bind fun d s1 => lift (seqOf d) s1) := rfl
@[simp] theorem a_bOwn (i : Nat) (ρ : List Sv) (s : PenS) : bOwn i ρ s = (match ρ[i]? with
  | some (.own ds) => .ok (false, ds) s
  | _ => .bad) := rfl
@[simp] theorem a_eB (o : Bool × List D → Option D) (f : BF) (ρ : List Sv) (s : PenS) : eB o f ρ s = ((f ρ s).bind fun p s1 => lift (o p) s1) := rfl
@[simp] theorem a_eBE (o : Bool × List D → D → Option D) (f : BF) (h : EF) (ρ : List Sv) (s : PenS) : eBE o f h ρ s = ((f ρ s).bind fun p s1 => (h ρ s1).bind fun d s2 => lift (o p d) s2) := rfl
@[simp] theorem a_eEB (o : D → Bool × List D → Option D) (f : EF) (h : BF) (ρ : List Sv) (s : PenS) : eEB o f h ρ s = ((f ρ s).bind fun d s1 => (h ρ s1).bind fun p s2 => lift (o d p) s2) := rfl
@[simp] theorem a_tOf (f : EF) (ρ : List Sv) (s : PenS) : tOf f ρ s = ((f ρ s).bind fun d s1 => lift (boolOf d) s1) := rfl
@[simp] theorem a_tAndF (f h : TF) (ρ : List Sv) (s : PenS) : tAndF f h ρ s = ((f ρ s).bind fun b s1 => if b = true then h ρ s1 else .ok false s1) := rfl
@[simp] theorem a_tOrF (f h : TF) (ρ : List Sv) (s : PenS) : tOrF f h ρ s = ((f ρ s).bind fun b s1 => if b = true then .ok true s1 else h ρ s1) := rfl
@[simp] theorem a_tNotF (f : TF) (ρ : List Sv) (s : PenS) : tNotF f ρ s = ((f ρ s).bind fun b s1 => .ok (!b) s1) := rfl
@[simp] theorem a_eAndV (f h : EF) (ρ : List Sv) (s : PenS) : eAndV f h ρ s = ((f ρ s).bind fun d s1 => match d with
  | .bl true => h ρ s1
  | .bl false => .ok (.bl false) s1
  | _ => .bad) := rfl
@[simp] theorem a_eOrV (f h : EF) (ρ : List Sv) (s : PenS) : eOrV f h ρ s = ((f ρ s).bind fun d s1 => match d with
  | .bl true => .ok (.bl true) s1
  | .bl false => h ρ s1
  | _ => .bad) := rfl
@[simp] theorem a_eNotV (f : EF) (ρ : List Sv) (s : PenS) : eNotV f ρ s = ((f ρ s).bind fun d s1 => match d with
  | .bl b => .ok (.bl (!b)) s1
  | _ => .bad) := rfl
@[simp] theorem a_eIf (c : TF) (f h : EF) (ρ : List Sv) (s : PenS) : eIf c f h ρ s = ((c ρ s).bind fun b s1 => if b = true then f ρ s1 else h ρ s1) := rfl
@[simp] theorem a_eChain (o o' : D → D → Option D) (f h k : EF) (ρ : List Sv) (s : PenS) : eChain o o' f h k ρ s = ((f ρ s).bind fun a s1 => (h ρ s1).bind fun b s2 => (lift (o a b) s2).bind fun c s3 => chainB c s3 fun s3 => (k ρ s3).bind fun e s4 => lift (o' b e) s4) := rfl
@[simp] theorem a_oNone (ρ : List Sv) (s : PenS) : oNone ρ s = (.ok none s) := rfl
@[simp] theorem a_oSome (f : EF) (ρ : List Sv) (s : PenS) : oSome f ρ s = ((f ρ s).bind fun d s1 => lift ((intOf d).map some) s1) := rfl
@[simp] theorem a_eSlice (f : BF) (l h : OF) (ρ : List Sv) (s : PenS) : eSlice f l h ρ s = ((f ρ s).bind fun p s1 => (l ρ s1).bind fun lo s2 => (h ρ s2).bind fun hi s3 => .ok (if p.1 = true then .tup (cutD p.2 lo hi) else .lst (cutD p.2 lo hi)) s3) := rfl
@[simp] theorem a_iEB (f : EF) (ρ : List Sv) (s : PenS) : iEB f ρ s = ((f ρ s).bind fun d s1 => match d with
  | .lst ds => .ok ds s1
  | .tup ds => .ok ds s1
  | _ => .bad) := rfl
@[simp] theorem a_iEnE (f : EF) (ρ : List Sv) (s : PenS) : iEnE f ρ s = ((f ρ s).bind fun d s1 => match d with
  | .lst ds => .ok (enumD 0 ds) s1
  | .tup ds => .ok (enumD 0 ds) s1
  | _ => .bad) := rfl
@[simp] theorem a_iRange1 (f : EF) (ρ : List Sv) (s : PenS) : iRange1 f ρ s = ((f ρ s).bind fun d s1 => lift (rg2 (.int 0) d) s1) := rfl
@[simp] theorem a_iRange2 (f h : EF) (ρ : List Sv) (s : PenS) : iRange2 f h ρ s = ((f ρ s).bind fun d s1 => (h ρ s1).bind fun e s2 => lift (rg2 d e) s2) := rfl
@[simp] theorem a_iRange3 (f h k : EF) (ρ : List Sv) (s : PenS) : iRange3 f h k ρ s = ((f ρ s).bind fun d s1 => (h ρ s1).bind fun e s2 => (k ρ s2).bind fun c s3 => lift (rg3 d e c) s3) := rfl
@[simp] theorem a_oComp (vs : List Nat) (fi : AF) (gf : GF) (ft : TF) (fe : EF) (ρ : List Sv) (s : PenS) : oComp vs fi gf ft fe ρ s = ((fi ρ s).bind fun ds s1 => if szB ds.length = true then compGo gf ft fe (wipeS ρ vs) ds s1 else .bad) := rfl
@[simp] theorem a_tYesF (ρ : List Sv) (s : PenS) : tYesF ρ s = (.ok true s) := rfl
@[simp] theorem a_sNil (ρ : List Sv) (s : PenS) : sNil ρ s = (.nx ρ s) := rfl
@[simp] theorem a_sSeq (f h : SF) (ρ : List Sv) (s : PenS) : sSeq f h ρ s = ((f ρ s).seq h) := rfl
@[simp] theorem a_sDrop (f : EF) (ρ : List Sv) (s : PenS) : sDrop f ρ s = (eS (f ρ s) ρ fun _ s1 => .nx ρ s1) := rfl
@[simp] theorem a_sRet (f : EF) (ρ : List Sv) (s : PenS) : sRet f ρ s = (eS (f ρ s) ρ fun d s1 => .ret d s1) := rfl
@[simp] theorem a_sRetN (ρ : List Sv) (s : PenS) : sRetN ρ s = (.ret .non s) := rfl
@[simp] theorem a_sSet (i : Nat) (f : EF) (ρ : List Sv) (s : PenS) : sSet i f ρ s = (eS (f ρ s) ρ fun d s1 => .nx (ρ.set i (.val d)) s1) := rfl
@[simp] theorem a_sSetO (i : Nat) (f : AF) (ρ : List Sv) (s : PenS) : sSetO i f ρ s = (eS (f ρ s) ρ fun ds s1 => .nx (ρ.set i (.own ds)) s1) := rfl
@[simp] theorem a_sAsg (f : EF) (gf : GF) (ρ : List Sv) (s : PenS) : sAsg f gf ρ s = (eS (f ρ s) ρ fun d s1 => match gf d ρ with
  | some ρ1 => .nx ρ1 s1
  | none => .bad) := rfl
@[simp] theorem a_sIf (c : TF) (f h : SF) (ρ : List Sv) (s : PenS) : sIf c f h ρ s = (eS (c ρ s) ρ fun b s1 => if b = true then f ρ s1 else h ρ s1) := rfl
@[simp] theorem a_sFrz (j : Nat) (f : SF) (ρ : List Sv) (s : PenS) : sFrz j f ρ s = (f (frz j ρ) s) := rfl
@[simp] theorem a_sIx (j : Nat) (fi fe : EF) (ρ : List Sv) (s : PenS) : sIx j fi fe ρ s = (match ρ[j]? with
  | some (.own ds) => eS (fe ρ s) ρ fun d s1 => eS (fi ρ s1) ρ fun i s2 => sIxK j ds d i ρ s2
  | _ => .bad) := rfl
@[simp] theorem a_sApp (j : Nat) (fe : EF) (ρ : List Sv) (s : PenS) : sApp j fe ρ s = (match ρ[j]? with
  | some (.own ds) => eS (fe ρ s) ρ fun d s1 => if szB (ds.length + 1) = true then .nx (ρ.set j (.own (ds ++ [d]))) s1 else .bad
  | _ => .bad) := rfl
@[simp] theorem a_sPop (j : Nat) (ρ : List Sv) (s : PenS) : sPop j ρ s = (match ρ[j]? with
  | some (.own ds) => if ds.isEmpty = true then .bad else .nx (ρ.set j (.own ds.dropLast)) s
  | _ => .bad) := rfl
@[simp] theorem a_vVal (f : EF) (ρ : List Sv) (s : PenS) : vVal f ρ s = ((f ρ s).bind fun d s1 => .ok (.val d) s1) := rfl
@[simp] theorem a_vOwn (f : AF) (ρ : List Sv) (s : PenS) : vOwn f ρ s = ((f ρ s).bind fun d s1 => .ok (.own d) s1) := rfl
@[simp] theorem a_sPar2 (i j : Nat) (f h : VF) (ρ : List Sv) (s : PenS) : sPar2 i j f h ρ s = (eS (f ρ s) ρ fun x s1 => eS (h ρ s1) ρ fun y s2 => .nx ((ρ.set i x).set j y) s2) := rfl
@[simp] theorem a_sPar3 (i j l : Nat) (f h k : VF) (ρ : List Sv) (s : PenS) : sPar3 i j l f h k ρ s = (eS (f ρ s) ρ fun x s1 => eS (h ρ s1) ρ fun y s2 => eS (k ρ s2) ρ fun z s3 => .nx (((ρ.set i x).set j y).set l z) s3) := rfl
@[simp] theorem a_sFor (fi : AF) (gf : GF) (b : SF) (ρ : List Sv) (s : PenS) : sFor fi gf b ρ s = (eS (fi ρ s) ρ fun ds s1 => forGo gf b ds ρ s1) := rfl
@[simp] theorem a_sWhile (n : Nat) (c : TF) (b : SF) (ρ : List Sv) (s : PenS) : sWhile n c b ρ s = (whileN c b n ρ s) := rfl
@[simp] theorem a_eCall (n : Nat) (fn : FF) (fa : AF) (ρ : List Sv) (s : PenS) : eCall n fn fa ρ s = ((fa ρ s).bind fun ds s1 => if ds.length = n then fn ds s1 else .bad) := rfl
@[simp] theorem a_eCallD (n : Nat) (fn : FF) (dv : List D) (fa : AF) (ρ : List Sv) (s : PenS) : eCallD n fn dv fa ρ s = ((fa ρ s).bind fun ds s1 => if (ds ++ dv).length = n then fn (ds ++ dv) s1 else .bad) := rfl
@[simp] theorem a_eFldS (c j : Nat) (f : Str) (ρ : List Sv) (s : PenS) : eFldS c j f ρ s = (match ρ[j]? with
  | some (.ins c' fs) => if c' = c then lift (fs.lookup f) s else .bad
  | _ => .bad) := rfl
@[simp] theorem a_sFldS (c j : Nat) (ns : List Str) (f : Str) (fe : EF) (ρ : List Sv) (s : PenS) : sFldS c j ns f fe ρ s = (eS (fe ρ s) ρ fun d s1 => match ρ[j]? with
  | some (.ins c' fs) => if c' = c ∧ fs.length ≤ ns.length then .nx (ρ.set j (.ins c (putD f d fs))) s1 else .bad
  | _ => .bad) := rfl
@[simp] theorem a_sRaise (c : Nat) (fe : EF) (ρ : List Sv) (s : PenS) : sRaise c fe ρ s = (eS (fe ρ s) ρ fun d s1 => .exc c [d] ρ s1) := rfl
@[simp] theorem a_ePen (i : Nat) (sel : PenS → Int) (ρ : List Sv) (s : PenS) : ePen i sel ρ s = (match ρ[i]? with
  | some (.val .pen) => .ok (.int (sel s)) s
  | _ => .bad) := rfl
@[simp] theorem a_bCells (i : Nat) (ρ : List Sv) (s : PenS) : bCells i ρ s = (match ρ[i]? with
  | some (.val .pen) => .ok (false, s.cells.map D.int) s
  | _ => .bad) := rfl
@[simp] theorem a_sPen (i : Nat) (up : PenS → Int → Option PenS) (fe : EF) (ρ : List Sv) (s : PenS) : sPen i up fe ρ s = (eS (fe ρ s) ρ fun d s1 => match ρ[i]? with
  | some (.val .pen) => match d with
    | .int v => match up s1 v with
      | some s2 => .nx ρ s2
      | none => .bad
    | _ => .bad
  | _ => .bad) := rfl
@[simp] theorem a_oRep (fo : AF) (fb : EF) (ρ : List Sv) (s : PenS) : oRep fo fb ρ s = ((fo ρ s).bind fun ds s1 => (fb ρ s1).bind fun k s2 => lift (dRepL ds k) s2) := rfl
@[simp] theorem a_eEqO (c : Nat) (fn : FF) (fa fb : EF) (ρ : List Sv) (s : PenS) : eEqO c fn fa fb ρ s = ((fa ρ s).bind fun a s1 => (fb ρ s1).bind fun b s2 => if (isC c a && notP c b) = true then (noX (fn [a, b] s2)).bind (bK id) else .bad) := rfl
@[simp] theorem a_eNeO (c : Nat) (fn : FF) (fa fb : EF) (ρ : List Sv) (s : PenS) : eNeO c fn fa fb ρ s = ((fa ρ s).bind fun a s1 => (fb ρ s1).bind fun b s2 => if (isC c a && isC c b) = true then (noX (fn [a, b] s2)).bind (bK not) else .bad) := rfl
@[simp] theorem a_bNew (fo : AF) (ρ : List Sv) (s : PenS) : bNew fo ρ s = ((fo ρ s).bind fun ds s1 => .ok (false, ds) s1) := rfl
@[simp] theorem a_eCompl (okS : Str) (ex : Nat → Nat → Option Bool) (hs : List HdD) (fb : EF) (ρ : List Sv) (s : PenS) : eCompl okS ex hs fb ρ s = (complF okS ex hs (fb ρ s)) := rfl
@[simp] theorem a_oB (o : Bool × List D → Option (List D)) (f : BF) (ρ : List Sv) (s : PenS) : oB o f ρ s = ((f ρ s).bind fun p s1 => lift (o p) s1) := rfl
@[simp] theorem o_addI {i j : Int} : dAdd (.int i) (.int j) = some (.int (i + j)) := rfl
@[simp] theorem o_subI {i j : Int} : dSub (.int i) (.int j) = some (.int (i - j)) := rfl
@[simp] theorem o_negI {i : Int} : dNeg (.int i) = some (.int (-i)) := rfl
@[simp] theorem o_intI {i : Int} : dInt (.int i) = some (.int i) := rfl
@[simp] theorem o_ltI {i j : Int} : dLt (.int i) (.int j) = some (.bl (decide (i < j))) := rfl
@[simp] theorem o_leI {i j : Int} : dLe (.int i) (.int j) = some (.bl (decide (i ≤ j))) := rfl
@[simp] theorem o_gtI {i j : Int} : dGt (.int i) (.int j) = some (.bl (decide (j < i))) := rfl
@[simp] theorem o_geI {i j : Int} : dGe (.int i) (.int j) = some (.bl (decide (j ≤ i))) := rfl
theorem o_mulI {i j : Int} (h : mulOk i j = true) : dMul (.int i) (.int j) = some (.int (i * j)) := if_pos h
theorem o_modI {i j : Int} (h : 0 < j) : dMod (.int i) (.int j) = some (.int (i % j)) := if_pos h
@[simp] theorem o_len {p : Bool × List D} : dLen p = some (.int p.2.length) := rfl
@[simp] theorem o_listOf {p : Bool × List D} : dListOf p = some p.2 := rfl
@[simp] theorem o_tupOf {p : Bool × List D} : dTupOf p = some (.tup p.2) := rfl
@[simp] theorem o_bool {b : Bool} : boolOf (.bl b) = some b := rfl
@[simp] theorem o_seqT {xs : List D} : seqOf (.tup xs) = some (true, xs) := rfl
@[simp] theorem o_seqL {xs : List D} : seqOf (.lst xs) = some (false, xs) := rfl
@[simp] theorem o_intOf {i : Int} : intOf (.int i) = some i := rfl
@[simp] theorem chain_t {s : PenS} {k : PenS → ResE D} : chainB (.bl true) s k = k s := rfl
@[simp] theorem chain_f {s : PenS} {k : PenS → ResE D} : chainB (.bl false) s k = .ok (.bl false) s := rfl
theorem szB_of {n : Nat} (h : n ≤ 16777216) : szB n = true := decide_eq_true h
theorem m_run {n : Nat} {f : SF} {ds : List D} {s : PenS} : runB n f ds s = (match f (ds.map Sv.val ++ List.replicate (n - ds.length) Sv.no) s with
  | .ret d s => .ok d s
  | .nx _ s => .ok .non s
  | .exc c ds _ s => .exc c ds s
  | _ => .bad) := rfl
end
/-- a row of ints -/
abbrev L (ns : List Int) : List D := ns.map D.int
/-! ### == of plain data -/
mutual
theorem eqv_refl : ∀ d : PyData, d.canLay0 = true → PyData.eqv d d = true
  | .none, _ => by simp [PyData.eqv]
  | .bool _, _ => by simp [PyData.eqv]
  | .int _, _ => by simp [PyData.eqv]
  | .str _, _ => by simp [PyData.eqv]
  | .list xs, h => by simp only [PyData.eqv]; exact eqvAll_refl xs (by simpa [PyData.canLay0] using h)
  | .tuple xs, h => by simp only [PyData.eqv]; exact eqvAll_refl xs (by simpa [PyData.canLay0] using h)
  | .dict _, h => by simp [PyData.canLay0] at h
theorem eqvAll_refl : ∀ xs : List PyData, PyData.canLayAll0 xs = true → PyData.eqvAll xs xs = true
  | [], _ => by simp [PyData.eqvAll]
  | x :: xs, h => by
    simp only [PyData.canLayAll0, Bool.and_eq_true] at h
    simp only [PyData.eqvAll, Bool.and_eq_true]
    exact ⟨eqv_refl x h.1, eqvAll_refl xs h.2⟩
end
theorem shaped_lay {d : D} (h : shapedD d = true) : (toP d).canLay0 = true := by
  unfold shapedD PySem.SeqAt.shaped at h
  simp only [Bool.and_eq_true] at h
  exact h.2.1
theorem dEq_refl {d : D} (h : shapedD d = true) : dEq d d = some (.bl true) := by
  unfold dEq
  rw [h, eqv_refl _ (shaped_lay h)]
  rfl
theorem dNe_refl {d : D} (h : shapedD d = true) : dNe d d = some (.bl false) := by
  unfold dNe
  rw [h, eqv_refl _ (shaped_lay h)]
  rfl
theorem dEq_of {a b : D} (ha : shapedD a = true) (hb : shapedD b = true) : dEq a b = some (.bl (PyData.eqv (toP a) (toP b))) := by
  unfold dEq
  rw [ha, hb]
  rfl
theorem dNe_of {a b : D} (ha : shapedD a = true) (hb : shapedD b = true) : dNe a b = some (.bl (!PyData.eqv (toP a) (toP b))) := by
  unfold dNe
  rw [ha, hb]
  rfl
/-! how deep plain data may go -/
mutual
def niceD : Nat → D → Bool
  | _, .non => true
  | _, .bl _ => true
  | _, .int _ => true
  | _, .str x => PyData.strOk x
  | k + 1, .tup xs => niceDs k xs
  | k + 1, .lst xs => niceDs k xs
  | _, _ => false
def niceDs : Nat → List D → Bool
  | _, [] => true
  | k, x :: xs => niceD k x && niceDs k xs
end
mutual
theorem nice_ok : ∀ (k : Nat) (d : D), niceD k d = true → plainD d = true ∧ (toP d).canLay0 = true ∧ (toP d).depth ≤ k
  | _, .non, _ => by simp [plainD, toP, PyData.canLay0, PyData.depth]
  | _, .bl _, _ => by simp [plainD, toP, PyData.canLay0, PyData.depth]
  | _, .int _, _ => by simp [plainD, toP, PyData.canLay0, PyData.depth]
  | _, .str x, h => by
    have h' : PyData.strOk x = true := by simpa [niceD] using h
    simp [plainD, toP, PyData.canLay0, PyData.depth, h']
  | k + 1, .tup xs, h => by
    have h' : niceDs k xs = true := by simpa [niceD] using h
    obtain ⟨h1, h2, h3⟩ := nices_ok k xs h'
    simp [plainD, toP, PyData.canLay0, PyData.depth, h1, h2]
    omega
  | k + 1, .lst xs, h => by
    have h' : niceDs k xs = true := by simpa [niceD] using h
    obtain ⟨h1, h2, h3⟩ := nices_ok k xs h'
    simp [plainD, toP, PyData.canLay0, PyData.depth, h1, h2]
    omega
  | 0, .tup _, h => by simp [niceD] at h
  | 0, .lst _, h => by simp [niceD] at h
  | _, .obj _ _, h => by simp [niceD] at h
  | _, .pen, h => by simp [niceD] at h
theorem nices_ok : ∀ (k : Nat) (xs : List D), niceDs k xs = true → plainDs xs = true ∧ PyData.canLayAll0 (toPs xs) = true ∧ PyData.depthAll (toPs xs) ≤ k
  | _, [], _ => by simp [plainDs, toPs, PyData.canLayAll0, PyData.depthAll]
  | k, x :: xs, h => by
    have h' : niceD k x = true ∧ niceDs k xs = true := by simpa [niceDs] using h
    obtain ⟨h1, h2, h3⟩ := nice_ok k x h'.1
    obtain ⟨h4, h5, h6⟩ := nices_ok k xs h'.2
    simp [plainDs, toPs, PyData.canLayAll0, PyData.depthAll, h1, h2, h4, h5]
    omega
end
theorem nice_shaped {k : Nat} {d : D} (h : niceD k d = true) (hk : k ≤ 64) : shapedD d = true := by
  obtain ⟨h1, h2, h3⟩ := nice_ok k d h
  unfold shapedD PySem.SeqAt.shaped
  rw [h1, h2]
  simp
  omega
theorem nice_L (k : Nat) : ∀ ns : List Int, niceDs k (L ns) = true
  | [] => by simp [niceDs]
  | n :: ns => by
    show niceDs k (D.int n :: L ns) = true
    simp only [niceDs, niceD, Bool.true_and]
    exact nice_L k ns
theorem eqv_L : ∀ xs ys : List Int, PyData.eqvAll (toPs (L xs)) (toPs (L ys)) = decide (xs = ys)
  | [], [] => by simp [toPs, PyData.eqvAll]
  | [], _ :: _ => by simp [toPs, PyData.eqvAll]
  | _ :: _, [] => by simp [toPs, PyData.eqvAll]
  | x :: xs, y :: ys => by
    have ih := eqv_L xs ys
    simp only [List.map_cons, toPs, toP, PyData.eqvAll, PyData.eqv, ih]
    by_cases h1 : x = y <;> by_cases h2 : xs = ys <;> simp [h1, h2]
@[simp] theorem sh_int {i : Int} : shapedD (.int i) = true := nice_shaped (k := 0) (by simp [niceD]) (by decide)
@[simp] theorem sh_lst {ns : List Int} : shapedD (.lst (L ns)) = true := nice_shaped (k := 1) (by simp only [niceD]; exact nice_L 0 ns) (by decide)
@[simp] theorem sh_tup {ns : List Int} : shapedD (.tup (L ns)) = true := nice_shaped (k := 1) (by simp only [niceD]; exact nice_L 0 ns) (by decide)
@[simp] theorem dEq_int {a b : Int} : dEq (.int a) (.int b) = some (.bl (decide (a = b))) := by
  rw [dEq_of sh_int sh_int]
  simp only [toP, PyData.eqv]
  rfl
@[simp] theorem dNe_int {a b : Int} : dNe (.int a) (.int b) = some (.bl (!decide (a = b))) := by
  rw [dNe_of sh_int sh_int]
  simp only [toP, PyData.eqv]
  rfl
@[simp] theorem dEq_lst {a b : List Int} : dEq (.lst (L a)) (.lst (L b)) = some (.bl (decide (a = b))) := by
  rw [dEq_of sh_lst sh_lst]
  simp only [toP, PyData.eqv, eqv_L]
@[simp] theorem dNe_lst {a b : List Int} : dNe (.lst (L a)) (.lst (L b)) = some (.bl (!decide (a = b))) := by
  rw [dNe_of sh_lst sh_lst]
  simp only [toP, PyData.eqv, eqv_L]
end Zp
set_option Elab.async false
set_option linter.all false
set_option maxRecDepth 100000
set_option maxHeartbeats 2000000
/-! Den27: comprehensions, ranges, places. -/
namespace Zp
open PySem PySem.Spec L2
theorem comp_gen {gf : GF} {ft : TF} {fe : EF} {ρ : List Sv} {s : PenS} (t : D → Bool) (f : D → D) : ∀ ds : List D, (∀ d ∈ ds, ∃ ρ1, gf d ρ = some ρ1 ∧ ft ρ1 s = .ok (t d) s ∧ (t d = true → fe ρ1 s = .ok (f d) s)) →
    compGo gf ft fe ρ ds s = .ok ((ds.filter t).map f) s
  | [], _ => rfl
  | d :: ds, h => by
    obtain ⟨ρ1, h1, h2, h3⟩ := h d List.mem_cons_self
    have ih := comp_gen (gf := gf) (ft := ft) (fe := fe) (ρ := ρ) (s := s) t f ds fun x hx => h x (List.mem_cons_of_mem _ hx)
    unfold compGo
    rw [h1]
    simp only [h2, x_ok, b_ok]
    by_cases ht : t d = true
    · rw [if_pos ht, h3 ht, List.filter_cons_of_pos ht]
      simp only [x_ok, b_ok, ih]
      rfl
    · rw [if_neg ht, ih, List.filter_cons_of_neg ht]
/-- over ints, to ints -/
theorem comp_ints {gf : GF} {ft : TF} {fe : EF} {ρ : List Sv} {s : PenS} (t : Int → Bool) (f : Int → Int) : ∀ xs : List Int, (∀ x ∈ xs, ∃ ρ1, gf (.int x) ρ = some ρ1 ∧ ft ρ1 s = .ok (t x) s ∧ (t x = true → fe ρ1 s = .ok (.int (f x)) s)) →
    compGo gf ft fe ρ (L xs) s = .ok (L ((xs.filter t).map f)) s
  | [], _ => rfl
  | d :: ds, h => by
    obtain ⟨ρ1, h1, h2, h3⟩ := h d List.mem_cons_self
    have ih := comp_ints (gf := gf) (ft := ft) (fe := fe) (ρ := ρ) (s := s) t f ds fun x hx => h x (List.mem_cons_of_mem _ hx)
    show compGo gf ft fe ρ (D.int d :: L ds) s = _
    unfold compGo
    rw [h1]
    simp only [h2, x_ok, b_ok]
    by_cases ht : t d = true
    · rw [if_pos ht, h3 ht, List.filter_cons_of_pos ht]
      simp only [x_ok, b_ok, ih]
      rfl
    · rw [if_neg ht, ih, List.filter_cons_of_neg ht]
theorem comp_map {gf : GF} {fe : EF} {ρ : List Sv} {s : PenS} (f : Int → Int) (xs : List Int) (h : ∀ x ∈ xs, ∃ ρ1, gf (.int x) ρ = some ρ1 ∧ fe ρ1 s = .ok (.int (f x)) s) :
    compGo gf tYesF fe ρ (L xs) s = .ok (L (xs.map f)) s := by
  have e := comp_ints (gf := gf) (ft := tYesF) (fe := fe) (ρ := ρ) (s := s) (fun _ => true) f xs fun x hx => by
    obtain ⟨ρ1, h1, h2⟩ := h x hx
    exact ⟨ρ1, h1, rfl, fun _ => h2⟩
  rw [e]
  congr 2
  rw [List.filter_eq_self.mpr fun _ _ => rfl]
/-- comprehensions with draws -/
theorem comp_draws {gf : GF} {fe : EF} {ρ : List Sv} (J : PenS → Prop) (P : Int → Prop) : ∀ (ds : List D) (s : PenS), J s → (∀ d ∈ ds, ∀ s, J s → ∃ ρ1, gf d ρ = some ρ1 ∧ ∃ x s', fe ρ1 s = .ok (.int x) s' ∧ P x ∧ J s') →
    ∃ (ys : List Int) (s' : PenS), compGo gf tYesF fe ρ ds s = .ok (L ys) s' ∧ ys.length = ds.length ∧ (∀ y ∈ ys, P y) ∧ J s'
  | [], s, hs, _ => ⟨[], s, rfl, rfl, by simp, hs⟩
  | d :: ds, s, hs, h => by
    obtain ⟨ρ1, h1, x, s1, h2, h3, h4⟩ := h d List.mem_cons_self s hs
    obtain ⟨ys, s2, e1, e2, e3, e4⟩ := comp_draws J P ds s1 h4 fun y hy => h y (List.mem_cons_of_mem _ hy)
    refine ⟨x :: ys, s2, ?_, by simp [e2], fun y hy => ?_, e4⟩
    · unfold compGo
      rw [h1]
      simp [h2, e1]
    · rcases List.mem_cons.mp hy with rfl | hy
      · exact h3
      · exact e3 y hy
def rangeI (lo hi : Int) : List Int := (List.range (hi - lo).toNat).map fun i => lo + (i : Nat)
theorem rangeD_L (lo hi : Int) : rangeD lo hi = L (rangeI lo hi) := by
  unfold rangeD rangeI L
  rw [List.map_map]
  rfl
theorem rg2_of {lo hi : Int} (h1 : rgB lo = true) (h2 : rgB hi = true) : rg2 (.int lo) (.int hi) = some (L (rangeI lo hi)) := by
  rw [← rangeD_L]
  unfold rg2
  simp [h1, h2]
theorem mem_rangeI {lo hi x : Int} : x ∈ rangeI lo hi ↔ lo ≤ x ∧ x < hi := by
  unfold rangeI
  simp only [List.mem_map, List.mem_range]
  constructor
  · rintro ⟨i, h1, rfl⟩
    omega
  · rintro ⟨h1, h2⟩
    exact ⟨(x - lo).toNat, by omega, by omega⟩
theorem rgB_of {i : Int} (h1 : -1000000 ≤ i) (h2 : i ≤ 1000000) : rgB i = true := by
  unfold rgB
  simp
  omega
theorem mulOk_sm {i j : Int} (h1 : -1000000 ≤ i) (h2 : i ≤ 1000000) (h3 : -1000000 ≤ j) (h4 : j ≤ 1000000) : mulOk i j = true := mulOk_of 20 20 (by omega) (by omega) (by omega)
/-- rows within a prime's bounds -/
def Inn (p : Int) (xs : List Int) : Prop := ∀ x ∈ xs, 0 ≤ x ∧ x < p
theorem dIx_at (b : Bool) (xs : List Int) (k : Nat) (h : k < xs.length) : dIx (b, L xs) (.int k) = some (.int xs[k]) := by
  show atI (L xs) (k : Int) = _
  unfold atI ixN
  rw [if_pos (by omega), if_pos (by simp; omega)]
  simp [h]
theorem ixN_at {n k : Nat} (h : k < n) : ixN n (k : Int) = some k := by
  unfold ixN
  rw [if_pos (by omega), if_pos (by omega)]
  simp
def enumI (k : Nat) : List Int → List D
  | [] => []
  | x :: xs => .tup [.int k, .int x] :: enumI (k + 1) xs
theorem enumD_L : ∀ (xs : List Int) (k : Nat), enumD k (L xs) = enumI k xs
  | [], _ => rfl
  | x :: xs, k => by
    show enumD k (D.int x :: L xs) = _
    unfold enumD enumI
    rw [enumD_L xs (k + 1)]
end Zp
set_option Elab.async false
set_option linter.all false
set_option maxRecDepth 100000
set_option maxHeartbeats 2000000
/-! Den28: the pen's draws. -/
namespace Zp
open PySem PySem.Spec L2
/-- the pen after at most n draws -/
structure PJ (n : Nat) (s : PenS) : Prop where
  f0 : 0 ≤ s.fold
  f1 : s.fold < 2147483648
  c0 : 0 ≤ s.count
  c1 : s.count ≤ n
theorem PJ.mono {n m : Nat} {s : PenS} (h : PJ n s) (l : n ≤ m) : PJ m s := ⟨h.f0, h.f1, h.c0, by have := h.c1; omega⟩
theorem pj_penOf (ns : List Int) : PJ 0 (penOf ns) := ⟨(fold_rng ns).1, by have := (fold_rng ns).2; show foldOf ns < _; omega, Int.le_refl _, Int.le_refl _⟩
def drawB : SF := (sSeq (sPen 0 upCount (eOp dAdd (ePen 0 PenS.count) (eC (.int 1)))) (sSeq (sIf (tAndF (tOf (eOp dEq (ePen 0 PenS.digits) (eC (.int 0)))) (tOf (eOp dLt (ePen 0 (fun s => (s.at_ : Int))) (eB dLen (bCells 0))))) (sSeq (sSet 2 (eBE dIx (bCells 0) (ePen 0 (fun s => (s.at_ : Int))))) (sSeq (sPen 0 upAt (eOp dAdd (ePen 0 (fun s => (s.at_ : Int))) (eC (.int 1)))) (sIf (tOf (eOp dGe (eVar 2) (eOp dPow (eC (.int 10)) (eC (.int 18))))) (sPen 0 upDigits (eOp dSub (eVar 2) (eOp dPow (eC (.int 10)) (eC (.int 18))))) (sPen 0 upFold (eOp dMod (eUn dInt (eOp dAdd (eOp dMul (ePen 0 PenS.fold) (eC (.int 69069))) (eVar 2))) (eC (.int 2147483587))))))) sNil) (sSeq (sIf (tOf (eOp dGt (ePen 0 PenS.digits) (eC (.int 0)))) (sSeq (sSet 3 (eOp dMod (eUn dInt (ePen 0 PenS.digits)) (eVar 1))) (sSeq (sPen 0 upDigits (eOp dDiv (ePen 0 PenS.digits) (eVar 1))) (sRet (eVar 3)))) sNil) (sSeq (sSet 4 (eOp dAdd (eOp dAdd (ePen 0 PenS.fold) (eOp dMul (ePen 0 PenS.count) (eC (.int 7907)))) (eC (.int 37)))) (sRet (eOp dMod (eOp dDiv (eUn dInt (eOp dMod (eOp dPow (eVar 4) (eC (.int 17))) (eC (.int 2305843009213693951)))) (eC (.int 128))) (eVar 1)))))))
theorem o_divI {i j : Int} (h : 0 < j) (h2 : j < 1073741824) : dDiv (.int i) (.int j) = some (.int (i / j)) := by
  show (if _ then _ else _) = _
  have := log2_le (n := j.natAbs) 30 (by omega)
  simp [h]
  omega
theorem dEq_int0 {i j : Int} : dEq (.int i) (.int j) = some (.bl (decide (i = j))) := dEq_int
theorem pow10 : dPow (.int 10) (.int 18) = some (.int 1000000000000000000) := rfl
theorem draw_step {n : Nat} {s : PenS} {many : Int} (h : PJ n s) (hn : n ≤ 1000000) : ∃ it s', sSeq (sPen 0 upCount (eOp dAdd (ePen 0 PenS.count) (eC (.int 1)))) (sIf (tAndF (tOf (eOp dEq (ePen 0 PenS.digits) (eC (.int 0)))) (tOf (eOp dLt (ePen 0 (fun s => (s.at_ : Int))) (eB dLen (bCells 0))))) (sSeq (sSet 2 (eBE dIx (bCells 0) (ePen 0 (fun s => (s.at_ : Int))))) (sSeq (sPen 0 upAt (eOp dAdd (ePen 0 (fun s => (s.at_ : Int))) (eC (.int 1)))) (sIf (tOf (eOp dGe (eVar 2) (eOp dPow (eC (.int 10)) (eC (.int 18))))) (sPen 0 upDigits (eOp dSub (eVar 2) (eOp dPow (eC (.int 10)) (eC (.int 18))))) (sPen 0 upFold (eOp dMod (eUn dInt (eOp dAdd (eOp dMul (ePen 0 PenS.fold) (eC (.int 69069))) (eVar 2))) (eC (.int 2147483587))))))) sNil) [.val .pen, .val (.int many), .no, .no, .no] s = .nx [.val .pen, .val (.int many), it, .no, .no] s' ∧ PJ (n + 1) s' := by
  obtain ⟨f0, f1, c0, c1⟩ := h
  have e1 : dMul (.int s.fold) (.int 69069) = some (.int (s.fold * 69069)) := o_mulI (mulOk_of 31 20 (by omega) (by decide) (by decide))
  simp only [a_sSeq, a_sPen, a_eOp, a_ePen, List.getElem?_cons_succ, List.getElem?_cons_zero, b_ok, a_eC, o_addI, l_some, s_ok, upCount, q_nx, a_sIf, a_tAndF, a_tOf, dEq_int0, o_bool]
  by_cases hd : s.digits = 0
  · simp only [hd, decide_true, if_true, a_tOf, a_eOp, a_ePen, List.getElem?_cons_succ, List.getElem?_cons_zero, b_ok, a_eB, a_bCells, o_len, List.length_map, l_some, o_ltI, o_bool, s_ok]
    by_cases ha : (s.at_ : Int) < (s.cells.length : Int)
    · have hx : dIx (false, L s.cells) (.int (s.at_ : Int)) = some (.int s.cells[s.at_]) := dIx_at false s.cells s.at_ (by omega)
      have hup : ∀ t : PenS, upAt t ((s.at_ : Int) + 1) = some { t with at_ := ((s.at_ : Int) + 1).toNat } := fun t => if_pos (by omega)
      simp only [ha, decide_true, if_true, a_sSeq, a_sSet, a_eBE, a_bCells, a_ePen, List.getElem?_cons_succ, List.getElem?_cons_zero, b_ok, hx, l_some, s_ok, List.set_cons_succ, List.set_cons_zero, q_nx, a_sPen, a_eOp, a_eC, o_addI, hup, a_sIf, a_tOf, a_eVar, pow10, o_geI, o_bool]
      by_cases hc : 1000000000000000000 ≤ s.cells[s.at_]
      · simp only [hc, decide_true, if_true, a_sPen, a_eOp, a_eVar, a_eC, List.getElem?_cons_succ, List.getElem?_cons_zero, b_ok, pow10, l_some, o_subI, s_ok, upDigits]
        exact ⟨_, _, rfl, ⟨f0, f1, by show 0 ≤ s.count + 1; omega, by show s.count + 1 ≤ ((n + 1 : Nat) : Int); omega⟩⟩
      · simp only [hc, decide_false, Bool.false_eq_true, if_false, a_sPen, a_eOp, a_eUn, a_ePen, a_eVar, a_eC, List.getElem?_cons_succ, List.getElem?_cons_zero, b_ok, e1, l_some, o_addI, o_intI, o_modI (show (0 : Int) < 2147483587 by decide), s_ok, upFold]
        exact ⟨_, _, rfl, ⟨Int.emod_nonneg _ (by decide), by have := Int.emod_lt_of_pos (s.fold * 69069 + s.cells[s.at_]) (show (0 : Int) < 2147483587 by decide); show _ % _ < _; omega, by show 0 ≤ s.count + 1; omega, by show s.count + 1 ≤ ((n + 1 : Nat) : Int); omega⟩⟩
    · simp only [ha, decide_false, Bool.false_eq_true, if_false, a_sNil]
      exact ⟨_, _, rfl, ⟨f0, f1, by show 0 ≤ s.count + 1; omega, by show s.count + 1 ≤ ((n + 1 : Nat) : Int); omega⟩⟩
  · simp only [hd, decide_false, Bool.false_eq_true, if_false, s_ok, a_sNil]
    exact ⟨_, _, rfl, ⟨f0, f1, by show 0 ≤ s.count + 1; omega, by show s.count + 1 ≤ ((n + 1 : Nat) : Int); omega⟩⟩
theorem seq_assoc (a b c : SF) (ρ : List Sv) (s : PenS) : sSeq a (sSeq b c) ρ s = sSeq (sSeq a b) c ρ s := by
  simp only [a_sSeq]
  cases a ρ s <;> rfl
theorem draw_eq {n : Nat} {s : PenS} {many : Int} (h : PJ n s) (hn : n ≤ 1000000) (hm : 0 < many) (hm2 : many < 1073741824) : ∃ v s', runB 5 drawB [.pen, .int many] s = .ok (.int v) s' ∧ 0 ≤ v ∧ v < many ∧ PJ (n + 1) s' := by
  obtain ⟨it, s1, e, h1⟩ := draw_step (many := many) h hn
  obtain ⟨f0, f1, c0, c1⟩ := h1
  rw [m_run]
  simp only [List.map_cons, List.map_nil, List.length_cons, List.length_nil, List.cons_append, List.nil_append, Nat.reduceAdd, Nat.reduceSub, List.replicate, drawB]
  rw [seq_assoc]
  rw [a_sSeq, e, q_nx]
  simp only [a_sSeq, a_sIf, a_tOf, a_eOp, a_ePen, a_eC, List.getElem?_cons_succ, List.getElem?_cons_zero, b_ok, o_gtI, l_some, o_bool, s_ok]
  by_cases hd : 0 < s1.digits
  · simp only [hd, decide_true, if_true, a_sSeq, a_sSet, a_eOp, a_eUn, a_ePen, a_eVar, List.getElem?_cons_succ, List.getElem?_cons_zero, b_ok, l_some, o_intI, o_modI hm, s_ok, q_nx, List.set_cons_succ, List.set_cons_zero, a_sPen, o_divI hm hm2, upDigits, a_sRet, q_ret]
    exact ⟨_, _, rfl, Int.emod_nonneg _ (by omega), Int.emod_lt_of_pos _ hm, ⟨f0, f1, c0, c1⟩⟩
  · have e1 : dMul (.int s1.count) (.int 7907) = some (.int (s1.count * 7907)) := o_mulI (mulOk_of 41 13 (by omega) (by decide) (by decide))
    have e2 : dPow (.int (s1.fold + s1.count * 7907 + 37)) (.int 17) = some (.int ((s1.fold + s1.count * 7907 + 37) ^ 17)) := by
      have hc : (decide (0 ≤ (17 : Int)) && decide ((17 : Int) ≤ 1000000) && decide ((s1.fold + s1.count * 7907 + 37).natAbs < 2 ^ 64)) = true := by
        simp only [Bool.and_eq_true, decide_eq_true_eq]
        exact ⟨⟨by decide, by decide⟩, by omega⟩
      exact if_pos hc
    simp only [hd, decide_false, Bool.false_eq_true, if_false, a_sNil, q_nx, a_sSeq, a_sSet, a_eOp, a_eUn, a_ePen, a_eVar, a_eC, List.getElem?_cons_succ, List.getElem?_cons_zero, b_ok, l_some, o_addI, e1, s_ok, List.set_cons_succ, List.set_cons_zero, a_sRet, e2, o_modI (show (0 : Int) < 2305843009213693951 by decide), o_intI, o_divI (show (0 : Int) < 128 by decide) (by decide), o_modI hm]
    exact ⟨_, _, rfl, Int.emod_nonneg _ (by omega), Int.emod_lt_of_pos _ hm, ⟨f0, f1, c0, c1⟩⟩
/-- comprehensions with draws, counted -/
theorem comp_drawsN {gf : GF} {fe : EF} {ρ : List Sv} (P : Int → Prop) (hb : ∀ d (n : Nat) (s : PenS), PJ n s → n ≤ 1000000 → ∃ ρ1, gf d ρ = some ρ1 ∧ ∃ x s', fe ρ1 s = .ok (.int x) s' ∧ P x ∧ PJ (n + 1) s') : ∀ (ds : List D) (n : Nat) (s : PenS), PJ n s → n + ds.length ≤ 1000000 →
    ∃ (ys : List Int) (s' : PenS), compGo gf tYesF fe ρ ds s = .ok (L ys) s' ∧ ys.length = ds.length ∧ (∀ y ∈ ys, P y) ∧ PJ (n + ds.length) s'
  | [], n, s, hs, _ => ⟨[], s, rfl, rfl, by simp, hs⟩
  | d :: ds, n, s, hs, hn => by
    have hl : (d :: ds).length = ds.length + 1 := rfl
    obtain ⟨ρ1, h1, x, s1, h2, h3, h4⟩ := hb d n s hs (by omega)
    obtain ⟨ys, s2, e1, e2, e3, e4⟩ := comp_drawsN P hb ds (n + 1) s1 h4 (by omega)
    refine ⟨x :: ys, s2, ?_, by simp [e2], fun y hy => ?_, e4.mono (by omega)⟩
    · unfold compGo
      rw [h1]
      simp [h2, e1]
    · rcases List.mem_cons.mp hy with rfl | hy
      · exact h3
      · exact e3 y hy
theorem dIx_nat (b : Bool) (xs : List D) (k : Nat) (h : k < xs.length) : dIx (b, xs) (.int k) = some xs[k] := by
  show atI xs (k : Int) = _
  unfold atI ixN
  rw [if_pos (by omega), if_pos (by omega)]
  simp [h]
end Zp
set_option Elab.async false
set_option linter.all false
set_option maxRecDepth 100000
set_option maxHeartbeats 4000000
/-! Den29: alike modulo p. -/
namespace Zp
/-- alike modulo p -/
def Cg (p a b : Int) : Prop := ∃ k, a = b + p * k
theorem Cg.rfl {p a : Int} : Cg p a a := ⟨0, by grind⟩
theorem Cg.symm {p a b : Int} (h : Cg p a b) : Cg p b a := by obtain ⟨k, e⟩ := h; exact ⟨-k, by grind⟩
theorem Cg.trans {p a b c : Int} (h : Cg p a b) (g : Cg p b c) : Cg p a c := by obtain ⟨k, e⟩ := h; obtain ⟨l, f⟩ := g; exact ⟨k + l, by grind⟩
theorem Cg.add {p a b c d : Int} (h : Cg p a b) (g : Cg p c d) : Cg p (a + c) (b + d) := by obtain ⟨k, e⟩ := h; obtain ⟨l, f⟩ := g; exact ⟨k + l, by grind⟩
theorem Cg.sub {p a b c d : Int} (h : Cg p a b) (g : Cg p c d) : Cg p (a - c) (b - d) := by obtain ⟨k, e⟩ := h; obtain ⟨l, f⟩ := g; exact ⟨k - l, by grind⟩
theorem Cg.mul {p a b c d : Int} (h : Cg p a b) (g : Cg p c d) : Cg p (a * c) (b * d) := by obtain ⟨k, e⟩ := h; obtain ⟨l, f⟩ := g; exact ⟨k * d + b * l + p * k * l, by grind⟩
theorem Cg.md {p a : Int} : Cg p (a % p) a := ⟨-(a / p), by have := Int.mul_ediv_add_emod a p; grind⟩
theorem Cg.out {p a b : Int} (h : Cg p a b) : a % p = b % p := by obtain ⟨k, rfl⟩ := h; simp
theorem Cg.of {p a b : Int} (h : a % p = b % p) : Cg p a b := Cg.md.symm.trans (by rw [h]; exact Cg.md)
theorem Cg.of_eq {p a b : Int} (h : a = b) : Cg p a b := h ▸ Cg.rfl
theorem Cg.mdl {p a b : Int} (h : Cg p a b) : Cg p (a % p) b := Cg.md.trans h
theorem back_mul {p v z back back' : Int} (h1 : (back * z) % p = 1) (h2 : (back' * ((v * z) % p)) % p = 1) : Cg p (back' * v) back := by
  have hp1 : Cg p (back * z) 1 := (Cg.md.symm.trans (Cg.of_eq h1))
  have hp2 : Cg p (back' * (v * z)) 1 := ((Cg.rfl.mul Cg.md).symm.trans (Cg.md.symm.trans (Cg.of_eq h2)))
  -- back' v ≡ back' v (back z) = (back' v z) back ≡ back
  refine (Cg.of_eq (b := back' * v * 1) (by grind)).trans ((Cg.rfl.mul hp1.symm).trans ?_)
  refine (Cg.of_eq (b := back' * (v * z) * back) (by grind)).trans ?_
  exact (hp2.mul Cg.rfl).trans (Cg.of_eq (by grind))
theorem mm {p u v x r z c back back' : Int} (h1 : (back * z) % p = 1) (h2 : (back' * ((v * z) % p)) % p = 1) :
  ((u * x) % p - ((u * r) % p * back') % p * ((v * c) % p)) % p = (u * ((x - (r * back) % p * c) % p)) % p := by
  apply Cg.out
  have hb := back_mul h1 h2
  have e1 : Cg p ((u * x) % p - ((u * r) % p * back') % p * ((v * c) % p)) (u * x - u * r * back' * (v * c)) := Cg.md.sub ((Cg.md.trans (Cg.md.mul Cg.rfl)).mul Cg.md)
  have e2 : Cg p (u * ((x - (r * back) % p * c) % p)) (u * (x - r * back * c)) := Cg.rfl.mul (Cg.md.trans (Cg.rfl.sub (Cg.md.mul Cg.rfl)))
  refine e1.trans (Cg.trans ?_ e2.symm)
  refine (Cg.of_eq (b := u * (x - r * (back' * v) * c)) (by grind)).trans ?_
  exact Cg.rfl.mul (Cg.rfl.sub ((Cg.rfl.mul hb).mul Cg.rfl))
/-! ### an object's fields, set one by one -/
open PySem PySem.Spec L2
theorem fld_set {c : Nat} {ns : List Str} {f : Str} {fe : EF} {d : D} {fs fs' : List (Str × D)} {ρ : List Sv} {s : PenS} (h : fe (.ins c fs :: ρ) s = .ok d s) (hp : putD f d fs = fs') (hl : fs.length ≤ ns.length) : sFldS c 0 ns f fe (.ins c fs :: ρ) s = .nx (.ins c fs' :: ρ) s := by
  subst hp
  rw [a_sFldS, h, s_ok]
  simp only [List.getElem?_cons_zero, List.set_cons_zero]
  rw [if_pos ⟨trivial, hl⟩]
theorem oComp_of {vs : List Nat} {fi : AF} {gf : GF} {ft : TF} {fe : EF} {ρ ρ' : List Sv} {s s1 : PenS} {ds : List D} (h1 : fi ρ s = .ok ds s1) (h2 : szB ds.length = true) (h3 : wipeS ρ vs = ρ') : oComp vs fi gf ft fe ρ s = compGo gf ft fe ρ' ds s1 := by
  subst h3
  rw [a_oComp, h1, b_ok, if_pos h2]
end Zp
set_option Elab.async false
set_option linter.all false
set_option maxRecDepth 100000
set_option maxHeartbeats 4000000
namespace K06
open PySem PySem.Spec PyProof.Rows L2 Zp
def top (i : Nat) : Stmt := PySem.Challenge.pw_zeropoles_k06_whole_curves.main.body.getD i (.Pass ⟨0, 0, 0, 0⟩)
def d_PRIMES : D := .tup [.int 3, .int 5, .int 7, .int 11, .int 13, .int 17, .int 19, .int 23, .int 29, .int 31]
def d_MOST_DEGREE : D := .int 8
def os_Curve : List (Nat × Bool) := [(0, true)]
abbrev ns_Curve : List Str := ["p", "f", "degree", "genus", "lead"]
def Gk (cl : Nat → Addr) (fl : Nat → List Str) (tb : List (Addr × Str)) (g : Gm) : Prop := g.cl = cl ∧ g.fl = fl ∧ g.tb = tb
abbrev g00 (cl : Nat → Addr) (fl : Nat → List Str) (tb : List (Addr × Str)) : Gm := { cl := cl, fl := fl, pa := none, pl := 0, tb := tb }
def ex_law (c c' : Nat) : Option Bool := if (c == 1 || c == 2) && (c' == 1 || c' == 2) then some (c == c') else none
structure Txt (P : Program) (K : PySem.W.Frag) (mg : Str → Option Value) (cl : Nat → Addr) (fl : Nat → List Str) (tb : List (Addr × Str)) : Prop where
  len : mg "len" = none
  list : mg "list" = none
  tuple : mg "tuple" = none
  int : mg "int" = none
  bool : mg "bool" = none
  range : mg "range" = none
  enumerate : mg "enumerate" = none
  isinstance : mg "isinstance" = none
  max : mg "max" = none
  all : mg "all" = none
  repr : mg "repr" = none
  con_PRIMES : CONk K mg "PRIMES" d_PRIMES
  con_MOST_DEGREE : CONk K mg "MOST_DEGREE" d_MOST_DEGREE
  cls0 : ClsG K (g00 cl fl tb) 0 ns_Curve
  isi0 : IsiG K (g00 cl fl tb) 0 os_Curve
  gC : mg "Curve" = some (.ref (cl 0))
  er1 : BDk P K mg (g00 cl fl tb) 1 "BadItem" "value"
  er2 : BDk P K mg (g00 cl fl tb) 2 "BadCurve" "why"
  exo : ExOk K (g00 cl fl tb) ex_law
section
variable {P : Program} {w : World} {K : PySem.W.Frag} {mg : Str → Option Value} {base : Heap} {cl : Nat → Addr} {fl : Nat → List Str} {tb : List (Addr × Str)}
theorem Txt.cls_Curve (T : Txt P K mg cl fl tb) {g : Gm} (G : Gk cl fl tb g) : ClsG K g 0 ns_Curve := T.cls0.to G.1 G.2.1
theorem Txt.isi_Curve (T : Txt P K mg cl fl tb) {g : Gm} (G : Gk cl fl tb g) : IsiG K g 0 os_Curve := T.isi0.to G.1
theorem Txt.g_Curve (T : Txt P K mg cl fl tb) {g : Gm} (G : Gk cl fl tb g) : mg "Curve" = some (.ref (g.cl 0)) := by rw [G.1]; exact T.gC
theorem Txt.err_BadItem (T : Txt P K mg cl fl tb) {g : Gm} (G : Gk cl fl tb g) : BDk P K mg g 1 "BadItem" "value" := T.er1.to G.1 G.2.1
theorem Txt.err_BadCurve (T : Txt P K mg cl fl tb) {g : Gm} (G : Gk cl fl tb g) : BDk P K mg g 2 "BadCurve" "why" := T.er2.to G.1 G.2.1
abbrev st_is_integer : Stmt := top 5
abbrev N_is_integer : List Str := ["value"]
theorem sc_is_integer : FnScope N_is_integer ["value"] (defScope st_is_integer) := ⟨rfl, rfl, rfl, by decide +kernel, rfl, by decide +kernel, by decide +kernel⟩
def b_is_integer : SF := (sRet (eAndV (eUn (isB "int") (eVar 0)) (eNotV (eUn (isB "bool") (eVar 0)))))
def m_is_integer : FF := runB 1 b_is_integer
theorem ok_is_integer (T : Txt P K mg cl fl tb)  {f : Addr} {fd : FuncData} (F : Fun K "is_integer" "is_integer" st_is_integer f fd) : ∀ g, Gk cl fl tb g → FnOk P w K mg base (L2.CX P w) 1 f fd ["value"] (spD K g 1 m_is_integer) := fun g G =>
  fn_ok F sc_is_integer rfl fun cdv A outer s H E hr => ⟨_, (ss_one (ds_ret (by exact (dp_and (by exact (dp_isi T.isinstance T.int (by decide +kernel) (by exact (dp_var 0)))) (dp_one (by exact (dp_not (by exact (dp_isi T.isinstance T.bool (by decide +kernel) (by exact (dp_var 0)))))))))))⟩
abbrev st_is_row : Stmt := top 6
abbrev N_is_row : List Str := ["value"]
theorem sc_is_row : FnScope N_is_row ["value"] (defScope st_is_row) := ⟨rfl, rfl, rfl, by decide +kernel, rfl, by decide +kernel, by decide +kernel⟩
def b_is_row : SF := (sRet (eUn (isB2 "list" "tuple") (eVar 0)))
def m_is_row : FF := runB 1 b_is_row
theorem ok_is_row (T : Txt P K mg cl fl tb)  {f : Addr} {fd : FuncData} (F : Fun K "is_row" "is_row" st_is_row f fd) : ∀ g, Gk cl fl tb g → FnOk P w K mg base (L2.CX P w) 1 f fd ["value"] (spD K g 1 m_is_row) := fun g G =>
  fn_ok F sc_is_row rfl fun cdv A outer s H E hr => ⟨_, (ss_one (ds_ret (by exact (dp_isi2 T.isinstance T.list (by decide +kernel) T.tuple (by decide +kernel) (by exact (dp_var 0))))))⟩
abbrev st_is_mod_row : Stmt := top 8
abbrev N_is_mod_row : List Str := ["p", "value", "most", "item"]
theorem sc_is_mod_row : FnScope N_is_mod_row ["p", "value", "most"] (defScope st_is_mod_row) := ⟨rfl, rfl, rfl, by decide +kernel, rfl, by decide +kernel, by decide +kernel⟩
def b_is_mod_row : SF := (sSeq (sIf (tOrF (tNotF (tOf (eCallD 1 m_is_row [] (aCons (eVar 1) aNil)))) (tOf (eOp dGt (eB dLen (bOf (eVar 1))) (eOp dAdd (eVar 2) (eC (.int 1)))))) (sRet (eC (.bl false))) sNil) (sSeq (sIf (tNotF (tOf (eB dAll (bNew (oComp [3] (iEB (eVar 1)) (gN 3) tYesF (eAndV (eCallD 1 m_is_integer [] (aCons (eVar 3) aNil)) (eChain dLe dLt (eC (.int 0)) (eVar 3) (eVar 0)))))))) (sRet (eC (.bl false))) sNil) (sRet (eOrV (eOp dEq (eB dLen (bOf (eVar 1))) (eC (.int 0))) (eOp dNe (eBE dIx (bOf (eVar 1)) (eUn dNeg (eC (.int 1)))) (eC (.int 0)))))))
def m_is_mod_row : FF := runB 4 b_is_mod_row
theorem ok_is_mod_row (T : Txt P K mg cl fl tb) (F_is_integer : ∀ g, Gk cl fl tb g → FDk P w K mg base g "is_integer" 1 1 [] m_is_integer) (F_is_row : ∀ g, Gk cl fl tb g → FDk P w K mg base g "is_row" 1 1 [] m_is_row) {f : Addr} {fd : FuncData} {dvs : List V} {kws : List (Str × V)} (F : FunD K "is_mod_row" "is_mod_row" (defArgs st_is_mod_row) (defBody st_is_mod_row) (defScope st_is_mod_row) dvs kws f fd) : ∀ g, Gk cl fl tb g → FnOk P w K mg base (L2.CX P w) 2 f fd ["p", "value", "most"] (spD K g 3 m_is_mod_row) := fun g G =>
  fn_okD F sc_is_mod_row rfl fun cdv A outer s H E hr => ⟨_, (ss_cons (ds_if (by exact (DW.dt (by exact (dw_or (by exact (dt_not (by exact (dt_val (by exact (dp_callF (F_is_row g G) (hr.mono (by decide)) (takes_of rfl rfl rfl rfl) (by exact (da_cons (by exact (dp_var 1)) da_nil)))))))) (dw_or1 (by exact (dt_cmp rop_gt (by exact (dp_lenB T.len (by exact (db_of (by exact (dp_var 1)))))) (by exact (dp_op rop_add (by exact (dp_var 2)) dp_int))))))))) (ss_one (ds_ret dp_bl)) ss_nil)
    (ss_cons (ds_if (by exact (dt_not (by exact (dt_val (by exact (dp_all rfl T.all (by exact (db_new (by exact (do_compU s H rfl sc_is_mod_row.nd (by exact (di_seq (by exact (dp_var 1)))) (blkOk_by (own := [("item", 3)]) (N := N_is_mod_row) (sc := defScope st_is_mod_row) (by decide +kernel)) (fun _ _ _ _ _ => (by exact (dg_name (i := 3) sc_is_mod_row.nd rfl (Or.inl rfl)))) (fun _ _ _ _ _ => dts_nil) (fun _ _ _ _ _ => (by exact (dp_and (by exact (dp_callF (F_is_integer g G) (hr.mono (by decide)) LamX.takes0 (by exact (da_cons (by exact (dp_var 3)) da_nil)))) (dp_one (by exact (dp_chain rop_le rop_lt dp_int (by exact (dp_var 3)) (by exact (dp_var 0)))))))) (by decide))))))))))) (ss_one (ds_ret dp_bl)) ss_nil)
    (ss_one (ds_ret (by exact (dp_or (by exact (dp_cmp (rop_eqD hr.units) (by exact (dp_lenB T.len (by exact (db_of (by exact (dp_var 1)))))) dp_int)) (dp_one (by exact (dp_cmp (rop_neD hr.units) (by exact (dp_ixB (by exact (db_of (by exact (dp_var 1)))) (by exact (dp_neg dp_int)))) dp_int)))))))))⟩
abbrev st_trimmed : Stmt := top 9
abbrev N_trimmed : List Str := ["row"]
theorem sc_trimmed : FnScope N_trimmed ["row"] (defScope st_trimmed) := ⟨rfl, rfl, rfl, by decide +kernel, rfl, by decide +kernel, by decide +kernel⟩
def b_trimmed : SF := (sSeq (sSetO 0 (oB dListOf (bOf (eVar 0)))) (sSeq (sWhile FU (tAndF (tOf (eOp dGt (eB dLen (bOwn 0)) (eC (.int 0)))) (tOf (eOp dEq (eBE dIx (bOwn 0) (eUn dNeg (eC (.int 1)))) (eC (.int 0))))) (sPop 0)) (sRet (eB dTupOf (bOwn 0)))))
def m_trimmed : FF := runB 1 b_trimmed
theorem ok_trimmed (T : Txt P K mg cl fl tb)  {f : Addr} {fd : FuncData} (F : Fun K "trimmed" "trimmed" st_trimmed f fd) : ∀ g, Gk cl fl tb g → FnOk P w K mg base (L2.CX P w) 1 f fd ["row"] (spD K g 1 m_trimmed) := fun g G =>
  fn_ok F sc_trimmed rfl fun cdv A outer s H E hr => ⟨_, (ss_cons (ds_setO 0 sc_trimmed.nd rfl (Or.inl rfl) (by exact (do_listB T.list (by exact (db_of (by exact (dp_var 0)))))))
    (ss_cons (ds_while FU (passes_of rfl) (by exact (DW.dt (by exact (dw_and (by exact (dt_cmp rop_gt (by exact (dp_lenB T.len (by exact (db_own 0)))) dp_int)) (dw_and1 (by exact (dt_cmp (rop_eqD hr.units) (by exact (dp_ixB (by exact (db_own 0)) (by exact (dp_neg dp_int)))) dp_int))))))) (ss_one (ds_pop 0)))
    (ss_one (ds_ret (by exact (dp_tupleB T.tuple (by exact (db_own 0))))))))⟩
abbrev st_inverse_of : Stmt := top 10
abbrev N_inverse_of : List Str := ["p", "a", "r", "s", "u", "v", "q"]
theorem sc_inverse_of : FnScope N_inverse_of ["p", "a"] (defScope st_inverse_of) := ⟨rfl, rfl, rfl, by decide +kernel, rfl, by decide +kernel, by decide +kernel⟩
def b_inverse_of : SF := (sSeq (sAsg (eTup (aCons (eVar 0) (aCons (eOp dMod (eVar 1) (eVar 0)) (aCons (eC (.int 0)) (aCons (eC (.int 1)) aNil))))) (gT [2, 3, 4, 5])) (sSeq (sWhile FU (tOf (eOp dNe (eVar 3) (eC (.int 0)))) (sSeq (sSet 6 (eOp dDiv (eVar 2) (eVar 3))) (sSeq (sPar2 2 3 (vVal (eVar 3)) (vVal (eOp dSub (eVar 2) (eOp dMul (eVar 6) (eVar 3))))) (sPar2 4 5 (vVal (eVar 5)) (vVal (eOp dSub (eVar 4) (eOp dMul (eVar 6) (eVar 5)))))))) (sRet (eOp dMod (eVar 4) (eVar 0)))))
def m_inverse_of : FF := runB 7 b_inverse_of
theorem ok_inverse_of (T : Txt P K mg cl fl tb)  {f : Addr} {fd : FuncData} (F : Fun K "inverse_of" "inverse_of" st_inverse_of f fd) : ∀ g, Gk cl fl tb g → FnOk P w K mg base (L2.CX P w) 1 f fd ["p", "a"] (spD K g 2 m_inverse_of) := fun g G =>
  fn_ok F sc_inverse_of rfl fun cdv A outer s H E hr => ⟨_, (ss_cons (ds_asg (by exact (dp_tup (by exact (da_cons (by exact (dp_var 0)) (da_cons (by exact (dp_op rop_mod (by exact (dp_var 1)) (by exact (dp_var 0)))) (da_cons dp_int (da_cons dp_int da_nil))))))) (by exact (dg_tup rfl (dgs_cons (i := 2) sc_inverse_of.nd rfl (Or.inl rfl) (dgs_cons (i := 3) sc_inverse_of.nd rfl (Or.inl rfl) (dgs_cons (i := 4) sc_inverse_of.nd rfl (Or.inl rfl) (dgs_cons (i := 5) sc_inverse_of.nd rfl (Or.inl rfl) dgs_nil)))))))
    (ss_cons (ds_while FU (passes_of rfl) (by exact (dt_cmp (rop_neD hr.units) (by exact (dp_var 3)) dp_int)) (ss_cons (ds_set 6 sc_inverse_of.nd rfl (Or.inl rfl) (by exact (dp_op rop_div (by exact (dp_var 2)) (by exact (dp_var 3)))))
    (ss_cons (ds_par2 rfl sc_inverse_of.nd rfl rfl (by decide) rfl rfl (dv_val (by exact (dp_var 3))) (dv_val (by exact (dp_op rop_sub (by exact (dp_var 2)) (by exact (dp_op rop_mul (by exact (dp_var 6)) (by exact (dp_var 3))))))) rfl rfl rfl)
    (ss_one (ds_par2 rfl sc_inverse_of.nd rfl rfl (by decide) rfl rfl (dv_val (by exact (dp_var 5))) (dv_val (by exact (dp_op rop_sub (by exact (dp_var 4)) (by exact (dp_op rop_mul (by exact (dp_var 6)) (by exact (dp_var 5))))))) rfl rfl rfl)))))
    (ss_one (ds_ret (by exact (dp_op rop_mod (by exact (dp_var 4)) (by exact (dp_var 0))))))))⟩
abbrev st_mod_parts : Stmt := top 11
abbrev N_mod_parts : List Str := ["p", "a", "b", "rest", "quotient", "back", "at", "item", "k", "other"]
theorem sc_mod_parts : FnScope N_mod_parts ["p", "a", "b"] (defScope st_mod_parts) := ⟨rfl, rfl, rfl, by decide +kernel, rfl, by decide +kernel, by decide +kernel⟩
def b_mod_parts : SF := (sSeq (sPar2 3 4 (vOwn (oB dListOf (bOf (eVar 1)))) (vOwn (oRep (oLst (aCons (eC (.int 0)) aNil)) (eOp dMax (eC (.int 0)) (eOp dAdd (eOp dSub (eB dLen (bOf (eVar 1))) (eB dLen (bOf (eVar 2)))) (eC (.int 1))))))) (sSeq (sSet 5 (eCallD 2 m_inverse_of [] (aCons (eVar 0) (aCons (eBE dIx (bOf (eVar 2)) (eUn dNeg (eC (.int 1)))) aNil)))) (sSeq (sFor (iRange3 (eOp dSub (eB dLen (bOf (eVar 1))) (eB dLen (bOf (eVar 2)))) (eUn dNeg (eC (.int 1))) (eUn dNeg (eC (.int 1)))) (gN 6) (sSeq (sSet 7 (eOp dMod (eOp dMul (eBE dIx (bOwn 3) (eOp dSub (eOp dAdd (eVar 6) (eB dLen (bOf (eVar 2)))) (eC (.int 1)))) (eVar 5)) (eVar 0))) (sSeq (sIx 4 (eVar 6) (eVar 7)) (sFor (iEnE (eVar 2)) (gT [8, 9]) (sIx 3 (eOp dAdd (eVar 6) (eVar 8)) (eOp dMod (eOp dSub (eBE dIx (bOwn 3) (eOp dAdd (eVar 6) (eVar 8))) (eOp dMul (eVar 7) (eVar 9))) (eVar 0))))))) (sFrz 3 (sFrz 4 (sRet (eTup (aCons (eCallD 1 m_trimmed [] (aCons (eVar 4) aNil)) (aCons (eCallD 1 m_trimmed [] (aCons (eVar 3) aNil)) aNil)))))))))
def m_mod_parts : FF := runB 10 b_mod_parts
theorem ok_mod_parts (T : Txt P K mg cl fl tb) (F_trimmed : ∀ g, Gk cl fl tb g → FDk P w K mg base g "trimmed" 1 1 [] m_trimmed) (F_inverse_of : ∀ g, Gk cl fl tb g → FDk P w K mg base g "inverse_of" 1 2 [] m_inverse_of) {f : Addr} {fd : FuncData} (F : Fun K "mod_parts" "mod_parts" st_mod_parts f fd) : ∀ g, Gk cl fl tb g → FnOk P w K mg base (L2.CX P w) 2 f fd ["p", "a", "b"] (spD K g 3 m_mod_parts) := fun g G =>
  fn_ok F sc_mod_parts rfl fun cdv A outer s H E hr => ⟨_, (ss_cons (ds_par2 rfl sc_mod_parts.nd rfl rfl (by decide) rfl rfl (dv_own (by exact (do_listB T.list (by exact (db_of (by exact (dp_var 1))))))) (dv_own (by exact (do_rep (by exact (do_lst (by exact (da_cons dp_int da_nil)))) (by exact (dp_max rfl T.max dp_int (by exact (dp_op rop_add (by exact (dp_op rop_sub (by exact (dp_lenB T.len (by exact (db_of (by exact (dp_var 1)))))) (by exact (dp_lenB T.len (by exact (db_of (by exact (dp_var 2)))))))) dp_int))))))) rfl rfl rfl)
    (ss_cons (ds_set 5 sc_mod_parts.nd rfl (Or.inl rfl) (by exact (dp_callF (F_inverse_of g G) (hr.mono (by decide)) (takes_of rfl rfl rfl rfl) (by exact (da_cons (by exact (dp_var 0)) (da_cons (by exact (dp_ixB (by exact (db_of (by exact (dp_var 2)))) (by exact (dp_neg dp_int)))) da_nil))))))
    (ss_cons (ds_for (passes_of rfl) rfl (by exact (di_range3 T.range (by exact (dp_op rop_sub (by exact (dp_lenB T.len (by exact (db_of (by exact (dp_var 1)))))) (by exact (dp_lenB T.len (by exact (db_of (by exact (dp_var 2)))))))) (by exact (dp_neg dp_int)) (by exact (dp_neg dp_int)))) (by exact (dg_name (i := 6) sc_mod_parts.nd rfl (Or.inl rfl))) (ss_cons (ds_set 7 sc_mod_parts.nd rfl (Or.inl rfl) (by exact (dp_op rop_mod (by exact (dp_op rop_mul (by exact (dp_ixB (by exact (db_own 3)) (by exact (dp_op rop_sub (by exact (dp_op rop_add (by exact (dp_var 6)) (by exact (dp_lenB T.len (by exact (db_of (by exact (dp_var 2)))))))) dp_int)))) (by exact (dp_var 5)))) (by exact (dp_var 0)))))
    (ss_cons (ds_ix 4 (by exact (dp_var 7)) (by exact (dp_var 6)))
    (ss_one (ds_for (passes_of rfl) rfl (by exact (di_enumB T.enumerate (by exact (dp_var 2)))) (by exact (dg_tup rfl (dgs_cons (i := 8) sc_mod_parts.nd rfl (Or.inl rfl) (dgs_cons (i := 9) sc_mod_parts.nd rfl (Or.inl rfl) dgs_nil)))) (ss_one (ds_ix 3 (by exact (dp_op rop_mod (by exact (dp_op rop_sub (by exact (dp_ixB (by exact (db_own 3)) (by exact (dp_op rop_add (by exact (dp_var 6)) (by exact (dp_var 8)))))) (by exact (dp_op rop_mul (by exact (dp_var 7)) (by exact (dp_var 9)))))) (by exact (dp_var 0)))) (by exact (dp_op rop_add (by exact (dp_var 6)) (by exact (dp_var 8)))))))))))
    (ss_one (ds_frz 3 (ds_frz 4 (ds_ret (by exact (dp_tup (by exact (da_cons (by exact (dp_callF (F_trimmed g G) (hr.mono (by decide)) (takes_of rfl rfl rfl rfl) (by exact (da_cons (by exact (dp_var 4)) da_nil)))) (da_cons (by exact (dp_callF (F_trimmed g G) (hr.mono (by decide)) (takes_of rfl rfl rfl rfl) (by exact (da_cons (by exact (dp_var 3)) da_nil)))) da_nil))))))))))))⟩
abbrev st_mod_monic : Stmt := top 12
abbrev N_mod_monic : List Str := ["p", "a", "back", "item"]
theorem sc_mod_monic : FnScope N_mod_monic ["p", "a"] (defScope st_mod_monic) := ⟨rfl, rfl, rfl, by decide +kernel, rfl, by decide +kernel, by decide +kernel⟩
def b_mod_monic : SF := (sSeq (sIf (tOf (eOp dEq (eB dLen (bOf (eVar 1))) (eC (.int 0)))) (sRet (eTup aNil)) sNil) (sSeq (sSet 2 (eCallD 2 m_inverse_of [] (aCons (eVar 0) (aCons (eBE dIx (bOf (eVar 1)) (eUn dNeg (eC (.int 1)))) aNil)))) (sRet (eB dTupOf (bNew (oComp [3] (iEB (eVar 1)) (gN 3) tYesF (eOp dMod (eOp dMul (eVar 3) (eVar 2)) (eVar 0))))))))
def m_mod_monic : FF := runB 4 b_mod_monic
theorem ok_mod_monic (T : Txt P K mg cl fl tb) (F_inverse_of : ∀ g, Gk cl fl tb g → FDk P w K mg base g "inverse_of" 1 2 [] m_inverse_of) {f : Addr} {fd : FuncData} (F : Fun K "mod_monic" "mod_monic" st_mod_monic f fd) : ∀ g, Gk cl fl tb g → FnOk P w K mg base (L2.CX P w) 2 f fd ["p", "a"] (spD K g 2 m_mod_monic) := fun g G =>
  fn_ok F sc_mod_monic rfl fun cdv A outer s H E hr => ⟨_, (ss_cons (ds_if (by exact (dt_cmp (rop_eqD hr.units) (by exact (dp_lenB T.len (by exact (db_of (by exact (dp_var 1)))))) dp_int)) (ss_one (ds_ret (by exact (dp_tup da_nil)))) ss_nil)
    (ss_cons (ds_set 2 sc_mod_monic.nd rfl (Or.inr rfl) (by exact (dp_callF (F_inverse_of g G) (hr.mono (by decide)) (takes_of rfl rfl rfl rfl) (by exact (da_cons (by exact (dp_var 0)) (da_cons (by exact (dp_ixB (by exact (db_of (by exact (dp_var 1)))) (by exact (dp_neg dp_int)))) da_nil))))))
    (ss_one (ds_ret (by exact (dp_tupleB T.tuple (by exact (db_new (by exact (do_compU s H rfl sc_mod_monic.nd (by exact (di_seq (by exact (dp_var 1)))) (blkOk_by (own := [("item", 3)]) (N := N_mod_monic) (sc := defScope st_mod_monic) (by decide +kernel)) (fun _ _ _ _ _ => (by exact (dg_name (i := 3) sc_mod_monic.nd rfl (Or.inl rfl)))) (fun _ _ _ _ _ => dts_nil) (fun _ _ _ _ _ => (by exact (dp_op rop_mod (by exact (dp_op rop_mul (by exact (dp_var 3)) (by exact (dp_var 2)))) (by exact (dp_var 0))))) (by decide)))))))))))⟩
abbrev st_mod_shared : Stmt := top 13
abbrev N_mod_shared : List Str := ["p", "a", "b"]
theorem sc_mod_shared : FnScope N_mod_shared ["p", "a", "b"] (defScope st_mod_shared) := ⟨rfl, rfl, rfl, by decide +kernel, rfl, by decide +kernel, by decide +kernel⟩
def b_mod_shared : SF := (sSeq (sWhile FU (tOf (eOp dGt (eB dLen (bOf (eVar 2))) (eC (.int 0)))) (sPar2 1 2 (vVal (eVar 2)) (vVal (eBE dIx (bOf (eCallD 3 m_mod_parts [] (aCons (eVar 0) (aCons (eVar 1) (aCons (eVar 2) aNil))))) (eC (.int 1)))))) (sRet (eCallD 2 m_mod_monic [] (aCons (eVar 0) (aCons (eVar 1) aNil)))))
def m_mod_shared : FF := runB 3 b_mod_shared
theorem ok_mod_shared (T : Txt P K mg cl fl tb) (F_mod_parts : ∀ g, Gk cl fl tb g → FDk P w K mg base g "mod_parts" 2 3 [] m_mod_parts) (F_mod_monic : ∀ g, Gk cl fl tb g → FDk P w K mg base g "mod_monic" 2 2 [] m_mod_monic) {f : Addr} {fd : FuncData} (F : Fun K "mod_shared" "mod_shared" st_mod_shared f fd) : ∀ g, Gk cl fl tb g → FnOk P w K mg base (L2.CX P w) 3 f fd ["p", "a", "b"] (spD K g 3 m_mod_shared) := fun g G =>
  fn_ok F sc_mod_shared rfl fun cdv A outer s H E hr => ⟨_, (ss_cons (ds_while FU (passes_of rfl) (by exact (dt_cmp rop_gt (by exact (dp_lenB T.len (by exact (db_of (by exact (dp_var 2)))))) dp_int)) (ss_one (ds_par2 rfl sc_mod_shared.nd rfl rfl (by decide) rfl rfl (dv_val (by exact (dp_var 2))) (dv_val (by exact (dp_ixB (by exact (db_of (by exact (dp_callF (F_mod_parts g G) (hr.mono (by decide)) (takes_of rfl rfl rfl rfl) (by exact (da_cons (by exact (dp_var 0)) (da_cons (by exact (dp_var 1)) (da_cons (by exact (dp_var 2)) da_nil)))))))) dp_int))) rfl rfl rfl)))
    (ss_one (ds_ret (by exact (dp_callF (F_mod_monic g G) (hr.mono (by decide)) (takes_of rfl rfl rfl rfl) (by exact (da_cons (by exact (dp_var 0)) (da_cons (by exact (dp_var 1)) da_nil))))))))⟩
abbrev st_mod_slope : Stmt := top 14
abbrev N_mod_slope : List Str := ["p", "a", "k", "item"]
theorem sc_mod_slope : FnScope N_mod_slope ["p", "a"] (defScope st_mod_slope) := ⟨rfl, rfl, rfl, by decide +kernel, rfl, by decide +kernel, by decide +kernel⟩
def b_mod_slope : SF := (sRet (eCallD 1 m_trimmed [] (aCons (eSlice (bNew (oComp [2, 3] (iEnE (eVar 1)) (gT [2, 3]) tYesF (eOp dMod (eOp dMul (eVar 2) (eVar 3)) (eVar 0)))) (oSome (eC (.int 1))) oNone) aNil)))
def m_mod_slope : FF := runB 4 b_mod_slope
theorem ok_mod_slope (T : Txt P K mg cl fl tb) (F_trimmed : ∀ g, Gk cl fl tb g → FDk P w K mg base g "trimmed" 1 1 [] m_trimmed) {f : Addr} {fd : FuncData} (F : Fun K "mod_slope" "mod_slope" st_mod_slope f fd) : ∀ g, Gk cl fl tb g → FnOk P w K mg base (L2.CX P w) 2 f fd ["p", "a"] (spD K g 2 m_mod_slope) := fun g G =>
  fn_ok F sc_mod_slope rfl fun cdv A outer s H E hr => ⟨_, (ss_one (ds_ret (by exact (dp_callF (F_trimmed g G) (hr.mono (by decide)) (takes_of rfl rfl rfl rfl) (by exact (da_cons (by exact (dp_slice (by exact (db_new (by exact (do_compU s H rfl sc_mod_slope.nd (by exact (di_enumB T.enumerate (by exact (dp_var 1)))) (blkOk_by (own := [("k", 2), ("item", 3)]) (N := N_mod_slope) (sc := defScope st_mod_slope) (by decide +kernel)) (fun _ _ _ _ _ => (by exact (dg_tup rfl (dgs_cons (i := 2) sc_mod_slope.nd rfl (Or.inl rfl) (dgs_cons (i := 3) sc_mod_slope.nd rfl (Or.inl rfl) dgs_nil))))) (fun _ _ _ _ _ => dts_nil) (fun _ _ _ _ _ => (by exact (dp_op rop_mod (by exact (dp_op rop_mul (by exact (dp_var 2)) (by exact (dp_var 3)))) (by exact (dp_var 0))))) (by decide))))) (do_some dp_int) do_none)) da_nil))))))⟩
abbrev st_mod_value : Stmt := top 15
abbrev N_mod_value : List Str := ["p", "a", "x", "found", "item"]
theorem sc_mod_value : FnScope N_mod_value ["p", "a", "x"] (defScope st_mod_value) := ⟨rfl, rfl, rfl, by decide +kernel, rfl, by decide +kernel, by decide +kernel⟩
def b_mod_value : SF := (sSeq (sSet 3 (eC (.int 0))) (sSeq (sFor (iEB (eB dRev (bOf (eVar 1)))) (gN 4) (sSet 3 (eOp dMod (eOp dAdd (eOp dMul (eVar 3) (eVar 2)) (eVar 4)) (eVar 0)))) (sRet (eVar 3))))
def m_mod_value : FF := runB 5 b_mod_value
theorem ok_mod_value (T : Txt P K mg cl fl tb)  {f : Addr} {fd : FuncData} (F : Fun K "mod_value" "mod_value" st_mod_value f fd) : ∀ g, Gk cl fl tb g → FnOk P w K mg base (L2.CX P w) 1 f fd ["p", "a", "x"] (spD K g 3 m_mod_value) := fun g G =>
  fn_ok F sc_mod_value rfl fun cdv A outer s H E hr => ⟨_, (ss_cons (ds_set 3 sc_mod_value.nd rfl (Or.inl rfl) dp_int)
    (ss_cons (ds_for (passes_of rfl) rfl (by exact (di_seq (by exact (dp_rev (by exact (db_of (by exact (dp_var 1)))))))) (by exact (dg_name (i := 4) sc_mod_value.nd rfl (Or.inl rfl))) (ss_one (ds_set 3 sc_mod_value.nd rfl (Or.inl rfl) (by exact (dp_op rop_mod (by exact (dp_op rop_add (by exact (dp_op rop_mul (by exact (dp_var 3)) (by exact (dp_var 2)))) (by exact (dp_var 4)))) (by exact (dp_var 0)))))))
    (ss_one (ds_ret (by exact (dp_var 3))))))⟩
abbrev st_mod_scaled : Stmt := top 16
abbrev N_mod_scaled : List Str := ["p", "a", "times", "item"]
theorem sc_mod_scaled : FnScope N_mod_scaled ["p", "a", "times"] (defScope st_mod_scaled) := ⟨rfl, rfl, rfl, by decide +kernel, rfl, by decide +kernel, by decide +kernel⟩
def b_mod_scaled : SF := (sRet (eCallD 1 m_trimmed [] (aCons (eFrz (oComp [3] (iEB (eVar 1)) (gN 3) tYesF (eOp dMod (eOp dMul (eVar 3) (eVar 2)) (eVar 0)))) aNil)))
def m_mod_scaled : FF := runB 4 b_mod_scaled
theorem ok_mod_scaled (T : Txt P K mg cl fl tb) (F_trimmed : ∀ g, Gk cl fl tb g → FDk P w K mg base g "trimmed" 1 1 [] m_trimmed) {f : Addr} {fd : FuncData} (F : Fun K "mod_scaled" "mod_scaled" st_mod_scaled f fd) : ∀ g, Gk cl fl tb g → FnOk P w K mg base (L2.CX P w) 2 f fd ["p", "a", "times"] (spD K g 3 m_mod_scaled) := fun g G =>
  fn_ok F sc_mod_scaled rfl fun cdv A outer s H E hr => ⟨_, (ss_one (ds_ret (by exact (dp_callF (F_trimmed g G) (hr.mono (by decide)) (takes_of rfl rfl rfl rfl) (by exact (da_cons (by exact (dp_frz (by exact (do_compU s H rfl sc_mod_scaled.nd (by exact (di_seq (by exact (dp_var 1)))) (blkOk_by (own := [("item", 3)]) (N := N_mod_scaled) (sc := defScope st_mod_scaled) (by decide +kernel)) (fun _ _ _ _ _ => (by exact (dg_name (i := 3) sc_mod_scaled.nd rfl (Or.inl rfl)))) (fun _ _ _ _ _ => dts_nil) (fun _ _ _ _ _ => (by exact (dp_op rop_mod (by exact (dp_op rop_mul (by exact (dp_var 3)) (by exact (dp_var 2)))) (by exact (dp_var 0))))) (by decide))))) da_nil))))))⟩
abbrev st_curve_breach : Stmt := top 20
abbrev N_curve_breach : List Str := ["p", "f"]
theorem sc_curve_breach : FnScope N_curve_breach ["p", "f"] (defScope st_curve_breach) := ⟨rfl, rfl, rfl, by decide +kernel, rfl, by decide +kernel, by decide +kernel⟩
def b_curve_breach : SF := (sSeq (sIf (tOrF (tNotF (tOf (eCallD 1 m_is_integer [] (aCons (eVar 0) aNil)))) (tOf (eEB (dIn true) (eVar 0) (bOf (eC d_PRIMES))))) (sRet (eC (.str "prime"))) sNil) (sSeq (sIf (tNotF (tOf (eCallD 3 m_is_mod_row [.int 60] (aCons (eVar 0) (aCons (eVar 1) aNil))))) (sRet (eC (.str "row"))) sNil) (sSeq (sIf (tNotF (tOf (eChain dLe dLe (eC (.int 2)) (eB dLen (bOf (eVar 1))) (eOp dAdd (eC d_MOST_DEGREE) (eC (.int 1)))))) (sRet (eC (.str "degree"))) sNil) (sRet (eIf (tOf (eOp dEq (eB dLen (bOf (eCallD 3 m_mod_shared [] (aCons (eVar 0) (aCons (eB dTupOf (bOf (eVar 1))) (aCons (eCallD 2 m_mod_slope [] (aCons (eVar 0) (aCons (eB dTupOf (bOf (eVar 1))) aNil))) aNil)))))) (eC (.int 1)))) (eC .non) (eC (.str "double")))))))
def m_curve_breach : FF := runB 2 b_curve_breach
theorem ok_curve_breach (T : Txt P K mg cl fl tb) (F_is_integer : ∀ g, Gk cl fl tb g → FDk P w K mg base g "is_integer" 1 1 [] m_is_integer) (F_is_mod_row : ∀ g, Gk cl fl tb g → FDk P w K mg base g "is_mod_row" 2 3 [.int 60] m_is_mod_row) (F_mod_shared : ∀ g, Gk cl fl tb g → FDk P w K mg base g "mod_shared" 3 3 [] m_mod_shared) (F_mod_slope : ∀ g, Gk cl fl tb g → FDk P w K mg base g "mod_slope" 2 2 [] m_mod_slope) {f : Addr} {fd : FuncData} (F : Fun K "curve_breach" "curve_breach" st_curve_breach f fd) : ∀ g, Gk cl fl tb g → FnOk P w K mg base (L2.CX P w) 4 f fd ["p", "f"] (spD K g 2 m_curve_breach) := fun g G =>
  fn_ok F sc_curve_breach rfl fun cdv A outer s H E hr => ⟨_, (ss_cons (ds_if (by exact (DW.dt (by exact (dw_or (by exact (dt_not (by exact (dt_val (by exact (dp_callF (F_is_integer g G) (hr.mono (by decide)) (takes_of rfl rfl rfl rfl) (by exact (da_cons (by exact (dp_var 0)) da_nil)))))))) (dw_or1 (by exact (dt_in true op_notIn_seq (by exact (dp_var 0)) (by exact (db_of (by exact (dp_const T.con_PRIMES))))))))))) (ss_one (ds_ret dp_str)) ss_nil)
    (ss_cons (ds_if (by exact (dt_not (by exact (dt_val (by exact (dp_callF (F_is_mod_row g G) (hr.mono (by decide)) (takes_of rfl rfl rfl rfl) (by exact (da_cons (by exact (dp_var 0)) (da_cons (by exact (dp_var 1)) da_nil))))))))) (ss_one (ds_ret dp_str)) ss_nil)
    (ss_cons (ds_if (by exact (dt_not (by exact (dt_chain rop_le rop_le dp_int (by exact (dp_lenB T.len (by exact (db_of (by exact (dp_var 1)))))) (by exact (dp_op rop_add (by exact (dp_const T.con_MOST_DEGREE)) dp_int)))))) (ss_one (ds_ret dp_str)) ss_nil)
    (ss_one (ds_ret (by exact (dp_if (by exact (dt_cmp (rop_eqD hr.units) (by exact (dp_lenB T.len (by exact (db_of (by exact (dp_callF (F_mod_shared g G) (hr.mono (by decide)) (takes_of rfl rfl rfl rfl) (by exact (da_cons (by exact (dp_var 0)) (da_cons (by exact (dp_tupleB T.tuple (by exact (db_of (by exact (dp_var 1)))))) (da_cons (by exact (dp_callF (F_mod_slope g G) (hr.mono (by decide)) (takes_of rfl rfl rfl rfl) (by exact (da_cons (by exact (dp_var 0)) (da_cons (by exact (dp_tupleB T.tuple (by exact (db_of (by exact (dp_var 1)))))) da_nil))))) da_nil)))))))))) dp_int)) dp_non dp_str)))))))⟩
abbrev st_Curve___init : Stmt := inClass (top 21) 0
abbrev N_Curve___init : List Str := ["self", "p", "f", "why"]
theorem sc_Curve___init : FnScope N_Curve___init ["self", "p", "f"] (defScope st_Curve___init) := ⟨rfl, rfl, rfl, by decide +kernel, rfl, by decide +kernel, by decide +kernel⟩
def b_Curve___init : SF := (sSeq (sSet 3 (eCallD 2 m_curve_breach [] (aCons (eVar 1) (aCons (eVar 2) aNil)))) (sSeq (sIf (tOf (eOp dNotN (eVar 3) (eC .non))) (sRaise 2 (eVar 3)) sNil) (sSeq (sFldS 0 0 ["p", "f", "degree", "genus", "lead"] "p" (eVar 1)) (sSeq (sFldS 0 0 ["p", "f", "degree", "genus", "lead"] "f" (eB dTupOf (bOf (eVar 2)))) (sSeq (sFldS 0 0 ["p", "f", "degree", "genus", "lead"] "degree" (eOp dSub (eB dLen (bOf (eVar 2))) (eC (.int 1)))) (sSeq (sFldS 0 0 ["p", "f", "degree", "genus", "lead"] "genus" (eOp dDiv (eOp dSub (eFldS 0 0 "degree") (eC (.int 1))) (eC (.int 2)))) (sFldS 0 0 ["p", "f", "degree", "genus", "lead"] "lead" (eBE dIx (bOf (eVar 2)) (eUn dNeg (eC (.int 1)))))))))))
def m_Curve___init : FF := runI 0 ["p", "f", "degree", "genus", "lead"] 4 b_Curve___init
theorem ok_Curve___init (T : Txt P K mg cl fl tb) (F_curve_breach : ∀ g, Gk cl fl tb g → FDk P w K mg base g "curve_breach" 4 2 [] m_curve_breach) {f : Addr} {fd : FuncData} (F : Fun K "__init__" "Curve.__init__" st_Curve___init f fd) : ∀ g, Gk cl fl tb g → FnOk P w K mg base (L2.CX P w) 5 f fd ["self", "p", "f"] (spI K g 0 2 m_Curve___init) := fun g0 G0 =>
  fn_init (T.cls_Curve G0) F sc_Curve___init rfl fun o cdv A outer s H E hr => ⟨_, have G : Gk cl fl tb (g0.at o) := ⟨G0.1, G0.2.1, G0.2.2⟩; (ss_cons (ds_set 3 sc_Curve___init.nd rfl (Or.inl rfl) (by exact (dp_callF (F_curve_breach _ G) (hr.mono (by decide)) (takes_of rfl rfl rfl rfl) (by exact (da_cons (by exact (dp_var 1)) (da_cons (by exact (dp_var 2)) da_nil))))))
    (ss_cons (ds_if (by exact (dt_cmp rop_notN (by exact (dp_var 3)) dp_non)) (ss_one (ds_raiseF (T.err_BadCurve G) rfl hr (takes_of rfl rfl rfl rfl) (by exact (dp_var 3)))) ss_nil)
    (ss_cons (ds_fld 0 (T.cls_Curve G) (by decide) (by exact (dp_var 1)))
    (ss_cons (ds_fld 0 (T.cls_Curve G) (by decide) (by exact (dp_tupleB T.tuple (by exact (db_of (by exact (dp_var 2)))))))
    (ss_cons (ds_fld 0 (T.cls_Curve G) (by decide) (by exact (dp_op rop_sub (by exact (dp_lenB T.len (by exact (db_of (by exact (dp_var 2)))))) dp_int)))
    (ss_cons (ds_fld 0 (T.cls_Curve G) (by decide) (by exact (dp_op rop_div (by exact (dp_op rop_sub (by exact (dp_fldS 0 (T.cls_Curve G) (by decide))) dp_int)) dp_int)))
    (ss_one (ds_fld 0 (T.cls_Curve G) (by decide) (by exact (dp_ixB (by exact (db_of (by exact (dp_var 2)))) (by exact (dp_neg dp_int))))))))))))⟩
abbrev st_Curve___eq : Stmt := inClass (top 21) 1
abbrev N_Curve___eq : List Str := ["self", "other"]
theorem sc_Curve___eq : FnScope N_Curve___eq ["self", "other"] (defScope st_Curve___eq) := ⟨rfl, rfl, rfl, by decide +kernel, rfl, by decide +kernel, by decide +kernel⟩
def b_Curve___eq : SF := (sRet (eAndV (eUn (dIsC os_Curve) (eVar 1)) (eOp dEq (eTup (aCons (eUn (fldD 0 0) (eVar 0)) (aCons (eUn (fldD 0 1) (eVar 0)) aNil))) (eTup (aCons (eUn (fldD 0 0) (eVar 1)) (aCons (eUn (fldD 0 1) (eVar 1)) aNil))))))
def m_Curve___eq : FF := runB 2 b_Curve___eq
theorem ok_Curve___eq (T : Txt P K mg cl fl tb)  {f : Addr} {fd : FuncData} (F : Fun K "__eq__" "Curve.__eq__" st_Curve___eq f fd) : ∀ g, Gk cl fl tb g → FnOk P w K mg base (L2.CX P w) 1 f fd ["self", "other"] (spD K g 2 m_Curve___eq) := fun g G =>
  fn_ok F sc_Curve___eq rfl fun cdv A outer s H E hr => ⟨_, (ss_one (ds_ret (by exact (dp_and (by exact (dp_isiC (T.isi_Curve G) T.isinstance (T.g_Curve G) (by exact (dp_var 1)))) (dp_one (by exact (dp_cmp (rop_eqD hr.units) (by exact (dp_tup (by exact (da_cons (by exact (dp_fld 0 (T.cls_Curve G) rfl (by exact (dp_var 0)))) (da_cons (by exact (dp_fld 1 (T.cls_Curve G) rfl (by exact (dp_var 0)))) da_nil))))) (by exact (dp_tup (by exact (da_cons (by exact (dp_fld 0 (T.cls_Curve G) rfl (by exact (dp_var 1)))) (da_cons (by exact (dp_fld 1 (T.cls_Curve G) rfl (by exact (dp_var 1)))) da_nil))))))))))))⟩
abbrev st_need_curve : Stmt := top 22
abbrev N_need_curve : List Str := ["curve"]
theorem sc_need_curve : FnScope N_need_curve ["curve"] (defScope st_need_curve) := ⟨rfl, rfl, rfl, by decide +kernel, rfl, by decide +kernel, by decide +kernel⟩
def b_need_curve : SF := (sIf (tNotF (tOf (eUn (dIsC os_Curve) (eVar 0)))) (sRaise 1 (eVar 0)) sNil)
def m_need_curve : FF := runB 1 b_need_curve
theorem ok_need_curve (T : Txt P K mg cl fl tb)  {f : Addr} {fd : FuncData} (F : Fun K "need_curve" "need_curve" st_need_curve f fd) : ∀ g, Gk cl fl tb g → FnOk P w K mg base (L2.CX P w) 2 f fd ["curve"] (spD K g 1 m_need_curve) := fun g G =>
  fn_ok F sc_need_curve rfl fun cdv A outer s H E hr => ⟨_, (ss_one (ds_if (by exact (dt_not (by exact (dt_val (by exact (dp_isiC (T.isi_Curve G) T.isinstance (T.g_Curve G) (by exact (dp_var 0)))))))) (ss_one (ds_raiseF (T.err_BadItem G) rfl hr (takes_of rfl rfl rfl rfl) (by exact (dp_var 0)))) ss_nil))⟩
abbrev st_square_roots : Stmt := top 23
abbrev N_square_roots : List Str := ["p", "value", "x"]
theorem sc_square_roots : FnScope N_square_roots ["p", "value"] (defScope st_square_roots) := ⟨rfl, rfl, rfl, by decide +kernel, rfl, by decide +kernel, by decide +kernel⟩
def b_square_roots : SF := (sRet (eFrz (oComp [2] (iRange1 (eVar 0)) (gN 2) (tOf (eOp dEq (eOp dMod (eOp dMul (eVar 2) (eVar 2)) (eVar 0)) (eOp dMod (eVar 1) (eVar 0)))) (eVar 2))))
def m_square_roots : FF := runB 3 b_square_roots
theorem ok_square_roots (T : Txt P K mg cl fl tb)  {f : Addr} {fd : FuncData} (F : Fun K "square_roots" "square_roots" st_square_roots f fd) : ∀ g, Gk cl fl tb g → FnOk P w K mg base (L2.CX P w) 1 f fd ["p", "value"] (spD K g 2 m_square_roots) := fun g G =>
  fn_ok F sc_square_roots rfl fun cdv A outer s H E hr => ⟨_, (ss_one (ds_ret (by exact (dp_frz (by exact (do_compU s H rfl sc_square_roots.nd (by exact (di_range1 T.range (by exact (dp_var 0)))) (blkOk_by (own := [("x", 2)]) (N := N_square_roots) (sc := defScope st_square_roots) (by decide +kernel)) (fun _ _ _ _ _ => (by exact (dg_name (i := 2) sc_square_roots.nd rfl (Or.inl rfl)))) (fun _ _ _ _ _ => (dts_one (by exact (dt_cmp (rop_eqD hr.units) (by exact (dp_op rop_mod (by exact (dp_op rop_mul (by exact (dp_var 2)) (by exact (dp_var 2)))) (by exact (dp_var 0)))) (by exact (dp_op rop_mod (by exact (dp_var 1)) (by exact (dp_var 0)))))))) (fun _ _ _ _ _ => (by exact (dp_var 2))) (by decide)))))))⟩
abbrev st_line_of : Stmt := top 24
abbrev N_line_of : List Str := ["curve", "x"]
theorem sc_line_of : FnScope N_line_of ["curve"] (defScope st_line_of) := ⟨rfl, rfl, rfl, by decide +kernel, rfl, by decide +kernel, by decide +kernel⟩
def b_line_of : SF := (sRet (eFrz (oComp [1] (iRange1 (eUn (fldD 0 0) (eVar 0))) (gN 1) tYesF (eCallD 3 m_mod_value [] (aCons (eUn (fldD 0 0) (eVar 0)) (aCons (eUn (fldD 0 1) (eVar 0)) (aCons (eVar 1) aNil)))))))
def m_line_of : FF := runB 2 b_line_of
theorem ok_line_of (T : Txt P K mg cl fl tb) (F_mod_value : ∀ g, Gk cl fl tb g → FDk P w K mg base g "mod_value" 1 3 [] m_mod_value) {f : Addr} {fd : FuncData} (F : Fun K "line_of" "line_of" st_line_of f fd) : ∀ g, Gk cl fl tb g → FnOk P w K mg base (L2.CX P w) 2 f fd ["curve"] (spD K g 1 m_line_of) := fun g G =>
  fn_ok F sc_line_of rfl fun cdv A outer s H E hr => ⟨_, (ss_one (ds_ret (by exact (dp_frz (by exact (do_compU s H rfl sc_line_of.nd (by exact (di_range1 T.range (by exact (dp_fld 0 (T.cls_Curve G) rfl (by exact (dp_var 0)))))) (blkOk_by (own := [("x", 1)]) (N := N_line_of) (sc := defScope st_line_of) (by decide +kernel)) (fun _ _ _ _ _ => (by exact (dg_name (i := 1) sc_line_of.nd rfl (Or.inl rfl)))) (fun _ _ _ _ _ => dts_nil) (fun _ _ _ _ _ => (by exact (dp_callF (F_mod_value g G) (hr.mono (by decide)) LamX.takes0 (by exact (da_cons (by exact (dp_fld 0 (T.cls_Curve G) rfl (by exact (dp_var 0)))) (da_cons (by exact (dp_fld 1 (T.cls_Curve G) rfl (by exact (dp_var 0)))) (da_cons (by exact (dp_var 1)) da_nil))))))) (by decide)))))))⟩
abbrev st_points : Stmt := top 25
abbrev N_points : List Str := ["curve", "found", "x", "value", "y"]
theorem sc_points : FnScope N_points ["curve"] (defScope st_points) := ⟨rfl, rfl, rfl, by decide +kernel, rfl, by decide +kernel, by decide +kernel⟩
def b_points : SF := (sSeq (sDrop (eCallD 1 m_need_curve [] (aCons (eVar 0) aNil))) (sSeq (sSet 1 (eFrz (oLst aNil))) (sSeq (sFor (iEnE (eCallD 1 m_line_of [] (aCons (eVar 0) aNil))) (gT [2, 3]) (sSet 1 (eOp dAdd (eVar 1) (eFrz (oComp [4] (iEB (eCallD 2 m_square_roots [] (aCons (eUn (fldD 0 0) (eVar 0)) (aCons (eVar 3) aNil)))) (gN 4) tYesF (eTup (aCons (eVar 2) (aCons (eVar 4) aNil)))))))) (sRet (eB dTupOf (bOf (eVar 1)))))))
def m_points : FF := runB 5 b_points
theorem ok_points (T : Txt P K mg cl fl tb) (F_need_curve : ∀ g, Gk cl fl tb g → FDk P w K mg base g "need_curve" 2 1 [] m_need_curve) (F_square_roots : ∀ g, Gk cl fl tb g → FDk P w K mg base g "square_roots" 1 2 [] m_square_roots) (F_line_of : ∀ g, Gk cl fl tb g → FDk P w K mg base g "line_of" 2 1 [] m_line_of) {f : Addr} {fd : FuncData} (F : Fun K "points" "points" st_points f fd) : ∀ g, Gk cl fl tb g → FnOk P w K mg base (L2.CX P w) 3 f fd ["curve"] (spD K g 1 m_points) := fun g G =>
  fn_ok F sc_points rfl fun cdv A outer s H E hr => ⟨_, (ss_cons (ds_expr (by exact (dp_callF (F_need_curve g G) (hr.mono (by decide)) (takes_of rfl rfl rfl rfl) (by exact (da_cons (by exact (dp_var 0)) da_nil)))))
    (ss_cons (ds_set 1 sc_points.nd rfl (Or.inl rfl) (by exact (dp_frz (by exact (do_lst da_nil)))))
    (ss_cons (ds_for (passes_of rfl) rfl (by exact (di_enumB T.enumerate (by exact (dp_callF (F_line_of g G) (hr.mono (by decide)) (takes_of rfl rfl rfl rfl) (by exact (da_cons (by exact (dp_var 0)) da_nil)))))) (by exact (dg_tup rfl (dgs_cons (i := 2) sc_points.nd rfl (Or.inr rfl) (dgs_cons (i := 3) sc_points.nd rfl (Or.inl rfl) dgs_nil)))) (ss_one (ds_set 1 sc_points.nd rfl (Or.inl rfl) (by exact (dp_op rop_add (by exact (dp_var 1)) (by exact (dp_frz (by exact (do_compU s H rfl sc_points.nd (by exact (di_seq (by exact (dp_callF (F_square_roots g G) (hr.mono (by decide)) (takes_of rfl rfl rfl rfl) (by exact (da_cons (by exact (dp_fld 0 (T.cls_Curve G) rfl (by exact (dp_var 0)))) (da_cons (by exact (dp_var 3)) da_nil))))))) (blkOk_by (own := [("y", 4)]) (N := N_points) (sc := defScope st_points) (by decide +kernel)) (fun _ _ _ _ _ => (by exact (dg_name (i := 4) sc_points.nd rfl (Or.inl rfl)))) (fun _ _ _ _ _ => dts_nil) (fun _ _ _ _ _ => (by exact (dp_tup (by exact (da_cons (by exact (dp_var 2)) (da_cons (by exact (dp_var 4)) da_nil)))))) (by decide))))))))))
    (ss_one (ds_ret (by exact (dp_tupleB T.tuple (by exact (db_of (by exact (dp_var 1)))))))))))⟩
abbrev st_line_values : Stmt := top 26
abbrev N_line_values : List Str := ["curve"]
theorem sc_line_values : FnScope N_line_values ["curve"] (defScope st_line_values) := ⟨rfl, rfl, rfl, by decide +kernel, rfl, by decide +kernel, by decide +kernel⟩
def b_line_values : SF := (sSeq (sDrop (eCallD 1 m_need_curve [] (aCons (eVar 0) aNil))) (sRet (eB dTupOf (bOf (eCallD 1 m_line_of [] (aCons (eVar 0) aNil))))))
def m_line_values : FF := runB 1 b_line_values
theorem ok_line_values (T : Txt P K mg cl fl tb) (F_need_curve : ∀ g, Gk cl fl tb g → FDk P w K mg base g "need_curve" 2 1 [] m_need_curve) (F_line_of : ∀ g, Gk cl fl tb g → FDk P w K mg base g "line_of" 2 1 [] m_line_of) {f : Addr} {fd : FuncData} (F : Fun K "line_values" "line_values" st_line_values f fd) : ∀ g, Gk cl fl tb g → FnOk P w K mg base (L2.CX P w) 3 f fd ["curve"] (spD K g 1 m_line_values) := fun g G =>
  fn_ok F sc_line_values rfl fun cdv A outer s H E hr => ⟨_, (ss_cons (ds_expr (by exact (dp_callF (F_need_curve g G) (hr.mono (by decide)) (takes_of rfl rfl rfl rfl) (by exact (da_cons (by exact (dp_var 0)) da_nil)))))
    (ss_one (ds_ret (by exact (dp_tupleB T.tuple (by exact (db_of (by exact (dp_callF (F_line_of g G) (hr.mono (by decide)) (takes_of rfl rfl rfl rfl) (by exact (da_cons (by exact (dp_var 0)) da_nil)))))))))))⟩
abbrev st_least_no_square : Stmt := top 27
abbrev N_least_no_square : List Str := ["p", "x", "squares", "u"]
theorem sc_least_no_square : FnScope N_least_no_square ["p"] (defScope st_least_no_square) := ⟨rfl, rfl, rfl, by decide +kernel, rfl, by decide +kernel, by decide +kernel⟩
def b_least_no_square : SF := (sSeq (sSet 2 (eFrz (oComp [1] (iRange1 (eVar 0)) (gN 1) tYesF (eOp dMod (eOp dMul (eVar 1) (eVar 1)) (eVar 0))))) (sRet (eBE dIx (bNew (oComp [3] (iRange2 (eC (.int 2)) (eVar 0)) (gN 3) (tOf (eEB (dIn true) (eVar 3) (bOf (eVar 2)))) (eVar 3))) (eC (.int 0)))))
def m_least_no_square : FF := runB 4 b_least_no_square
theorem ok_least_no_square (T : Txt P K mg cl fl tb)  {f : Addr} {fd : FuncData} (F : Fun K "least_no_square" "least_no_square" st_least_no_square f fd) : ∀ g, Gk cl fl tb g → FnOk P w K mg base (L2.CX P w) 1 f fd ["p"] (spD K g 1 m_least_no_square) := fun g G =>
  fn_ok F sc_least_no_square rfl fun cdv A outer s H E hr => ⟨_, (ss_cons (ds_set 2 sc_least_no_square.nd rfl (Or.inr rfl) (by exact (dp_frz (by exact (do_compU s H rfl sc_least_no_square.nd (by exact (di_range1 T.range (by exact (dp_var 0)))) (blkOk_by (own := [("x", 1)]) (N := N_least_no_square) (sc := defScope st_least_no_square) (by decide +kernel)) (fun _ _ _ _ _ => (by exact (dg_name (i := 1) sc_least_no_square.nd rfl (Or.inl rfl)))) (fun _ _ _ _ _ => dts_nil) (fun _ _ _ _ _ => (by exact (dp_op rop_mod (by exact (dp_op rop_mul (by exact (dp_var 1)) (by exact (dp_var 1)))) (by exact (dp_var 0))))) (by decide))))))
    (ss_one (ds_ret (by exact (dp_ixB (by exact (db_new (by exact (do_compU s H rfl sc_least_no_square.nd (by exact (di_range2 T.range dp_int (by exact (dp_var 0)))) (blkOk_by (own := [("u", 3)]) (N := N_least_no_square) (sc := defScope st_least_no_square) (by decide +kernel)) (fun _ _ _ _ _ => (by exact (dg_name (i := 3) sc_least_no_square.nd rfl (Or.inl rfl)))) (fun _ _ _ _ _ => (dts_one (by exact (dt_in true op_notIn_seq (by exact (dp_var 3)) (by exact (db_of (by exact (dp_var 2)))))))) (fun _ _ _ _ _ => (by exact (dp_var 3))) (by decide))))) dp_int)))))⟩
abbrev st_flipped : Stmt := top 28
abbrev N_flipped : List Str := ["curve"]
theorem sc_flipped : FnScope N_flipped ["curve"] (defScope st_flipped) := ⟨rfl, rfl, rfl, by decide +kernel, rfl, by decide +kernel, by decide +kernel⟩
def b_flipped : SF := (sSeq (sDrop (eCallD 1 m_need_curve [] (aCons (eVar 0) aNil))) (sRet (eCall 2 m_Curve___init (aCons (eUn (fldD 0 0) (eVar 0)) (aCons (eCallD 3 m_mod_scaled [] (aCons (eUn (fldD 0 0) (eVar 0)) (aCons (eUn (fldD 0 1) (eVar 0)) (aCons (eCallD 1 m_least_no_square [] (aCons (eUn (fldD 0 0) (eVar 0)) aNil)) aNil)))) aNil)))))
def m_flipped : FF := runB 1 b_flipped
theorem ok_flipped (T : Txt P K mg cl fl tb) (F_mod_scaled : ∀ g, Gk cl fl tb g → FDk P w K mg base g "mod_scaled" 2 3 [] m_mod_scaled) (F_Curve___init : ∀ g, Gk cl fl tb g → MKk P w K mg base g "Curve" 5 0 2 m_Curve___init) (F_need_curve : ∀ g, Gk cl fl tb g → FDk P w K mg base g "need_curve" 2 1 [] m_need_curve) (F_least_no_square : ∀ g, Gk cl fl tb g → FDk P w K mg base g "least_no_square" 1 1 [] m_least_no_square) {f : Addr} {fd : FuncData} (F : Fun K "flipped" "flipped" st_flipped f fd) : ∀ g, Gk cl fl tb g → FnOk P w K mg base (L2.CX P w) 7 f fd ["curve"] (spD K g 1 m_flipped) := fun g G =>
  fn_ok F sc_flipped rfl fun cdv A outer s H E hr => ⟨_, (ss_cons (ds_expr (by exact (dp_callF (F_need_curve g G) (hr.mono (by decide)) (takes_of rfl rfl rfl rfl) (by exact (da_cons (by exact (dp_var 0)) da_nil)))))
    (ss_one (ds_ret (by exact (dp_makeF (F_Curve___init g G) (hr.mono (by decide)) (takes_of rfl rfl rfl rfl) (by exact (da_cons (by exact (dp_fld 0 (T.cls_Curve G) rfl (by exact (dp_var 0)))) (da_cons (by exact (dp_callF (F_mod_scaled g G) (hr.mono (by decide)) (takes_of rfl rfl rfl rfl) (by exact (da_cons (by exact (dp_fld 0 (T.cls_Curve G) rfl (by exact (dp_var 0)))) (da_cons (by exact (dp_fld 1 (T.cls_Curve G) rfl (by exact (dp_var 0)))) (da_cons (by exact (dp_callF (F_least_no_square g G) (hr.mono (by decide)) (takes_of rfl rfl rfl rfl) (by exact (da_cons (by exact (dp_fld 0 (T.cls_Curve G) rfl (by exact (dp_var 0)))) da_nil)))) da_nil)))))) da_nil))))))))⟩
abbrev st_l_law_pen : Stmt := top 30
abbrev N_l_law_pen : List Str := ["script", "fold", "cell"]
theorem sc_l_law_pen : FnScope N_l_law_pen ["script"] (defScope st_l_law_pen) := ⟨rfl, rfl, rfl, by decide +kernel, rfl, by decide +kernel, by decide +kernel⟩
theorem ok_l_law_pen (T : Txt P K mg cl fl tb) {f : Addr} {fd : FuncData} (F : Fun K "_law_pen" "_law_pen" st_l_law_pen f fd) : ∀ g, Gk cl fl tb g → g.pa = none → FnOk P w K mg base (L2.CX P w) 1 f fd ["script"] (spPen K g) := fun g G hg =>
  F.okX sc_l_law_pen (fun vs H Q E h => (by obtain ⟨a, ns, e, _⟩ := h; rw [e]; rfl)) fun cdv A outer s H vs Q E hr h => by
    obtain ⟨a, ns, e, hs, tb, hq⟩ := h
    subst e
    refine' ⟨_, pss_cons (ps_set (i := 1) sc_l_law_pen.nd rfl (Or.inl rfl) pe_int rfl (.inl rfl)) (pss_cons (ps_for (passes_of rfl) rfl (pi_list (pe_var rfl (Or.inl rfl) (by decide) (by decide))) (pg_name (i := 2) sc_l_law_pen.nd rfl (Or.inl rfl)) (pss_one (ps_set (i := 1) sc_l_law_pen.nd rfl (Or.inl rfl) (DP.pe (g := g) (W := fun c d _ H => E c d H) (f := eFold) ?D1) rfl (.inl rfl))))
      (pss_one (ps_ret (pe_disp (pps_cons pe_str (pe_callTy call_list_of rfl T.list (by decide +kernel) (pa_cons (pe_var rfl (Or.inl rfl) (by decide) (by decide)) pa_nil rfl) (by decide) (by decide) rfl) (pps_cons pe_str pe_int (pps_cons pe_str pe_int (pps_cons pe_str pe_int (pps_cons pe_str (pe_var (i := 1) rfl (Or.inl rfl) (by decide) (by decide)) pps_nil))))) rfl rfl (by simp) (by decide))))), pen_run hg (DP.den ?D1) hs tb hq⟩
    case D1 => exact (dp_op rop_mod (by exact (dp_toInt T.int (by exact (dp_op rop_add (by exact (dp_op rop_mul (by exact (dp_var 1)) (by exact dp_int))) (by exact (dp_var 2)))))) (by exact dp_int))
abbrev st_l_law_draw : Stmt := top 31
abbrev N_l_law_draw : List Str := ["pen", "many", "cell", "digit", "mixed"]
theorem sc_l_law_draw : FnScope N_l_law_draw ["pen", "many"] (defScope st_l_law_draw) := ⟨rfl, rfl, rfl, by decide +kernel, rfl, by decide +kernel, by decide +kernel⟩
def b_l_law_draw : SF := (sSeq (sPen 0 upCount (eOp dAdd (ePen 0 PenS.count) (eC (.int 1)))) (sSeq (sIf (tAndF (tOf (eOp dEq (ePen 0 PenS.digits) (eC (.int 0)))) (tOf (eOp dLt (ePen 0 (fun s => (s.at_ : Int))) (eB dLen (bCells 0))))) (sSeq (sSet 2 (eBE dIx (bCells 0) (ePen 0 (fun s => (s.at_ : Int))))) (sSeq (sPen 0 upAt (eOp dAdd (ePen 0 (fun s => (s.at_ : Int))) (eC (.int 1)))) (sIf (tOf (eOp dGe (eVar 2) (eOp dPow (eC (.int 10)) (eC (.int 18))))) (sPen 0 upDigits (eOp dSub (eVar 2) (eOp dPow (eC (.int 10)) (eC (.int 18))))) (sPen 0 upFold (eOp dMod (eUn dInt (eOp dAdd (eOp dMul (ePen 0 PenS.fold) (eC (.int 69069))) (eVar 2))) (eC (.int 2147483587))))))) sNil) (sSeq (sIf (tOf (eOp dGt (ePen 0 PenS.digits) (eC (.int 0)))) (sSeq (sSet 3 (eOp dMod (eUn dInt (ePen 0 PenS.digits)) (eVar 1))) (sSeq (sPen 0 upDigits (eOp dDiv (ePen 0 PenS.digits) (eVar 1))) (sRet (eVar 3)))) sNil) (sSeq (sSet 4 (eOp dAdd (eOp dAdd (ePen 0 PenS.fold) (eOp dMul (ePen 0 PenS.count) (eC (.int 7907)))) (eC (.int 37)))) (sRet (eOp dMod (eOp dDiv (eUn dInt (eOp dMod (eOp dPow (eVar 4) (eC (.int 17))) (eC (.int 2305843009213693951)))) (eC (.int 128))) (eVar 1)))))))
def m_l_law_draw : FF := runB 5 b_l_law_draw
theorem ok_l_law_draw (T : Txt P K mg cl fl tb)  {f : Addr} {fd : FuncData} (F : Fun K "_law_draw" "_law_draw" st_l_law_draw f fd) : ∀ g, Gk cl fl tb g → FnOk P w K mg base (L2.CX P w) 1 f fd ["pen", "many"] (spD K g 2 m_l_law_draw) := fun g G =>
  fn_ok F sc_l_law_draw rfl fun cdv A outer s H E hr => ⟨_, (ss_cons (ds_pen 0 (hu_of hr) put_count (by exact (dp_op rop_add (by exact (dp_penI 0 (sel := PenS.count) (hu_of hr) get_count)) dp_int)))
    (ss_cons (ds_if (by exact (DW.dt (by exact (dw_and (by exact (dt_cmp (rop_eqD hr.units) (by exact (dp_penI 0 (sel := PenS.digits) (hu_of hr) get_digits)) dp_int)) (dw_and1 (by exact (dt_cmp rop_lt (by exact (dp_penI 0 (sel := (fun s => (s.at_ : Int))) (hu_of hr) get_at)) (by exact (dp_lenB T.len (by exact (db_cells 0 (hu_of hr)))))))))))) (ss_cons (ds_set 2 sc_l_law_draw.nd rfl (Or.inl rfl) (by exact (dp_ixB (by exact (db_cells 0 (hu_of hr))) (by exact (dp_penI 0 (sel := (fun s => (s.at_ : Int))) (hu_of hr) get_at)))))
    (ss_cons (ds_pen 0 (hu_of hr) put_at (by exact (dp_op rop_add (by exact (dp_penI 0 (sel := (fun s => (s.at_ : Int))) (hu_of hr) get_at)) dp_int)))
    (ss_one (ds_if (by exact (dt_cmp rop_ge (by exact (dp_var 2)) (by exact (dp_op rop_pow dp_int dp_int)))) (ss_one (ds_pen 0 (hu_of hr) put_digits (by exact (dp_op rop_sub (by exact (dp_var 2)) (by exact (dp_op rop_pow dp_int dp_int)))))) (ss_one (ds_pen 0 (hu_of hr) put_fold (by exact (dp_op rop_mod (by exact (dp_toInt T.int (by exact (dp_op rop_add (by exact (dp_op rop_mul (by exact (dp_penI 0 (sel := PenS.fold) (hu_of hr) get_fold)) dp_int)) (by exact (dp_var 2)))))) dp_int)))))))) ss_nil)
    (ss_cons (ds_if (by exact (dt_cmp rop_gt (by exact (dp_penI 0 (sel := PenS.digits) (hu_of hr) get_digits)) dp_int)) (ss_cons (ds_set 3 sc_l_law_draw.nd rfl (Or.inl rfl) (by exact (dp_op rop_mod (by exact (dp_toInt T.int (by exact (dp_penI 0 (sel := PenS.digits) (hu_of hr) get_digits)))) (by exact (dp_var 1)))))
    (ss_cons (ds_pen 0 (hu_of hr) put_digits (by exact (dp_op rop_div (by exact (dp_penI 0 (sel := PenS.digits) (hu_of hr) get_digits)) (by exact (dp_var 1)))))
    (ss_one (ds_ret (by exact (dp_var 3)))))) ss_nil)
    (ss_cons (ds_set 4 sc_l_law_draw.nd rfl (Or.inl rfl) (by exact (dp_op rop_add (by exact (dp_op rop_add (by exact (dp_penI 0 (sel := PenS.fold) (hu_of hr) get_fold)) (by exact (dp_op rop_mul (by exact (dp_penI 0 (sel := PenS.count) (hu_of hr) get_count)) dp_int)))) dp_int)))
    (ss_one (ds_ret (by exact (dp_op rop_mod (by exact (dp_op rop_div (by exact (dp_toInt T.int (by exact (dp_op rop_mod (by exact (dp_op rop_pow (by exact (dp_var 4)) dp_int)) dp_int)))) dp_int)) (by exact (dp_var 1))))))))))⟩
abbrev st_l_law_pick : Stmt := top 32
abbrev N_l_law_pick : List Str := ["pen", "some"]
theorem sc_l_law_pick : FnScope N_l_law_pick ["pen", "some"] (defScope st_l_law_pick) := ⟨rfl, rfl, rfl, by decide +kernel, rfl, by decide +kernel, by decide +kernel⟩
def b_l_law_pick : SF := (sRet (eBE dIx (bOf (eVar 1)) (eCallD 2 m_l_law_draw [] (aCons (eVar 0) (aCons (eB dLen (bOf (eVar 1))) aNil)))))
def m_l_law_pick : FF := runB 2 b_l_law_pick
theorem ok_l_law_pick (T : Txt P K mg cl fl tb) (F_l_law_draw : ∀ g, Gk cl fl tb g → FDk P w K mg base g "_law_draw" 1 2 [] m_l_law_draw) {f : Addr} {fd : FuncData} (F : Fun K "_law_pick" "_law_pick" st_l_law_pick f fd) : ∀ g, Gk cl fl tb g → FnOk P w K mg base (L2.CX P w) 2 f fd ["pen", "some"] (spD K g 2 m_l_law_pick) := fun g G =>
  fn_ok F sc_l_law_pick rfl fun cdv A outer s H E hr => ⟨_, (ss_one (ds_ret (by exact (dp_ixB (by exact (db_of (by exact (dp_var 1)))) (by exact (dp_callF (F_l_law_draw g G) (hr.mono (by decide)) (takes_of rfl rfl rfl rfl) (by exact (da_cons (by exact (dp_var 0)) (da_cons (by exact (dp_lenB T.len (by exact (db_of (by exact (dp_var 1)))))) da_nil)))))))))⟩
abbrev st_l_law_listed : Stmt := top 33
abbrev N_l_law_listed : List Str := ["pen", "row"]
theorem sc_l_law_listed : FnScope N_l_law_listed ["pen", "row"] (defScope st_l_law_listed) := ⟨rfl, rfl, rfl, by decide +kernel, rfl, by decide +kernel, by decide +kernel⟩
def b_l_law_listed : SF := (sRet (eIf (tOf (eOp dEq (eCallD 2 m_l_law_draw [] (aCons (eVar 0) (aCons (eC (.int 2)) aNil))) (eC (.int 0)))) (eFrz (oB dListOf (bOf (eVar 1)))) (eB dTupOf (bOf (eVar 1)))))
def m_l_law_listed : FF := runB 2 b_l_law_listed
theorem ok_l_law_listed (T : Txt P K mg cl fl tb) (F_l_law_draw : ∀ g, Gk cl fl tb g → FDk P w K mg base g "_law_draw" 1 2 [] m_l_law_draw) {f : Addr} {fd : FuncData} (F : Fun K "_law_listed" "_law_listed" st_l_law_listed f fd) : ∀ g, Gk cl fl tb g → FnOk P w K mg base (L2.CX P w) 2 f fd ["pen", "row"] (spD K g 2 m_l_law_listed) := fun g G =>
  fn_ok F sc_l_law_listed rfl fun cdv A outer s H E hr => ⟨_, (ss_one (ds_ret (by exact (dp_if (by exact (dt_cmp (rop_eqD hr.units) (by exact (dp_callF (F_l_law_draw g G) (hr.mono (by decide)) (takes_of rfl rfl rfl rfl) (by exact (da_cons (by exact (dp_var 0)) (da_cons dp_int da_nil))))) dp_int)) (by exact (dp_frz (by exact (do_listB T.list (by exact (db_of (by exact (dp_var 1)))))))) (by exact (dp_tupleB T.tuple (by exact (db_of (by exact (dp_var 1))))))))))⟩
abbrev st_l_law_cut : Stmt := top 34
abbrev N_l_law_cut : List Str := ["row"]
theorem sc_l_law_cut : FnScope N_l_law_cut ["row"] (defScope st_l_law_cut) := ⟨rfl, rfl, rfl, by decide +kernel, rfl, by decide +kernel, by decide +kernel⟩
def b_l_law_cut : SF := (sSeq (sSet 0 (eFrz (oB dListOf (bOf (eVar 0))))) (sSeq (sWhile FU (tAndF (tOf (eOp dNe (eVar 0) (eFrz (oLst aNil)))) (tOf (eOp dEq (eBE dIx (bOf (eVar 0)) (eUn dNeg (eC (.int 1)))) (eC (.int 0))))) (sSet 0 (eSlice (bOf (eVar 0)) oNone (oSome (eUn dNeg (eC (.int 1))))))) (sRet (eVar 0))))
def m_l_law_cut : FF := runB 1 b_l_law_cut
theorem ok_l_law_cut (T : Txt P K mg cl fl tb)  {f : Addr} {fd : FuncData} (F : Fun K "_law_cut" "_law_cut" st_l_law_cut f fd) : ∀ g, Gk cl fl tb g → FnOk P w K mg base (L2.CX P w) 1 f fd ["row"] (spD K g 1 m_l_law_cut) := fun g G =>
  fn_ok F sc_l_law_cut rfl fun cdv A outer s H E hr => ⟨_, (ss_cons (ds_set 0 sc_l_law_cut.nd rfl (Or.inl rfl) (by exact (dp_frz (by exact (do_listB T.list (by exact (db_of (by exact (dp_var 0)))))))))
    (ss_cons (ds_while FU (passes_of rfl) (by exact (DW.dt (by exact (dw_and (by exact (dt_cmp (rop_neD hr.units) (by exact (dp_var 0)) (by exact (dp_frz (by exact (do_lst da_nil)))))) (dw_and1 (by exact (dt_cmp (rop_eqD hr.units) (by exact (dp_ixB (by exact (db_of (by exact (dp_var 0)))) (by exact (dp_neg dp_int)))) dp_int))))))) (ss_one (ds_set 0 sc_l_law_cut.nd rfl (Or.inl rfl) (by exact (dp_slice (by exact (db_of (by exact (dp_var 0)))) do_none (do_some (by exact (dp_neg dp_int))))))))
    (ss_one (ds_ret (by exact (dp_var 0))))))⟩
abbrev st_l_law_w_times : Stmt := top 35
abbrev N_l_law_w_times : List Str := ["a", "b", "found", "i", "x", "j", "y"]
theorem sc_l_law_w_times : FnScope N_l_law_w_times ["a", "b"] (defScope st_l_law_w_times) := ⟨rfl, rfl, rfl, by decide +kernel, rfl, by decide +kernel, by decide +kernel⟩
def b_l_law_w_times : SF := (sSeq (sIf (tOrF (tOf (eOp dEq (eVar 0) (eFrz (oLst aNil)))) (tOf (eOp dEq (eVar 1) (eFrz (oLst aNil))))) (sRet (eFrz (oLst aNil))) sNil) (sSeq (sSetO 2 (oRep (oLst (aCons (eC (.int 0)) aNil)) (eOp dSub (eOp dAdd (eB dLen (bOf (eVar 0))) (eB dLen (bOf (eVar 1)))) (eC (.int 1))))) (sSeq (sFor (iEnE (eVar 0)) (gT [3, 4]) (sFor (iEnE (eVar 1)) (gT [5, 6]) (sIx 2 (eOp dAdd (eVar 3) (eVar 5)) (eOp dAdd (eBE dIx (bOwn 2) (eOp dAdd (eVar 3) (eVar 5))) (eOp dMul (eVar 4) (eVar 6)))))) (sFrz 2 (sRet (eCallD 1 m_l_law_cut [] (aCons (eVar 2) aNil)))))))
def m_l_law_w_times : FF := runB 7 b_l_law_w_times
theorem ok_l_law_w_times (T : Txt P K mg cl fl tb) (F_l_law_cut : ∀ g, Gk cl fl tb g → FDk P w K mg base g "_law_cut" 1 1 [] m_l_law_cut) {f : Addr} {fd : FuncData} (F : Fun K "_law_w_times" "_law_w_times" st_l_law_w_times f fd) : ∀ g, Gk cl fl tb g → FnOk P w K mg base (L2.CX P w) 2 f fd ["a", "b"] (spD K g 2 m_l_law_w_times) := fun g G =>
  fn_ok F sc_l_law_w_times rfl fun cdv A outer s H E hr => ⟨_, (ss_cons (ds_if (by exact (DW.dt (by exact (dw_or (by exact (dt_cmp (rop_eqD hr.units) (by exact (dp_var 0)) (by exact (dp_frz (by exact (do_lst da_nil)))))) (dw_or1 (by exact (dt_cmp (rop_eqD hr.units) (by exact (dp_var 1)) (by exact (dp_frz (by exact (do_lst da_nil))))))))))) (ss_one (ds_ret (by exact (dp_frz (by exact (do_lst da_nil)))))) ss_nil)
    (ss_cons (ds_setO 2 sc_l_law_w_times.nd rfl (Or.inl rfl) (by exact (do_rep (by exact (do_lst (by exact (da_cons dp_int da_nil)))) (by exact (dp_op rop_sub (by exact (dp_op rop_add (by exact (dp_lenB T.len (by exact (db_of (by exact (dp_var 0)))))) (by exact (dp_lenB T.len (by exact (db_of (by exact (dp_var 1)))))))) dp_int)))))
    (ss_cons (ds_for (passes_of rfl) rfl (by exact (di_enumB T.enumerate (by exact (dp_var 0)))) (by exact (dg_tup rfl (dgs_cons (i := 3) sc_l_law_w_times.nd rfl (Or.inl rfl) (dgs_cons (i := 4) sc_l_law_w_times.nd rfl (Or.inl rfl) dgs_nil)))) (ss_one (ds_for (passes_of rfl) rfl (by exact (di_enumB T.enumerate (by exact (dp_var 1)))) (by exact (dg_tup rfl (dgs_cons (i := 5) sc_l_law_w_times.nd rfl (Or.inl rfl) (dgs_cons (i := 6) sc_l_law_w_times.nd rfl (Or.inl rfl) dgs_nil)))) (ss_one (ds_ix 2 (by exact (dp_op rop_add (by exact (dp_ixB (by exact (db_own 2)) (by exact (dp_op rop_add (by exact (dp_var 3)) (by exact (dp_var 5)))))) (by exact (dp_op rop_mul (by exact (dp_var 4)) (by exact (dp_var 6)))))) (by exact (dp_op rop_add (by exact (dp_var 3)) (by exact (dp_var 5)))))))))
    (ss_one (ds_frz 2 (ds_ret (by exact (dp_callF (F_l_law_cut g G) (hr.mono (by decide)) (takes_of rfl rfl rfl rfl) (by exact (da_cons (by exact (dp_var 2)) da_nil))))))))))⟩
abbrev st_l_law_m_times : Stmt := top 36
abbrev N_l_law_m_times : List Str := ["p", "a", "b", "item"]
theorem sc_l_law_m_times : FnScope N_l_law_m_times ["p", "a", "b"] (defScope st_l_law_m_times) := ⟨rfl, rfl, rfl, by decide +kernel, rfl, by decide +kernel, by decide +kernel⟩
def b_l_law_m_times : SF := (sRet (eCallD 1 m_l_law_cut [] (aCons (eFrz (oComp [3] (iEB (eCallD 2 m_l_law_w_times [] (aCons (eFrz (oB dListOf (bOf (eVar 1)))) (aCons (eFrz (oB dListOf (bOf (eVar 2)))) aNil)))) (gN 3) tYesF (eOp dMod (eUn dInt (eVar 3)) (eVar 0)))) aNil)))
def m_l_law_m_times : FF := runB 4 b_l_law_m_times
theorem ok_l_law_m_times (T : Txt P K mg cl fl tb) (F_l_law_cut : ∀ g, Gk cl fl tb g → FDk P w K mg base g "_law_cut" 1 1 [] m_l_law_cut) (F_l_law_w_times : ∀ g, Gk cl fl tb g → FDk P w K mg base g "_law_w_times" 2 2 [] m_l_law_w_times) {f : Addr} {fd : FuncData} (F : Fun K "_law_m_times" "_law_m_times" st_l_law_m_times f fd) : ∀ g, Gk cl fl tb g → FnOk P w K mg base (L2.CX P w) 3 f fd ["p", "a", "b"] (spD K g 3 m_l_law_m_times) := fun g G =>
  fn_ok F sc_l_law_m_times rfl fun cdv A outer s H E hr => ⟨_, (ss_one (ds_ret (by exact (dp_callF (F_l_law_cut g G) (hr.mono (by decide)) (takes_of rfl rfl rfl rfl) (by exact (da_cons (by exact (dp_frz (by exact (do_compU s H rfl sc_l_law_m_times.nd (by exact (di_seq (by exact (dp_callF (F_l_law_w_times g G) (hr.mono (by decide)) (takes_of rfl rfl rfl rfl) (by exact (da_cons (by exact (dp_frz (by exact (do_listB T.list (by exact (db_of (by exact (dp_var 1)))))))) (da_cons (by exact (dp_frz (by exact (do_listB T.list (by exact (db_of (by exact (dp_var 2)))))))) da_nil))))))) (blkOk_by (own := [("item", 3)]) (N := N_l_law_m_times) (sc := defScope st_l_law_m_times) (by decide +kernel)) (fun _ _ _ _ _ => (by exact (dg_name (i := 3) sc_l_law_m_times.nd rfl (Or.inl rfl)))) (fun _ _ _ _ _ => dts_nil) (fun _ _ _ _ _ => (by exact (dp_op rop_mod (by exact (dp_toInt T.int (by exact (dp_var 3)))) (by exact (dp_var 0))))) (by decide))))) da_nil))))))⟩
abbrev st_l_law_m_rest : Stmt := top 37
abbrev N_l_law_m_rest : List Str := ["p", "a", "b", "item", "rest", "quotient", "k", "back", "lap", "at", "x"]
theorem sc_l_law_m_rest : FnScope N_l_law_m_rest ["p", "a", "b"] (defScope st_l_law_m_rest) := ⟨rfl, rfl, rfl, by decide +kernel, rfl, by decide +kernel, by decide +kernel⟩
def b_l_law_m_rest : SF := (sSeq (sPar2 4 5 (vVal (eFrz (oComp [3] (iEB (eVar 1)) (gN 3) tYesF (eOp dMod (eUn dInt (eVar 3)) (eVar 0))))) (vVal (eFrz (oLst aNil)))) (sSeq (sSet 7 (eIf (tOf (eOp dGt (eVar 0) (eC (.int 2)))) (eBE dIx (bNew (oComp [6] (iRange2 (eC (.int 1)) (eVar 0)) (gN 6) (tOf (eOp dEq (eOp dMod (eUn dInt (eOp dMul (eVar 6) (eBE dIx (bOf (eVar 2)) (eUn dNeg (eC (.int 1)))))) (eVar 0)) (eC (.int 1)))) (eVar 6))) (eC (.int 0))) (eC (.int 1)))) (sSeq (sFor (iRange1 (eOp dAdd (eOp dSub (eB dLen (bOf (eVar 1))) (eB dLen (bOf (eVar 2)))) (eC (.int 1)))) (gN 8) (sSeq (sSet 9 (eOp dSub (eOp dSub (eB dLen (bOf (eVar 1))) (eB dLen (bOf (eVar 2)))) (eVar 8))) (sSeq (sSet 3 (eOp dMod (eUn dInt (eOp dMul (eBE dIx (bOf (eVar 4)) (eOp dSub (eOp dAdd (eVar 9) (eB dLen (bOf (eVar 2)))) (eC (.int 1)))) (eVar 7))) (eVar 0))) (sSeq (sSet 5 (eOp dAdd (eFrz (oLst (aCons (eVar 3) aNil))) (eVar 5))) (sThenF 4 (sSetO 4 (oComp [6, 10] (iEnE (eVar 4)) (gT [6, 10]) tYesF (eOp dMod (eUn dInt (eOp dSub (eVar 10) (eOp dMul (eVar 3) (eIf (tOf (eChain dLe dLt (eC (.int 0)) (eOp dSub (eVar 6) (eVar 9)) (eB dLen (bOf (eVar 2))))) (eBE dIx (bOf (eVar 2)) (eOp dSub (eVar 6) (eVar 9))) (eC (.int 0)))))) (eVar 0))))))))) (sRet (eTup (aCons (eCallD 1 m_l_law_cut [] (aCons (eVar 5) aNil)) (aCons (eCallD 1 m_l_law_cut [] (aCons (eVar 4) aNil)) aNil)))))))
def m_l_law_m_rest : FF := runB 11 b_l_law_m_rest
theorem ok_l_law_m_rest (T : Txt P K mg cl fl tb) (F_l_law_cut : ∀ g, Gk cl fl tb g → FDk P w K mg base g "_law_cut" 1 1 [] m_l_law_cut) {f : Addr} {fd : FuncData} (F : Fun K "_law_m_rest" "_law_m_rest" st_l_law_m_rest f fd) : ∀ g, Gk cl fl tb g → FnOk P w K mg base (L2.CX P w) 2 f fd ["p", "a", "b"] (spD K g 3 m_l_law_m_rest) := fun g G =>
  fn_ok F sc_l_law_m_rest rfl fun cdv A outer s H E hr => ⟨_, (ss_cons (ds_par2 rfl sc_l_law_m_rest.nd rfl rfl (by decide) rfl rfl (dv_val (by exact (dp_frz (by exact (do_compU s H rfl sc_l_law_m_rest.nd (by exact (di_seq (by exact (dp_var 1)))) (blkOk_by (own := [("item", 3)]) (N := N_l_law_m_rest) (sc := defScope st_l_law_m_rest) (by decide +kernel)) (fun _ _ _ _ _ => (by exact (dg_name (i := 3) sc_l_law_m_rest.nd rfl (Or.inl rfl)))) (fun _ _ _ _ _ => dts_nil) (fun _ _ _ _ _ => (by exact (dp_op rop_mod (by exact (dp_toInt T.int (by exact (dp_var 3)))) (by exact (dp_var 0))))) (by decide)))))) (dv_val (by exact (dp_frz (by exact (do_lst da_nil))))) rfl rfl rfl)
    (ss_cons (ds_set 7 sc_l_law_m_rest.nd rfl (Or.inl rfl) (by exact (dp_if (by exact (dt_cmp rop_gt (by exact (dp_var 0)) dp_int)) (by exact (dp_ixB (by exact (db_new (by exact (do_compU s H rfl sc_l_law_m_rest.nd (by exact (di_range2 T.range dp_int (by exact (dp_var 0)))) (blkOk_by (own := [("k", 6)]) (N := N_l_law_m_rest) (sc := defScope st_l_law_m_rest) (by decide +kernel)) (fun _ _ _ _ _ => (by exact (dg_name (i := 6) sc_l_law_m_rest.nd rfl (Or.inl rfl)))) (fun _ _ _ _ _ => (dts_one (by exact (dt_cmp (rop_eqD hr.units) (by exact (dp_op rop_mod (by exact (dp_toInt T.int (by exact (dp_op rop_mul (by exact (dp_var 6)) (by exact (dp_ixB (by exact (db_of (by exact (dp_var 2)))) (by exact (dp_neg dp_int)))))))) (by exact (dp_var 0)))) dp_int)))) (fun _ _ _ _ _ => (by exact (dp_var 6))) (by decide))))) dp_int)) dp_int)))
    (ss_cons (ds_for (passes_of rfl) rfl (by exact (di_range1 T.range (by exact (dp_op rop_add (by exact (dp_op rop_sub (by exact (dp_lenB T.len (by exact (db_of (by exact (dp_var 1)))))) (by exact (dp_lenB T.len (by exact (db_of (by exact (dp_var 2)))))))) dp_int)))) (by exact (dg_name (i := 8) sc_l_law_m_rest.nd rfl (Or.inl rfl))) (ss_cons (ds_set 9 sc_l_law_m_rest.nd rfl (Or.inr rfl) (by exact (dp_op rop_sub (by exact (dp_op rop_sub (by exact (dp_lenB T.len (by exact (db_of (by exact (dp_var 1)))))) (by exact (dp_lenB T.len (by exact (db_of (by exact (dp_var 2)))))))) (by exact (dp_var 8)))))
    (ss_cons (ds_set 3 sc_l_law_m_rest.nd rfl (Or.inr rfl) (by exact (dp_op rop_mod (by exact (dp_toInt T.int (by exact (dp_op rop_mul (by exact (dp_ixB (by exact (db_of (by exact (dp_var 4)))) (by exact (dp_op rop_sub (by exact (dp_op rop_add (by exact (dp_var 9)) (by exact (dp_lenB T.len (by exact (db_of (by exact (dp_var 2)))))))) dp_int)))) (by exact (dp_var 7)))))) (by exact (dp_var 0)))))
    (ss_cons (ds_set 5 sc_l_law_m_rest.nd rfl (Or.inl rfl) (by exact (dp_op rop_add (by exact (dp_frz (by exact (do_lst (by exact (da_cons (by exact (dp_var 3)) da_nil)))))) (by exact (dp_var 5)))))
    (ss_one (ds_thenF 4 (ds_setLcU 4 s H rfl sc_l_law_m_rest.nd rfl rfl (sw_true rfl rfl rfl (by decide +kernel)) (by exact (di_enumB T.enumerate (by exact (dp_var 4)))) (blkOk_by (own := [("k", 6), ("x", 10)]) (N := N_l_law_m_rest) (sc := defScope st_l_law_m_rest) (by decide +kernel)) (fun _ _ _ _ _ => (by exact (dg_tup rfl (dgs_cons (i := 6) sc_l_law_m_rest.nd rfl (Or.inl rfl) (dgs_cons (i := 10) sc_l_law_m_rest.nd rfl (Or.inl rfl) dgs_nil))))) (fun _ _ _ _ _ => dts_nil) (fun _ _ _ _ _ => (by exact (dp_op rop_mod (by exact (dp_toInt T.int (by exact (dp_op rop_sub (by exact (dp_var 10)) (by exact (dp_op rop_mul (by exact (dp_var 3)) (by exact (dp_if (by exact (dt_chain rop_le rop_lt dp_int (by exact (dp_op rop_sub (by exact (dp_var 6)) (by exact (dp_var 9)))) (by exact (dp_lenB T.len (by exact (db_of (by exact (dp_var 2)))))))) (by exact (dp_ixB (by exact (db_of (by exact (dp_var 2)))) (by exact (dp_op rop_sub (by exact (dp_var 6)) (by exact (dp_var 9)))))) dp_int)))))))) (by exact (dp_var 0))))) (by decide))))))))
    (ss_one (ds_ret (by exact (dp_tup (by exact (da_cons (by exact (dp_callF (F_l_law_cut g G) (hr.mono (by decide)) (takes_of rfl rfl rfl rfl) (by exact (da_cons (by exact (dp_var 5)) da_nil)))) (da_cons (by exact (dp_callF (F_l_law_cut g G) (hr.mono (by decide)) (takes_of rfl rfl rfl rfl) (by exact (da_cons (by exact (dp_var 4)) da_nil)))) da_nil))))))))))⟩
abbrev st_l_law_m_common : Stmt := top 38
abbrev N_l_law_m_common : List Str := ["p", "a", "b", "k", "back", "item"]
theorem sc_l_law_m_common : FnScope N_l_law_m_common ["p", "a", "b"] (defScope st_l_law_m_common) := ⟨rfl, rfl, rfl, by decide +kernel, rfl, by decide +kernel, by decide +kernel⟩
def b_l_law_m_common : SF := (sSeq (sAsg (eTup (aCons (eFrz (oB dListOf (bOf (eVar 1)))) (aCons (eFrz (oB dListOf (bOf (eVar 2)))) aNil))) (gT [1, 2])) (sSeq (sWhile FU (tOf (eOp dNe (eVar 2) (eFrz (oLst aNil)))) (sAsg (eTup (aCons (eVar 2) (aCons (eBE dIx (bOf (eCallD 3 m_l_law_m_rest [] (aCons (eVar 0) (aCons (eVar 1) (aCons (eVar 2) aNil))))) (eC (.int 1))) aNil))) (gT [1, 2]))) (sSeq (sIf (tOf (eOp dEq (eVar 1) (eFrz (oLst aNil)))) (sRet (eFrz (oLst aNil))) sNil) (sSeq (sSet 4 (eBE dIx (bNew (oComp [3] (iRange2 (eC (.int 1)) (eVar 0)) (gN 3) (tOf (eOp dEq (eOp dMod (eUn dInt (eOp dMul (eVar 3) (eBE dIx (bOf (eVar 1)) (eUn dNeg (eC (.int 1)))))) (eVar 0)) (eC (.int 1)))) (eVar 3))) (eC (.int 0)))) (sRet (eFrz (oComp [5] (iEB (eVar 1)) (gN 5) tYesF (eOp dMod (eUn dInt (eOp dMul (eVar 5) (eVar 4))) (eVar 0)))))))))
def m_l_law_m_common : FF := runB 6 b_l_law_m_common
theorem ok_l_law_m_common (T : Txt P K mg cl fl tb) (F_l_law_m_rest : ∀ g, Gk cl fl tb g → FDk P w K mg base g "_law_m_rest" 2 3 [] m_l_law_m_rest) {f : Addr} {fd : FuncData} (F : Fun K "_law_m_common" "_law_m_common" st_l_law_m_common f fd) : ∀ g, Gk cl fl tb g → FnOk P w K mg base (L2.CX P w) 3 f fd ["p", "a", "b"] (spD K g 3 m_l_law_m_common) := fun g G =>
  fn_ok F sc_l_law_m_common rfl fun cdv A outer s H E hr => ⟨_, (ss_cons (ds_asg (by exact (dp_tup (by exact (da_cons (by exact (dp_frz (by exact (do_listB T.list (by exact (db_of (by exact (dp_var 1)))))))) (da_cons (by exact (dp_frz (by exact (do_listB T.list (by exact (db_of (by exact (dp_var 2)))))))) da_nil))))) (by exact (dg_tup rfl (dgs_cons (i := 1) sc_l_law_m_common.nd rfl (Or.inr rfl) (dgs_cons (i := 2) sc_l_law_m_common.nd rfl (Or.inl rfl) dgs_nil)))))
    (ss_cons (ds_while FU (passes_of rfl) (by exact (dt_cmp (rop_neD hr.units) (by exact (dp_var 2)) (by exact (dp_frz (by exact (do_lst da_nil)))))) (ss_one (ds_asg (by exact (dp_tup (by exact (da_cons (by exact (dp_var 2)) (da_cons (by exact (dp_ixB (by exact (db_of (by exact (dp_callF (F_l_law_m_rest g G) (hr.mono (by decide)) (takes_of rfl rfl rfl rfl) (by exact (da_cons (by exact (dp_var 0)) (da_cons (by exact (dp_var 1)) (da_cons (by exact (dp_var 2)) da_nil)))))))) dp_int)) da_nil))))) (by exact (dg_tup rfl (dgs_cons (i := 1) sc_l_law_m_common.nd rfl (Or.inr rfl) (dgs_cons (i := 2) sc_l_law_m_common.nd rfl (Or.inl rfl) dgs_nil)))))))
    (ss_cons (ds_if (by exact (dt_cmp (rop_eqD hr.units) (by exact (dp_var 1)) (by exact (dp_frz (by exact (do_lst da_nil)))))) (ss_one (ds_ret (by exact (dp_frz (by exact (do_lst da_nil)))))) ss_nil)
    (ss_cons (ds_set 4 sc_l_law_m_common.nd rfl (Or.inr rfl) (by exact (dp_ixB (by exact (db_new (by exact (do_compU s H rfl sc_l_law_m_common.nd (by exact (di_range2 T.range dp_int (by exact (dp_var 0)))) (blkOk_by (own := [("k", 3)]) (N := N_l_law_m_common) (sc := defScope st_l_law_m_common) (by decide +kernel)) (fun _ _ _ _ _ => (by exact (dg_name (i := 3) sc_l_law_m_common.nd rfl (Or.inl rfl)))) (fun _ _ _ _ _ => (dts_one (by exact (dt_cmp (rop_eqD hr.units) (by exact (dp_op rop_mod (by exact (dp_toInt T.int (by exact (dp_op rop_mul (by exact (dp_var 3)) (by exact (dp_ixB (by exact (db_of (by exact (dp_var 1)))) (by exact (dp_neg dp_int)))))))) (by exact (dp_var 0)))) dp_int)))) (fun _ _ _ _ _ => (by exact (dp_var 3))) (by decide))))) dp_int)))
    (ss_one (ds_ret (by exact (dp_frz (by exact (do_compU s H rfl sc_l_law_m_common.nd (by exact (di_seq (by exact (dp_var 1)))) (blkOk_by (own := [("item", 5)]) (N := N_l_law_m_common) (sc := defScope st_l_law_m_common) (by decide +kernel)) (fun _ _ _ _ _ => (by exact (dg_name (i := 5) sc_l_law_m_common.nd rfl (Or.inl rfl)))) (fun _ _ _ _ _ => dts_nil) (fun _ _ _ _ _ => (by exact (dp_op rop_mod (by exact (dp_toInt T.int (by exact (dp_op rop_mul (by exact (dp_var 5)) (by exact (dp_var 4)))))) (by exact (dp_var 0))))) (by decide)))))))))))⟩
abbrev st_l_law_m_at : Stmt := top 39
abbrev N_l_law_m_at : List Str := ["p", "a", "x", "found", "item"]
theorem sc_l_law_m_at : FnScope N_l_law_m_at ["p", "a", "x"] (defScope st_l_law_m_at) := ⟨rfl, rfl, rfl, by decide +kernel, rfl, by decide +kernel, by decide +kernel⟩
def b_l_law_m_at : SF := (sSeq (sSet 3 (eC (.int 0))) (sSeq (sFor (iEB (eB dRev (bNew (oB dListOf (bOf (eVar 1)))))) (gN 4) (sSet 3 (eOp dMod (eUn dInt (eOp dAdd (eOp dMul (eVar 3) (eVar 2)) (eVar 4))) (eVar 0)))) (sRet (eVar 3))))
def m_l_law_m_at : FF := runB 5 b_l_law_m_at
theorem ok_l_law_m_at (T : Txt P K mg cl fl tb)  {f : Addr} {fd : FuncData} (F : Fun K "_law_m_at" "_law_m_at" st_l_law_m_at f fd) : ∀ g, Gk cl fl tb g → FnOk P w K mg base (L2.CX P w) 1 f fd ["p", "a", "x"] (spD K g 3 m_l_law_m_at) := fun g G =>
  fn_ok F sc_l_law_m_at rfl fun cdv A outer s H E hr => ⟨_, (ss_cons (ds_set 3 sc_l_law_m_at.nd rfl (Or.inl rfl) dp_int)
    (ss_cons (ds_for (passes_of rfl) rfl (by exact (di_seq (by exact (dp_rev (by exact (db_new (by exact (do_listB T.list (by exact (db_of (by exact (dp_var 1)))))))))))) (by exact (dg_name (i := 4) sc_l_law_m_at.nd rfl (Or.inl rfl))) (ss_one (ds_set 3 sc_l_law_m_at.nd rfl (Or.inl rfl) (by exact (dp_op rop_mod (by exact (dp_toInt T.int (by exact (dp_op rop_add (by exact (dp_op rop_mul (by exact (dp_var 3)) (by exact (dp_var 2)))) (by exact (dp_var 4)))))) (by exact (dp_var 0)))))))
    (ss_one (ds_ret (by exact (dp_var 3))))))⟩
abbrev st_l_law_m_slope : Stmt := top 40
abbrev N_l_law_m_slope : List Str := ["p", "a", "k", "item"]
theorem sc_l_law_m_slope : FnScope N_l_law_m_slope ["p", "a"] (defScope st_l_law_m_slope) := ⟨rfl, rfl, rfl, by decide +kernel, rfl, by decide +kernel, by decide +kernel⟩
def b_l_law_m_slope : SF := (sRet (eCallD 1 m_l_law_cut [] (aCons (eSlice (bNew (oComp [2, 3] (iEnE (eVar 1)) (gT [2, 3]) tYesF (eOp dMod (eUn dInt (eOp dMul (eVar 2) (eVar 3))) (eVar 0)))) (oSome (eC (.int 1))) oNone) aNil)))
def m_l_law_m_slope : FF := runB 4 b_l_law_m_slope
theorem ok_l_law_m_slope (T : Txt P K mg cl fl tb) (F_l_law_cut : ∀ g, Gk cl fl tb g → FDk P w K mg base g "_law_cut" 1 1 [] m_l_law_cut) {f : Addr} {fd : FuncData} (F : Fun K "_law_m_slope" "_law_m_slope" st_l_law_m_slope f fd) : ∀ g, Gk cl fl tb g → FnOk P w K mg base (L2.CX P w) 2 f fd ["p", "a"] (spD K g 2 m_l_law_m_slope) := fun g G =>
  fn_ok F sc_l_law_m_slope rfl fun cdv A outer s H E hr => ⟨_, (ss_one (ds_ret (by exact (dp_callF (F_l_law_cut g G) (hr.mono (by decide)) (takes_of rfl rfl rfl rfl) (by exact (da_cons (by exact (dp_slice (by exact (db_new (by exact (do_compU s H rfl sc_l_law_m_slope.nd (by exact (di_enumB T.enumerate (by exact (dp_var 1)))) (blkOk_by (own := [("k", 2), ("item", 3)]) (N := N_l_law_m_slope) (sc := defScope st_l_law_m_slope) (by decide +kernel)) (fun _ _ _ _ _ => (by exact (dg_tup rfl (dgs_cons (i := 2) sc_l_law_m_slope.nd rfl (Or.inl rfl) (dgs_cons (i := 3) sc_l_law_m_slope.nd rfl (Or.inl rfl) dgs_nil))))) (fun _ _ _ _ _ => dts_nil) (fun _ _ _ _ _ => (by exact (dp_op rop_mod (by exact (dp_toInt T.int (by exact (dp_op rop_mul (by exact (dp_var 2)) (by exact (dp_var 3)))))) (by exact (dp_var 0))))) (by decide))))) (do_some dp_int) do_none)) da_nil))))))⟩
abbrev st_l_law_curve : Stmt := top 41
abbrev N_l_law_curve : List Str := ["pen", "primes", "most", "p", "lap", "degree", "k", "f"]
theorem sc_l_law_curve : FnScope N_l_law_curve ["pen", "primes", "most"] (defScope st_l_law_curve) := ⟨rfl, rfl, rfl, by decide +kernel, rfl, by decide +kernel, by decide +kernel⟩
def b_l_law_curve : SF := (sSeq (sSet 3 (eCallD 2 m_l_law_pick [] (aCons (eVar 0) (aCons (eVar 1) aNil)))) (sSeq (sFor (iRange1 (eC (.int 40))) (gN 4) (sSeq (sSet 5 (eOp dAdd (eC (.int 1)) (eCallD 2 m_l_law_draw [] (aCons (eVar 0) (aCons (eVar 2) aNil))))) (sSeq (sSet 7 (eOp dAdd (eFrz (oComp [6] (iRange1 (eVar 5)) (gN 6) tYesF (eCallD 2 m_l_law_draw [] (aCons (eVar 0) (aCons (eVar 3) aNil))))) (eFrz (oLst (aCons (eOp dAdd (eC (.int 1)) (eCallD 2 m_l_law_draw [] (aCons (eVar 0) (aCons (eOp dSub (eVar 3) (eC (.int 1))) aNil)))) aNil))))) (sIf (tOf (eOp dEq (eB dLen (bOf (eCallD 3 m_l_law_m_common [] (aCons (eVar 3) (aCons (eVar 7) (aCons (eCallD 2 m_l_law_m_slope [] (aCons (eVar 3) (aCons (eVar 7) aNil))) aNil)))))) (eC (.int 1)))) (sRet (eTup (aCons (eVar 3) (aCons (eVar 7) aNil)))) sNil)))) (sRet (eTup (aCons (eVar 3) (aCons (eFrz (oLst (aCons (eC (.int 1)) (aCons (eC (.int 1)) aNil)))) aNil))))))
def m_l_law_curve : FF := runB 8 b_l_law_curve
theorem ok_l_law_curve (T : Txt P K mg cl fl tb) (F_l_law_draw : ∀ g, Gk cl fl tb g → FDk P w K mg base g "_law_draw" 1 2 [] m_l_law_draw) (F_l_law_pick : ∀ g, Gk cl fl tb g → FDk P w K mg base g "_law_pick" 2 2 [] m_l_law_pick) (F_l_law_m_common : ∀ g, Gk cl fl tb g → FDk P w K mg base g "_law_m_common" 3 3 [] m_l_law_m_common) (F_l_law_m_slope : ∀ g, Gk cl fl tb g → FDk P w K mg base g "_law_m_slope" 2 2 [] m_l_law_m_slope) {f : Addr} {fd : FuncData} (F : Fun K "_law_curve" "_law_curve" st_l_law_curve f fd) : ∀ g, Gk cl fl tb g → FnOk P w K mg base (L2.CX P w) 4 f fd ["pen", "primes", "most"] (spD K g 3 m_l_law_curve) := fun g G =>
  fn_ok F sc_l_law_curve rfl fun cdv A outer s H E hr => ⟨_, (ss_cons (ds_set 3 sc_l_law_curve.nd rfl (Or.inr rfl) (by exact (dp_callF (F_l_law_pick g G) (hr.mono (by decide)) (takes_of rfl rfl rfl rfl) (by exact (da_cons (by exact (dp_var 0)) (da_cons (by exact (dp_var 1)) da_nil))))))
    (ss_cons (ds_for (passes_of rfl) rfl (by exact (di_range1 T.range dp_int)) (by exact (dg_name (i := 4) sc_l_law_curve.nd rfl (Or.inl rfl))) (ss_cons (ds_set 5 sc_l_law_curve.nd rfl (Or.inl rfl) (by exact (dp_op rop_add dp_int (by exact (dp_callF (F_l_law_draw g G) (hr.mono (by decide)) (takes_of rfl rfl rfl rfl) (by exact (da_cons (by exact (dp_var 0)) (da_cons (by exact (dp_var 2)) da_nil))))))))
    (ss_cons (ds_set 7 sc_l_law_curve.nd rfl (Or.inl rfl) (by exact (dp_op rop_add (by exact (dp_frz (by exact (do_compU s H rfl sc_l_law_curve.nd (by exact (di_range1 T.range (by exact (dp_var 5)))) (blkOk_by (own := [("k", 6)]) (N := N_l_law_curve) (sc := defScope st_l_law_curve) (by decide +kernel)) (fun _ _ _ _ _ => (by exact (dg_name (i := 6) sc_l_law_curve.nd rfl (Or.inl rfl)))) (fun _ _ _ _ _ => dts_nil) (fun _ _ _ _ _ => (by exact (dp_callF (F_l_law_draw g G) (hr.mono (by decide)) LamX.takes0 (by exact (da_cons (by exact (dp_var 0)) (da_cons (by exact (dp_var 3)) da_nil)))))) (by decide))))) (by exact (dp_frz (by exact (do_lst (by exact (da_cons (by exact (dp_op rop_add dp_int (by exact (dp_callF (F_l_law_draw g G) (hr.mono (by decide)) (takes_of rfl rfl rfl rfl) (by exact (da_cons (by exact (dp_var 0)) (da_cons (by exact (dp_op rop_sub (by exact (dp_var 3)) dp_int)) da_nil))))))) da_nil)))))))))
    (ss_one (ds_if (by exact (dt_cmp (rop_eqD hr.units) (by exact (dp_lenB T.len (by exact (db_of (by exact (dp_callF (F_l_law_m_common g G) (hr.mono (by decide)) (takes_of rfl rfl rfl rfl) (by exact (da_cons (by exact (dp_var 3)) (da_cons (by exact (dp_var 7)) (da_cons (by exact (dp_callF (F_l_law_m_slope g G) (hr.mono (by decide)) (takes_of rfl rfl rfl rfl) (by exact (da_cons (by exact (dp_var 3)) (da_cons (by exact (dp_var 7)) da_nil))))) da_nil)))))))))) dp_int)) (ss_one (ds_ret (by exact (dp_tup (by exact (da_cons (by exact (dp_var 3)) (da_cons (by exact (dp_var 7)) da_nil))))))) ss_nil)))))
    (ss_one (ds_ret (by exact (dp_tup (by exact (da_cons (by exact (dp_var 3)) (da_cons (by exact (dp_frz (by exact (do_lst (by exact (da_cons dp_int (da_cons dp_int da_nil))))))) da_nil)))))))))⟩
abbrev st_l_law_complaint : Stmt := top 42
abbrev N_l_law_complaint : List Str := ["call", "e"]
theorem sc_l_law_complaint : FnScope N_l_law_complaint ["call"] (defScope st_l_law_complaint) := ⟨rfl, rfl, rfl, by decide +kernel, rfl, by decide +kernel, by decide +kernel⟩
def hds_l_law_complaint : List ExceptHandler := match defBody st_l_law_complaint with
  | [.Try _ hds _ _ _] => hds
  | _ => []
def xs_l_law_complaint : List HdD := [⟨2, (xTup (xCons (xStr "curve") (xCons (xFld 2) xNil)))⟩, ⟨1, (xTup (xCons (xStr "item") (xCons (xRepr (xFld 1)) xNil)))⟩]
theorem cc_l_law_complaint (T : Txt P K mg cl fl tb) {g : Gm} (G : Gk cl fl tb g) : CompC P w K mg base g "_law_complaint" st_l_law_complaint N_l_law_complaint hds_l_law_complaint xs_l_law_complaint :=
  ⟨[clA g 2 2 (some 1) (fun a cls d => (tTup (tCons (tC (.str "curve")) (tCons (tByX (g.cl 2) a cls d "why" (tVar 1)) tNil)))), clA g 2 1 (some 1) (fun a cls d => (tTup (tCons (tC (.str "item")) (tCons (tCB (rRepr K) (tCons (tByX (g.cl 1) a cls d "value" (tVar 1)) tNil)) tNil))))], fun A outer gA cdv s H hgd hr => (.as rfl rfl (names_bad (T.err_BadCurve G)) (dx_tup (dxs_cons dx_str (dxs_cons (dx_fldF (T.err_BadCurve G) rfl (by decide)) dxs_nil))) (.as rfl rfl (names_bad (T.err_BadItem G)) (dx_tup (dxs_cons dx_str (dxs_cons (dx_repr hgd (by have := hr.un; show A.units + 3 + 60 < cLine; omega) T.repr (dx_fldF (T.err_BadItem G) rfl (by decide))) dxs_nil))) .nil))⟩
abbrev st_l_law_why : Stmt := top 43
abbrev N_l_law_why : List Str := ["p", "f", "x"]
theorem sc_l_law_why : FnScope N_l_law_why ["p", "f"] (defScope st_l_law_why) := ⟨rfl, rfl, rfl, by decide +kernel, rfl, by decide +kernel, by decide +kernel⟩
def b_l_law_why : SF := (sSeq (sIf (tOrF (tNotF (tOf (eUn (isB "int") (eVar 0)))) (tOrF (tOf (eUn (isB "bool") (eVar 0))) (tOf (eEB (dIn true) (eVar 0) (bNew (oLst (aCons (eC (.int 3)) (aCons (eC (.int 5)) (aCons (eC (.int 7)) (aCons (eC (.int 11)) (aCons (eC (.int 13)) (aCons (eC (.int 17)) (aCons (eC (.int 19)) (aCons (eC (.int 23)) (aCons (eC (.int 29)) (aCons (eC (.int 31)) aNil)))))))))))))))) (sRet (eC (.str "prime"))) sNil) (sSeq (sIf (tOrF (tNotF (tOf (eUn (isB2 "list" "tuple") (eVar 1)))) (tOf (eOp dNe (eFrz (oComp [2] (iEB (eVar 1)) (gN 2) (tOrF (tNotF (tOf (eUn (isB "int") (eVar 2)))) (tOrF (tOf (eUn (isB "bool") (eVar 2))) (tNotF (tOf (eChain dLe dLt (eC (.int 0)) (eVar 2) (eVar 0)))))) (eVar 2))) (eFrz (oLst aNil))))) (sRet (eC (.str "row"))) sNil) (sSeq (sIf (tAndF (tOf (eOp dGt (eB dLen (bOf (eVar 1))) (eC (.int 0)))) (tOf (eOp dEq (eBE dIx (bOf (eVar 1)) (eUn dNeg (eC (.int 1)))) (eC (.int 0))))) (sRet (eC (.str "row"))) sNil) (sSeq (sIf (tNotF (tOf (eChain dLe dLe (eC (.int 2)) (eB dLen (bOf (eVar 1))) (eC (.int 9))))) (sRet (eC (.str "degree"))) sNil) (sRet (eIf (tOf (eOp dEq (eB dLen (bOf (eCallD 3 m_l_law_m_common [] (aCons (eVar 0) (aCons (eVar 1) (aCons (eCallD 2 m_l_law_m_slope [] (aCons (eVar 0) (aCons (eVar 1) aNil))) aNil)))))) (eC (.int 1)))) (eC .non) (eC (.str "double"))))))))
def m_l_law_why : FF := runB 3 b_l_law_why
theorem ok_l_law_why (T : Txt P K mg cl fl tb) (F_l_law_m_common : ∀ g, Gk cl fl tb g → FDk P w K mg base g "_law_m_common" 3 3 [] m_l_law_m_common) (F_l_law_m_slope : ∀ g, Gk cl fl tb g → FDk P w K mg base g "_law_m_slope" 2 2 [] m_l_law_m_slope) {f : Addr} {fd : FuncData} (F : Fun K "_law_why" "_law_why" st_l_law_why f fd) : ∀ g, Gk cl fl tb g → FnOk P w K mg base (L2.CX P w) 4 f fd ["p", "f"] (spD K g 2 m_l_law_why) := fun g G =>
  fn_ok F sc_l_law_why rfl fun cdv A outer s H E hr => ⟨_, (ss_cons (ds_if (by exact (DW.dt (by exact (dw_or (by exact (dt_not (by exact (dt_val (by exact (dp_isi T.isinstance T.int (by decide +kernel) (by exact (dp_var 0)))))))) (dw_or (by exact (dt_val (by exact (dp_isi T.isinstance T.bool (by decide +kernel) (by exact (dp_var 0)))))) (dw_or1 (by exact (dt_in true op_notIn_seq (by exact (dp_var 0)) (by exact (db_new (by exact (do_lst (by exact (da_cons dp_int (da_cons dp_int (da_cons dp_int (da_cons dp_int (da_cons dp_int (da_cons dp_int (da_cons dp_int (da_cons dp_int (da_cons dp_int (da_cons dp_int da_nil))))))))))))))))))))))) (ss_one (ds_ret dp_str)) ss_nil)
    (ss_cons (ds_if (by exact (DW.dt (by exact (dw_or (by exact (dt_not (by exact (dt_val (by exact (dp_isi2 T.isinstance T.list (by decide +kernel) T.tuple (by decide +kernel) (by exact (dp_var 1)))))))) (dw_or1 (by exact (dt_cmp (rop_neD hr.units) (by exact (dp_frz (by exact (do_compU s H rfl sc_l_law_why.nd (by exact (di_seq (by exact (dp_var 1)))) (blkOk_by (own := [("x", 2)]) (N := N_l_law_why) (sc := defScope st_l_law_why) (by decide +kernel)) (fun _ _ _ _ _ => (by exact (dg_name (i := 2) sc_l_law_why.nd rfl (Or.inl rfl)))) (fun _ _ _ _ _ => (dts_one (by exact (DW.dt (by exact (dw_or (by exact (dt_not (by exact (dt_val (by exact (dp_isi T.isinstance T.int (by decide +kernel) (by exact (dp_var 2)))))))) (dw_or (by exact (dt_val (by exact (dp_isi T.isinstance T.bool (by decide +kernel) (by exact (dp_var 2)))))) (dw_or1 (by exact (dt_not (by exact (dt_chain rop_le rop_lt dp_int (by exact (dp_var 2)) (by exact (dp_var 0)))))))))))))) (fun _ _ _ _ _ => (by exact (dp_var 2))) (by decide))))) (by exact (dp_frz (by exact (do_lst da_nil))))))))))) (ss_one (ds_ret dp_str)) ss_nil)
    (ss_cons (ds_if (by exact (DW.dt (by exact (dw_and (by exact (dt_cmp rop_gt (by exact (dp_lenB T.len (by exact (db_of (by exact (dp_var 1)))))) dp_int)) (dw_and1 (by exact (dt_cmp (rop_eqD hr.units) (by exact (dp_ixB (by exact (db_of (by exact (dp_var 1)))) (by exact (dp_neg dp_int)))) dp_int))))))) (ss_one (ds_ret dp_str)) ss_nil)
    (ss_cons (ds_if (by exact (dt_not (by exact (dt_chain rop_le rop_le dp_int (by exact (dp_lenB T.len (by exact (db_of (by exact (dp_var 1)))))) dp_int)))) (ss_one (ds_ret dp_str)) ss_nil)
    (ss_one (ds_ret (by exact (dp_if (by exact (dt_cmp (rop_eqD hr.units) (by exact (dp_lenB T.len (by exact (db_of (by exact (dp_callF (F_l_law_m_common g G) (hr.mono (by decide)) (takes_of rfl rfl rfl rfl) (by exact (da_cons (by exact (dp_var 0)) (da_cons (by exact (dp_var 1)) (da_cons (by exact (dp_callF (F_l_law_m_slope g G) (hr.mono (by decide)) (takes_of rfl rfl rfl rfl) (by exact (da_cons (by exact (dp_var 0)) (da_cons (by exact (dp_var 1)) da_nil))))) da_nil)))))))))) dp_int)) dp_non dp_str))))))))⟩
abbrev st_law : Stmt := top 44
abbrev N_law : List Str := ["script", "pen", "lap", "p", "f", "curve", "d", "x", "values", "due", "y", "squares", "u", "item", "k", "one", "row", "some", "n", "bad", "why", "nothing", "found"]
theorem sc_law : FnScope N_law ["script"] (defScope st_law) := ⟨rfl, rfl, rfl, by decide +kernel, rfl, by decide +kernel, by decide +kernel⟩
def b_law : SF := (sSeq (sFor (iRange1 (eC (.int 3))) (gN 2) (sSeq (sAsg (eCallD 3 m_l_law_curve [] (aCons (eVar 1) (aCons (eFrz (oLst (aCons (eC (.int 3)) (aCons (eC (.int 5)) (aCons (eC (.int 7)) (aCons (eC (.int 11)) (aCons (eC (.int 13)) aNil))))))) (aCons (eC (.int 8)) aNil)))) (gT [3, 4])) (sSeq (sPar2 5 6 (vVal (eCall 2 m_Curve___init (aCons (eVar 3) (aCons (eCallD 2 m_l_law_listed [] (aCons (eVar 1) (aCons (eVar 4) aNil))) aNil)))) (vVal (eOp dSub (eB dLen (bOf (eVar 4))) (eC (.int 1))))) (sSeq (sIf (tOrF (tOf (eOp dNe (eTup (aCons (eUn (fldD 0 0) (eVar 5)) (aCons (eUn (fldD 0 1) (eVar 5)) (aCons (eUn (fldD 0 2) (eVar 5)) (aCons (eUn (fldD 0 4) (eVar 5)) aNil))))) (eTup (aCons (eVar 3) (aCons (eB dTupOf (bOf (eVar 4))) (aCons (eVar 6) (aCons (eBE dIx (bOf (eVar 4)) (eUn dNeg (eC (.int 1)))) aNil))))))) (tOf (eOp dNe (eUn (fldD 0 3) (eVar 5)) (eOp dDiv (eOp dSub (eVar 6) (eC (.int 1))) (eC (.int 2)))))) (sRet (eC (.bl false))) sNil) (sSeq (sIf (tOrF (tOf (eNeO 0 m_Curve___eq (eVar 5) (eCall 2 m_Curve___init (aCons (eVar 3) (aCons (eB dTupOf (bOf (eVar 4))) aNil))))) (tOrF (tOf (eEqO 0 m_Curve___eq (eVar 5) (eVar 4))) (tOf (eOp dNe (eEqO 0 m_Curve___eq (eVar 5) (eCall 2 m_Curve___init (aCons (eVar 3) (aCons (eFrz (oLst (aCons (eC (.int 1)) (aCons (eC (.int 1)) aNil)))) aNil)))) (eOp dEq (eFrz (oB dListOf (bOf (eVar 4)))) (eFrz (oLst (aCons (eC (.int 1)) (aCons (eC (.int 1)) aNil))))))))) (sRet (eC (.bl false))) sNil) (sSeq (sSet 8 (eFrz (oComp [7] (iRange1 (eVar 3)) (gN 7) tYesF (eCallD 3 m_l_law_m_at [] (aCons (eVar 3) (aCons (eVar 4) (aCons (eVar 7) aNil))))))) (sSeq (sSet 9 (eFrz (oLst aNil))) (sSeq (sFor (iRange1 (eVar 3)) (gN 7) (sSet 9 (eOp dAdd (eVar 9) (eFrz (oComp [10] (iRange1 (eVar 3)) (gN 10) (tOf (eOp dEq (eOp dMod (eUn dInt (eOp dSub (eOp dMul (eVar 10) (eVar 10)) (eBE dIx (bOf (eVar 8)) (eVar 7)))) (eVar 3)) (eC (.int 0)))) (eTup (aCons (eVar 7) (aCons (eVar 10) aNil)))))))) (sSeq (sIf (tOrF (tOf (eOp dNe (eCallD 1 m_points [] (aCons (eVar 5) aNil)) (eB dTupOf (bOf (eVar 9))))) (tOf (eOp dNe (eCallD 1 m_line_values [] (aCons (eVar 5) aNil)) (eB dTupOf (bOf (eVar 8)))))) (sRet (eC (.bl false))) sNil) (sSeq (sSet 11 (eFrz (oComp [7] (iRange1 (eVar 3)) (gN 7) tYesF (eOp dMod (eUn dInt (eOp dMul (eVar 7) (eVar 7))) (eVar 3))))) (sSeq (sSet 12 (eBE dIx (bNew (oComp [12] (iRange2 (eC (.int 2)) (eVar 3)) (gN 12) (tOf (eEB (dIn true) (eVar 12) (bOf (eVar 11)))) (eVar 12))) (eC (.int 0)))) (sSeq (sIf (tOrF (tOf (eNeO 0 m_Curve___eq (eCallD 1 m_flipped [] (aCons (eVar 5) aNil)) (eCall 2 m_Curve___init (aCons (eVar 3) (aCons (eFrz (oComp [13] (iEB (eVar 4)) (gN 13) tYesF (eOp dMod (eUn dInt (eOp dMul (eVar 12) (eVar 13))) (eVar 3)))) aNil))))) (tOf (eOp dNe (eOp dAdd (eB dLen (bOf (eCallD 1 m_points [] (aCons (eCallD 1 m_flipped [] (aCons (eVar 5) aNil)) aNil)))) (eB dLen (bOf (eVar 9)))) (eOp dMul (eC (.int 2)) (eVar 3))))) (sRet (eC (.bl false))) sNil) (sSeq (sSet 15 (eOp dAdd (eFrz (oComp [14] (iRange1 (eOp dAdd (eC (.int 1)) (eCallD 2 m_l_law_draw [] (aCons (eVar 1) (aCons (eC (.int 3)) aNil))))) (gN 14) tYesF (eCallD 2 m_l_law_draw [] (aCons (eVar 1) (aCons (eVar 3) aNil))))) (eFrz (oLst (aCons (eC (.int 1)) aNil))))) (sSeq (sSet 16 (eCallD 3 m_l_law_m_times [] (aCons (eVar 3) (aCons (eCallD 3 m_l_law_m_times [] (aCons (eVar 3) (aCons (eVar 15) (aCons (eVar 15) aNil)))) (aCons (eVar 4) aNil))))) (sSeq (sSet 17 (eFrz (oLst (aCons (eTup (aCons (eVar 3) (aCons (eVar 16) aNil))) (aCons (eTup (aCons (eVar 3) (aCons (eC .non) aNil))) (aCons (eTup (aCons (eVar 3) (aCons (eC (.int 3)) aNil))) (aCons (eTup (aCons (eVar 3) (aCons (eFrz (oLst (aCons (eVar 3) aNil))) aNil))) (aCons (eTup (aCons (eVar 3) (aCons (eOp dAdd (eVar 4) (eFrz (oLst (aCons (eC (.int 0)) aNil)))) aNil))) (aCons (eTup (aCons (eVar 3) (aCons (eFrz (oLst (aCons (eC (.int 1)) aNil))) aNil))) (aCons (eTup (aCons (eVar 3) (aCons (eFrz (oLst aNil)) aNil))) (aCons (eTup (aCons (eC (.int 2)) (aCons (eVar 4) aNil))) (aCons (eTup (aCons (eC (.int 9)) (aCons (eVar 4) aNil))) (aCons (eTup (aCons (eC .non) (aCons (eC .non) aNil))) (aCons (eTup (aCons (eC (.bl true)) (aCons (eVar 4) aNil))) (aCons (eTup (aCons (eVar 3) (aCons (eOp dMul (eFrz (oLst (aCons (eC (.int 1)) aNil))) (eC (.int 10))) aNil))) (aCons (eTup (aCons (eVar 3) (aCons (eFrz (oLst (aCons (eUn dNeg (eC (.int 1))) (aCons (eC (.int 1)) aNil)))) aNil))) aNil)))))))))))))))) (sSeq (sAsg (eCallD 2 m_l_law_pick [] (aCons (eVar 1) (aCons (eVar 17) aNil))) (gT [18, 19])) (sSeq (sSet 20 (eCallD 2 m_l_law_why [] (aCons (eVar 18) (aCons (eVar 19) aNil)))) (sIf (tAndF (tOf (eOp dNotN (eVar 20) (eC .non))) (tOf (eOp dNe (eCompl "ok" ex_law xs_l_law_complaint (eCall 2 m_Curve___init (aCons (eVar 18) (aCons (eVar 19) aNil)))) (eTup (aCons (eC (.str "curve")) (aCons (eVar 20) aNil)))))) (sRet (eC (.bl false))) sNil)))))))))))))))))) (sSeq (sSet 21 (eCallD 2 m_l_law_pick [] (aCons (eVar 1) (aCons (eFrz (oLst (aCons (eC .non) (aCons (eC (.int 3)) (aCons (eTup (aCons (eC (.int 3)) (aCons (eTup (aCons (eC (.int 1)) (aCons (eC (.int 1)) aNil))) aNil))) aNil))))) aNil)))) (sSeq (sSetO 22 (oLst (aCons (eCompl "ok" ex_law xs_l_law_complaint (eCallD 1 m_points [] (aCons (eVar 21) aNil))) aNil))) (sSeq (sApp 22 (eCompl "ok" ex_law xs_l_law_complaint (eCallD 1 m_line_values [] (aCons (eVar 21) aNil)))) (sSeq (sApp 22 (eCompl "ok" ex_law xs_l_law_complaint (eCallD 1 m_flipped [] (aCons (eVar 21) aNil)))) (sFrz 22 (sRet (eOp dEq (eVar 22) (eOp dMul (eFrz (oLst (aCons (eTup (aCons (eC (.str "item")) (aCons (eUn dRepr (eVar 21)) aNil))) aNil))) (eC (.int 3)))))))))))
def lev_law : Nat := 9
theorem ds_law (T : Txt P K mg cl fl tb) (F_Curve___init : ∀ g, Gk cl fl tb g → MKk P w K mg base g "Curve" 5 0 2 m_Curve___init) (F_Curve___eq : ∀ g, Gk cl fl tb g → EQk P w K mg base g 1 0 m_Curve___eq) (F_points : ∀ g, Gk cl fl tb g → FDk P w K mg base g "points" 3 1 [] m_points) (F_line_values : ∀ g, Gk cl fl tb g → FDk P w K mg base g "line_values" 3 1 [] m_line_values) (F_flipped : ∀ g, Gk cl fl tb g → FDk P w K mg base g "flipped" 7 1 [] m_flipped) (F_l_law_draw : ∀ g, Gk cl fl tb g → FDk P w K mg base g "_law_draw" 1 2 [] m_l_law_draw) (F_l_law_pick : ∀ g, Gk cl fl tb g → FDk P w K mg base g "_law_pick" 2 2 [] m_l_law_pick) (F_l_law_listed : ∀ g, Gk cl fl tb g → FDk P w K mg base g "_law_listed" 2 2 [] m_l_law_listed) (F_l_law_m_times : ∀ g, Gk cl fl tb g → FDk P w K mg base g "_law_m_times" 3 3 [] m_l_law_m_times) (F_l_law_m_at : ∀ g, Gk cl fl tb g → FDk P w K mg base g "_law_m_at" 1 3 [] m_l_law_m_at) (F_l_law_curve : ∀ g, Gk cl fl tb g → FDk P w K mg base g "_law_curve" 4 3 [] m_l_law_curve) (F_l_law_why : ∀ g, Gk cl fl tb g → FDk P w K mg base g "_law_why" 4 2 [] m_l_law_why) (CP : CPk K mg "_law_complaint" "call" st_l_law_complaint) {c Pt f : Addr} (hTB : LamX.TabB base mg c Pt) (htb : tb = [(Pt, ("law.<locals>.<lambda>" : Str))]) {g : Gm} (G : Gk cl fl tb g) {A : Around} {outer : List Env} {s : Shared} {H : Hp} {E : XK} (hgd : A.guards = some [])
    (hr : Room 9 (A.deeper (envOfC "law" (defScope st_law) s.heap.objs.size f (.ref c)))) : ∃ t, DSs (cxOf (L2.CX P w) P w K mg base N_law "law" (defScope st_law) f (.ref c) A outer s H E) g (fun c d _ H => E c d H) ((defBody st_law).drop 1) t b_law :=
  ⟨_, (ss_cons (ds_for (passes_of rfl) rfl (by exact (di_range1 T.range dp_int)) (by exact (dg_name (i := 2) sc_law.nd rfl (Or.inl rfl))) (ss_cons (ds_asg (by exact (dp_callF (F_l_law_curve g G) (hr.mono (by decide)) (takes_of rfl rfl rfl rfl) (by exact (da_cons (by exact (dp_var 1)) (da_cons (by exact (dp_frz (by exact (do_lst (by exact (da_cons dp_int (da_cons dp_int (da_cons dp_int (da_cons dp_int (da_cons dp_int da_nil)))))))))) (da_cons dp_int da_nil)))))) (by exact (dg_tup rfl (dgs_cons (i := 3) sc_law.nd rfl (Or.inr rfl) (dgs_cons (i := 4) sc_law.nd rfl (Or.inr rfl) dgs_nil)))))
    (ss_cons (ds_par2 rfl sc_law.nd rfl rfl (by decide) rfl rfl (dv_val (by exact (dp_makeF (F_Curve___init g G) (hr.mono (by decide)) (takes_of rfl rfl rfl rfl) (by exact (da_cons (by exact (dp_var 3)) (da_cons (by exact (dp_callF (F_l_law_listed g G) (hr.mono (by decide)) (takes_of rfl rfl rfl rfl) (by exact (da_cons (by exact (dp_var 1)) (da_cons (by exact (dp_var 4)) da_nil))))) da_nil)))))) (dv_val (by exact (dp_op rop_sub (by exact (dp_lenB T.len (by exact (db_of (by exact (dp_var 4)))))) dp_int))) rfl rfl rfl)
    (ss_cons (ds_if (by exact (DW.dt (by exact (dw_or (by exact (dt_cmp (rop_neD hr.units) (by exact (dp_tup (by exact (da_cons (by exact (dp_fld 0 (T.cls_Curve G) rfl (by exact (dp_var 5)))) (da_cons (by exact (dp_fld 1 (T.cls_Curve G) rfl (by exact (dp_var 5)))) (da_cons (by exact (dp_fld 2 (T.cls_Curve G) rfl (by exact (dp_var 5)))) (da_cons (by exact (dp_fld 4 (T.cls_Curve G) rfl (by exact (dp_var 5)))) da_nil))))))) (by exact (dp_tup (by exact (da_cons (by exact (dp_var 3)) (da_cons (by exact (dp_tupleB T.tuple (by exact (db_of (by exact (dp_var 4)))))) (da_cons (by exact (dp_var 6)) (da_cons (by exact (dp_ixB (by exact (db_of (by exact (dp_var 4)))) (by exact (dp_neg dp_int)))) da_nil))))))))) (dw_or1 (by exact (dt_cmp (rop_neD hr.units) (by exact (dp_fld 3 (T.cls_Curve G) rfl (by exact (dp_var 5)))) (by exact (dp_op rop_div (by exact (dp_op rop_sub (by exact (dp_var 6)) dp_int)) dp_int))))))))) (ss_one (ds_ret dp_bl)) ss_nil)
    (ss_cons (ds_if (by exact (DW.dt (by exact (dw_or (by exact (dt_neF (F_Curve___eq g G) (hr.mono (by decide)) (by exact (dp_var 5)) (by exact (dp_makeF (F_Curve___init g G) (hr.mono (by decide)) (takes_of rfl rfl rfl rfl) (by exact (da_cons (by exact (dp_var 3)) (da_cons (by exact (dp_tupleB T.tuple (by exact (db_of (by exact (dp_var 4)))))) da_nil))))))) (dw_or (by exact (dt_eqF (F_Curve___eq g G) (hr.mono (by decide)) (by exact (dp_var 5)) (by exact (dp_var 4)))) (dw_or1 (by exact (dt_cmp (rop_neD hr.units) (by exact (dp_eqF (F_Curve___eq g G) (hr.mono (by decide)) (by exact (dp_var 5)) (by exact (dp_makeF (F_Curve___init g G) (hr.mono (by decide)) (takes_of rfl rfl rfl rfl) (by exact (da_cons (by exact (dp_var 3)) (da_cons (by exact (dp_frz (by exact (do_lst (by exact (da_cons dp_int (da_cons dp_int da_nil))))))) da_nil))))))) (by exact (dp_cmp (rop_eqD hr.units) (by exact (dp_frz (by exact (do_listB T.list (by exact (db_of (by exact (dp_var 4)))))))) (by exact (dp_frz (by exact (do_lst (by exact (da_cons dp_int (da_cons dp_int da_nil))))))))))))))))) (ss_one (ds_ret dp_bl)) ss_nil)
    (ss_cons (ds_set 8 sc_law.nd rfl (Or.inr rfl) (by exact (dp_frz (by exact (do_compU s H rfl sc_law.nd (by exact (di_range1 T.range (by exact (dp_var 3)))) (blkOk_by (own := [("x", 7)]) (N := N_law) (sc := defScope st_law) (by decide +kernel)) (fun _ _ _ _ _ => (by exact (dg_name (i := 7) sc_law.nd rfl (Or.inl rfl)))) (fun _ _ _ _ _ => dts_nil) (fun _ _ _ _ _ => (by exact (dp_callF (F_l_law_m_at g G) (hr.mono (by decide)) LamX.takes0 (by exact (da_cons (by exact (dp_var 3)) (da_cons (by exact (dp_var 4)) (da_cons (by exact (dp_var 7)) da_nil))))))) (by decide))))))
    (ss_cons (ds_set 9 sc_law.nd rfl (Or.inl rfl) (by exact (dp_frz (by exact (do_lst da_nil)))))
    (ss_cons (ds_for (passes_of rfl) rfl (by exact (di_range1 T.range (by exact (dp_var 3)))) (by exact (dg_name (i := 7) sc_law.nd rfl (Or.inr rfl))) (ss_one (ds_set 9 sc_law.nd rfl (Or.inl rfl) (by exact (dp_op rop_add (by exact (dp_var 9)) (by exact (dp_frz (by exact (do_compU s H rfl sc_law.nd (by exact (di_range1 T.range (by exact (dp_var 3)))) (blkOk_by (own := [("y", 10)]) (N := N_law) (sc := defScope st_law) (by decide +kernel)) (fun _ _ _ _ _ => (by exact (dg_name (i := 10) sc_law.nd rfl (Or.inl rfl)))) (fun _ _ _ _ _ => (dts_one (by exact (dt_cmp (rop_eqD hr.units) (by exact (dp_op rop_mod (by exact (dp_toInt T.int (by exact (dp_op rop_sub (by exact (dp_op rop_mul (by exact (dp_var 10)) (by exact (dp_var 10)))) (by exact (dp_ixB (by exact (db_of (by exact (dp_var 8)))) (by exact (dp_var 7)))))))) (by exact (dp_var 3)))) dp_int)))) (fun _ _ _ _ _ => (by exact (dp_tup (by exact (da_cons (by exact (dp_var 7)) (da_cons (by exact (dp_var 10)) da_nil)))))) (by decide))))))))))
    (ss_cons (ds_if (by exact (DW.dt (by exact (dw_or (by exact (dt_cmp (rop_neD hr.units) (by exact (dp_callF (F_points g G) (hr.mono (by decide)) (takes_of rfl rfl rfl rfl) (by exact (da_cons (by exact (dp_var 5)) da_nil)))) (by exact (dp_tupleB T.tuple (by exact (db_of (by exact (dp_var 9)))))))) (dw_or1 (by exact (dt_cmp (rop_neD hr.units) (by exact (dp_callF (F_line_values g G) (hr.mono (by decide)) (takes_of rfl rfl rfl rfl) (by exact (da_cons (by exact (dp_var 5)) da_nil)))) (by exact (dp_tupleB T.tuple (by exact (db_of (by exact (dp_var 8))))))))))))) (ss_one (ds_ret dp_bl)) ss_nil)
    (ss_cons (ds_set 11 sc_law.nd rfl (Or.inr rfl) (by exact (dp_frz (by exact (do_compU s H rfl sc_law.nd (by exact (di_range1 T.range (by exact (dp_var 3)))) (blkOk_by (own := [("x", 7)]) (N := N_law) (sc := defScope st_law) (by decide +kernel)) (fun _ _ _ _ _ => (by exact (dg_name (i := 7) sc_law.nd rfl (Or.inl rfl)))) (fun _ _ _ _ _ => dts_nil) (fun _ _ _ _ _ => (by exact (dp_op rop_mod (by exact (dp_toInt T.int (by exact (dp_op rop_mul (by exact (dp_var 7)) (by exact (dp_var 7)))))) (by exact (dp_var 3))))) (by decide))))))
    (ss_cons (ds_set 12 sc_law.nd rfl (Or.inr rfl) (by exact (dp_ixB (by exact (db_new (by exact (do_compU s H rfl sc_law.nd (by exact (di_range2 T.range dp_int (by exact (dp_var 3)))) (blkOk_by (own := [("u", 12)]) (N := N_law) (sc := defScope st_law) (by decide +kernel)) (fun _ _ _ _ _ => (by exact (dg_name (i := 12) sc_law.nd rfl (Or.inl rfl)))) (fun _ _ _ _ _ => (dts_one (by exact (dt_in true op_notIn_seq (by exact (dp_var 12)) (by exact (db_of (by exact (dp_var 11)))))))) (fun _ _ _ _ _ => (by exact (dp_var 12))) (by decide))))) dp_int)))
    (ss_cons (ds_if (by exact (DW.dt (by exact (dw_or (by exact (dt_neF (F_Curve___eq g G) (hr.mono (by decide)) (by exact (dp_callF (F_flipped g G) (hr.mono (by decide)) (takes_of rfl rfl rfl rfl) (by exact (da_cons (by exact (dp_var 5)) da_nil)))) (by exact (dp_makeF (F_Curve___init g G) (hr.mono (by decide)) (takes_of rfl rfl rfl rfl) (by exact (da_cons (by exact (dp_var 3)) (da_cons (by exact (dp_frz (by exact (do_compU s H rfl sc_law.nd (by exact (di_seq (by exact (dp_var 4)))) (blkOk_by (own := [("item", 13)]) (N := N_law) (sc := defScope st_law) (by decide +kernel)) (fun _ _ _ _ _ => (by exact (dg_name (i := 13) sc_law.nd rfl (Or.inl rfl)))) (fun _ _ _ _ _ => dts_nil) (fun _ _ _ _ _ => (by exact (dp_op rop_mod (by exact (dp_toInt T.int (by exact (dp_op rop_mul (by exact (dp_var 12)) (by exact (dp_var 13)))))) (by exact (dp_var 3))))) (by decide))))) da_nil))))))) (dw_or1 (by exact (dt_cmp (rop_neD hr.units) (by exact (dp_op rop_add (by exact (dp_lenB T.len (by exact (db_of (by exact (dp_callF (F_points g G) (hr.mono (by decide)) (takes_of rfl rfl rfl rfl) (by exact (da_cons (by exact (dp_callF (F_flipped g G) (hr.mono (by decide)) (takes_of rfl rfl rfl rfl) (by exact (da_cons (by exact (dp_var 5)) da_nil)))) da_nil)))))))) (by exact (dp_lenB T.len (by exact (db_of (by exact (dp_var 9)))))))) (by exact (dp_op rop_mul dp_int (by exact (dp_var 3))))))))))) (ss_one (ds_ret dp_bl)) ss_nil)
    (ss_cons (ds_set 15 sc_law.nd rfl (Or.inl rfl) (by exact (dp_op rop_add (by exact (dp_frz (by exact (do_compU s H rfl sc_law.nd (by exact (di_range1 T.range (by exact (dp_op rop_add dp_int (by exact (dp_callF (F_l_law_draw g G) (hr.mono (by decide)) (takes_of rfl rfl rfl rfl) (by exact (da_cons (by exact (dp_var 1)) (da_cons dp_int da_nil))))))))) (blkOk_by (own := [("k", 14)]) (N := N_law) (sc := defScope st_law) (by decide +kernel)) (fun _ _ _ _ _ => (by exact (dg_name (i := 14) sc_law.nd rfl (Or.inl rfl)))) (fun _ _ _ _ _ => dts_nil) (fun _ _ _ _ _ => (by exact (dp_callF (F_l_law_draw g G) (hr.mono (by decide)) LamX.takes0 (by exact (da_cons (by exact (dp_var 1)) (da_cons (by exact (dp_var 3)) da_nil)))))) (by decide))))) (by exact (dp_frz (by exact (do_lst (by exact (da_cons dp_int da_nil)))))))))
    (ss_cons (ds_set 16 sc_law.nd rfl (Or.inl rfl) (by exact (dp_callF (F_l_law_m_times g G) (hr.mono (by decide)) (takes_of rfl rfl rfl rfl) (by exact (da_cons (by exact (dp_var 3)) (da_cons (by exact (dp_callF (F_l_law_m_times g G) (hr.mono (by decide)) (takes_of rfl rfl rfl rfl) (by exact (da_cons (by exact (dp_var 3)) (da_cons (by exact (dp_var 15)) (da_cons (by exact (dp_var 15)) da_nil)))))) (da_cons (by exact (dp_var 4)) da_nil)))))))
    (ss_cons (ds_set 17 sc_law.nd rfl (Or.inl rfl) (by exact (dp_frz (by exact (do_lst (by exact (da_cons (by exact (dp_tup (by exact (da_cons (by exact (dp_var 3)) (da_cons (by exact (dp_var 16)) da_nil))))) (da_cons (by exact (dp_tup (by exact (da_cons (by exact (dp_var 3)) (da_cons dp_non da_nil))))) (da_cons (by exact (dp_tup (by exact (da_cons (by exact (dp_var 3)) (da_cons dp_int da_nil))))) (da_cons (by exact (dp_tup (by exact (da_cons (by exact (dp_var 3)) (da_cons (by exact (dp_frz (by exact (do_lst (by exact (da_cons (by exact (dp_var 3)) da_nil)))))) da_nil))))) (da_cons (by exact (dp_tup (by exact (da_cons (by exact (dp_var 3)) (da_cons (by exact (dp_op rop_add (by exact (dp_var 4)) (by exact (dp_frz (by exact (do_lst (by exact (da_cons dp_int da_nil)))))))) da_nil))))) (da_cons (by exact (dp_tup (by exact (da_cons (by exact (dp_var 3)) (da_cons (by exact (dp_frz (by exact (do_lst (by exact (da_cons dp_int da_nil)))))) da_nil))))) (da_cons (by exact (dp_tup (by exact (da_cons (by exact (dp_var 3)) (da_cons (by exact (dp_frz (by exact (do_lst da_nil)))) da_nil))))) (da_cons (by exact (dp_tup (by exact (da_cons dp_int (da_cons (by exact (dp_var 4)) da_nil))))) (da_cons (by exact (dp_tup (by exact (da_cons dp_int (da_cons (by exact (dp_var 4)) da_nil))))) (da_cons (by exact (dp_tup (by exact (da_cons dp_non (da_cons dp_non da_nil))))) (da_cons (by exact (dp_tup (by exact (da_cons dp_bl (da_cons (by exact (dp_var 4)) da_nil))))) (da_cons (by exact (dp_tup (by exact (da_cons (by exact (dp_var 3)) (da_cons (by exact (dp_op rop_mul (by exact (dp_frz (by exact (do_lst (by exact (da_cons dp_int da_nil)))))) dp_int)) da_nil))))) (da_cons (by exact (dp_tup (by exact (da_cons (by exact (dp_var 3)) (da_cons (by exact (dp_frz (by exact (do_lst (by exact (da_cons (by exact (dp_neg dp_int)) (da_cons dp_int da_nil))))))) da_nil))))) da_nil)))))))))))))))))))
    (ss_cons (ds_asg (by exact (dp_callF (F_l_law_pick g G) (hr.mono (by decide)) (takes_of rfl rfl rfl rfl) (by exact (da_cons (by exact (dp_var 1)) (da_cons (by exact (dp_var 17)) da_nil))))) (by exact (dg_tup rfl (dgs_cons (i := 18) sc_law.nd rfl (Or.inr rfl) (dgs_cons (i := 19) sc_law.nd rfl (Or.inr rfl) dgs_nil)))))
    (ss_cons (ds_set 20 sc_law.nd rfl (Or.inl rfl) (by exact (dp_callF (F_l_law_why g G) (hr.mono (by decide)) (takes_of rfl rfl rfl rfl) (by exact (da_cons (by exact (dp_var 18)) (da_cons (by exact (dp_var 19)) da_nil))))))
    (ss_one (ds_if (by exact (DW.dt (by exact (dw_and (by exact (dt_cmp rop_notN (by exact (dp_var 20)) dp_non)) (dw_and1 (by exact (dt_cmp (rop_neD hr.units) (by exact (dp_lamU 6 (ex := ex_law) CP (by exact cc_l_law_complaint T G) sc_l_law_complaint hgd rfl (T.exo.to G.1) hTB rfl (by rw [G.2.2, htb]; exact List.mem_singleton.mpr rfl) (by intro p hp _; rw [G.2.2, htb] at hp; rw [List.mem_singleton.mp hp]; rfl) (hr.mono (by decide)) (LamX.lamS_by rfl) (fun A outer s H E f c' hr => (by exact (dp_makeF (F_Curve___init g G) (hr.mono (by decide)) (takes_of rfl rfl rfl rfl) (by exact (da_cons (by exact (dp_var 18)) (da_cons (by exact (dp_var 19)) da_nil))))))).choose_spec) (by exact (dp_tup (by exact (da_cons dp_str (da_cons (by exact (dp_var 20)) da_nil)))))))))))) (ss_one (ds_ret dp_bl)) ss_nil)))))))))))))))))))
    (ss_cons (ds_set 21 sc_law.nd rfl (Or.inr rfl) (by exact (dp_callF (F_l_law_pick g G) (hr.mono (by decide)) (takes_of rfl rfl rfl rfl) (by exact (da_cons (by exact (dp_var 1)) (da_cons (by exact (dp_frz (by exact (do_lst (by exact (da_cons dp_non (da_cons dp_int (da_cons (by exact (dp_tup (by exact (da_cons dp_int (da_cons (by exact (dp_tup (by exact (da_cons dp_int (da_cons dp_int da_nil))))) da_nil))))) da_nil)))))))) da_nil))))))
    (ss_cons (ds_setO 22 sc_law.nd rfl (Or.inl rfl) (by exact (do_lst (by exact (da_cons (by exact (dp_lamU 3 (ex := ex_law) CP (by exact cc_l_law_complaint T G) sc_l_law_complaint hgd rfl (T.exo.to G.1) hTB rfl (by rw [G.2.2, htb]; exact List.mem_singleton.mpr rfl) (by intro p hp _; rw [G.2.2, htb] at hp; rw [List.mem_singleton.mp hp]; rfl) (hr.mono (by decide)) (LamX.lamS_by rfl) (fun A outer s H E f c' hr => (by exact (dp_callF (F_points g G) (hr.mono (by decide)) (takes_of rfl rfl rfl rfl) (by exact (da_cons (by exact (dp_var 21)) da_nil)))))).choose_spec) da_nil)))))
    (ss_cons (ds_app 22 (by exact (dp_lamU 3 (ex := ex_law) CP (by exact cc_l_law_complaint T G) sc_l_law_complaint hgd rfl (T.exo.to G.1) hTB rfl (by rw [G.2.2, htb]; exact List.mem_singleton.mpr rfl) (by intro p hp _; rw [G.2.2, htb] at hp; rw [List.mem_singleton.mp hp]; rfl) (hr.mono (by decide)) (LamX.lamS_by rfl) (fun A outer s H E f c' hr => (by exact (dp_callF (F_line_values g G) (hr.mono (by decide)) (takes_of rfl rfl rfl rfl) (by exact (da_cons (by exact (dp_var 21)) da_nil)))))).choose_spec))
    (ss_cons (ds_app 22 (by exact (dp_lamU 7 (ex := ex_law) CP (by exact cc_l_law_complaint T G) sc_l_law_complaint hgd rfl (T.exo.to G.1) hTB rfl (by rw [G.2.2, htb]; exact List.mem_singleton.mpr rfl) (by intro p hp _; rw [G.2.2, htb] at hp; rw [List.mem_singleton.mp hp]; rfl) (hr.mono (by decide)) (LamX.lamS_by rfl) (fun A outer s H E f c' hr => (by exact (dp_callF (F_flipped g G) (hr.mono (by decide)) (takes_of rfl rfl rfl rfl) (by exact (da_cons (by exact (dp_var 21)) da_nil)))))).choose_spec))
    (ss_one (ds_frz 22 (ds_ret (by exact (dp_cmp (rop_eqD hr.units) (by exact (dp_var 22)) (by exact (dp_op rop_mul (by exact (dp_frz (by exact (do_lst (by exact (da_cons (by exact (dp_tup (by exact (da_cons dp_str (da_cons (by exact (dp_repr hgd (hu_rep hr) T.repr (by exact (dp_var 21)))) da_nil))))) da_nil)))))) dp_int))))))))))))⟩
def dD_is_integer : He.DefD := ⟨(("is_integer" : Str), none), "is_integer", "is_integer", defArgs st_is_integer, defBody st_is_integer, defScope st_is_integer, [], []⟩
def dD_is_row : He.DefD := ⟨(("is_row" : Str), none), "is_row", "is_row", defArgs st_is_row, defBody st_is_row, defScope st_is_row, [], []⟩
def dD_is_mod_row : He.DefD := ⟨(("is_mod_row" : Str), none), "is_mod_row", "is_mod_row", defArgs st_is_mod_row, defBody st_is_mod_row, defScope st_is_mod_row, [.int 60], []⟩
def dD_trimmed : He.DefD := ⟨(("trimmed" : Str), none), "trimmed", "trimmed", defArgs st_trimmed, defBody st_trimmed, defScope st_trimmed, [], []⟩
def dD_inverse_of : He.DefD := ⟨(("inverse_of" : Str), none), "inverse_of", "inverse_of", defArgs st_inverse_of, defBody st_inverse_of, defScope st_inverse_of, [], []⟩
def dD_mod_parts : He.DefD := ⟨(("mod_parts" : Str), none), "mod_parts", "mod_parts", defArgs st_mod_parts, defBody st_mod_parts, defScope st_mod_parts, [], []⟩
def dD_mod_monic : He.DefD := ⟨(("mod_monic" : Str), none), "mod_monic", "mod_monic", defArgs st_mod_monic, defBody st_mod_monic, defScope st_mod_monic, [], []⟩
def dD_mod_shared : He.DefD := ⟨(("mod_shared" : Str), none), "mod_shared", "mod_shared", defArgs st_mod_shared, defBody st_mod_shared, defScope st_mod_shared, [], []⟩
def dD_mod_slope : He.DefD := ⟨(("mod_slope" : Str), none), "mod_slope", "mod_slope", defArgs st_mod_slope, defBody st_mod_slope, defScope st_mod_slope, [], []⟩
def dD_mod_value : He.DefD := ⟨(("mod_value" : Str), none), "mod_value", "mod_value", defArgs st_mod_value, defBody st_mod_value, defScope st_mod_value, [], []⟩
def dD_mod_scaled : He.DefD := ⟨(("mod_scaled" : Str), none), "mod_scaled", "mod_scaled", defArgs st_mod_scaled, defBody st_mod_scaled, defScope st_mod_scaled, [], []⟩
def dD_curve_breach : He.DefD := ⟨(("curve_breach" : Str), none), "curve_breach", "curve_breach", defArgs st_curve_breach, defBody st_curve_breach, defScope st_curve_breach, [], []⟩
def dD_Curve___init : He.DefD := ⟨(("Curve" : Str), some ("__init__" : Str)), "__init__", "Curve.__init__", defArgs st_Curve___init, defBody st_Curve___init, defScope st_Curve___init, [], []⟩
def dD_Curve___eq : He.DefD := ⟨(("Curve" : Str), some ("__eq__" : Str)), "__eq__", "Curve.__eq__", defArgs st_Curve___eq, defBody st_Curve___eq, defScope st_Curve___eq, [], []⟩
def dD_need_curve : He.DefD := ⟨(("need_curve" : Str), none), "need_curve", "need_curve", defArgs st_need_curve, defBody st_need_curve, defScope st_need_curve, [], []⟩
def dD_square_roots : He.DefD := ⟨(("square_roots" : Str), none), "square_roots", "square_roots", defArgs st_square_roots, defBody st_square_roots, defScope st_square_roots, [], []⟩
def dD_line_of : He.DefD := ⟨(("line_of" : Str), none), "line_of", "line_of", defArgs st_line_of, defBody st_line_of, defScope st_line_of, [], []⟩
def dD_points : He.DefD := ⟨(("points" : Str), none), "points", "points", defArgs st_points, defBody st_points, defScope st_points, [], []⟩
def dD_line_values : He.DefD := ⟨(("line_values" : Str), none), "line_values", "line_values", defArgs st_line_values, defBody st_line_values, defScope st_line_values, [], []⟩
def dD_least_no_square : He.DefD := ⟨(("least_no_square" : Str), none), "least_no_square", "least_no_square", defArgs st_least_no_square, defBody st_least_no_square, defScope st_least_no_square, [], []⟩
def dD_flipped : He.DefD := ⟨(("flipped" : Str), none), "flipped", "flipped", defArgs st_flipped, defBody st_flipped, defScope st_flipped, [], []⟩
def dD_l_law_pen : He.DefD := ⟨(("_law_pen" : Str), none), "_law_pen", "_law_pen", defArgs st_l_law_pen, defBody st_l_law_pen, defScope st_l_law_pen, [], []⟩
def dD_l_law_draw : He.DefD := ⟨(("_law_draw" : Str), none), "_law_draw", "_law_draw", defArgs st_l_law_draw, defBody st_l_law_draw, defScope st_l_law_draw, [], []⟩
def dD_l_law_pick : He.DefD := ⟨(("_law_pick" : Str), none), "_law_pick", "_law_pick", defArgs st_l_law_pick, defBody st_l_law_pick, defScope st_l_law_pick, [], []⟩
def dD_l_law_listed : He.DefD := ⟨(("_law_listed" : Str), none), "_law_listed", "_law_listed", defArgs st_l_law_listed, defBody st_l_law_listed, defScope st_l_law_listed, [], []⟩
def dD_l_law_cut : He.DefD := ⟨(("_law_cut" : Str), none), "_law_cut", "_law_cut", defArgs st_l_law_cut, defBody st_l_law_cut, defScope st_l_law_cut, [], []⟩
def dD_l_law_w_times : He.DefD := ⟨(("_law_w_times" : Str), none), "_law_w_times", "_law_w_times", defArgs st_l_law_w_times, defBody st_l_law_w_times, defScope st_l_law_w_times, [], []⟩
def dD_l_law_m_times : He.DefD := ⟨(("_law_m_times" : Str), none), "_law_m_times", "_law_m_times", defArgs st_l_law_m_times, defBody st_l_law_m_times, defScope st_l_law_m_times, [], []⟩
def dD_l_law_m_rest : He.DefD := ⟨(("_law_m_rest" : Str), none), "_law_m_rest", "_law_m_rest", defArgs st_l_law_m_rest, defBody st_l_law_m_rest, defScope st_l_law_m_rest, [], []⟩
def dD_l_law_m_common : He.DefD := ⟨(("_law_m_common" : Str), none), "_law_m_common", "_law_m_common", defArgs st_l_law_m_common, defBody st_l_law_m_common, defScope st_l_law_m_common, [], []⟩
def dD_l_law_m_at : He.DefD := ⟨(("_law_m_at" : Str), none), "_law_m_at", "_law_m_at", defArgs st_l_law_m_at, defBody st_l_law_m_at, defScope st_l_law_m_at, [], []⟩
def dD_l_law_m_slope : He.DefD := ⟨(("_law_m_slope" : Str), none), "_law_m_slope", "_law_m_slope", defArgs st_l_law_m_slope, defBody st_l_law_m_slope, defScope st_l_law_m_slope, [], []⟩
def dD_l_law_curve : He.DefD := ⟨(("_law_curve" : Str), none), "_law_curve", "_law_curve", defArgs st_l_law_curve, defBody st_l_law_curve, defScope st_l_law_curve, [], []⟩
def dD_l_law_complaint : He.DefD := ⟨(("_law_complaint" : Str), none), "_law_complaint", "_law_complaint", defArgs st_l_law_complaint, defBody st_l_law_complaint, defScope st_l_law_complaint, [], []⟩
def dD_l_law_why : He.DefD := ⟨(("_law_why" : Str), none), "_law_why", "_law_why", defArgs st_l_law_why, defBody st_l_law_why, defScope st_l_law_why, [], []⟩
def dD_law : He.DefD := ⟨(("law" : Str), none), "law", "law", defArgs st_law, defBody st_law, defScope st_law, [], []⟩
abbrev st_BadItem_init : Stmt := inClass (top 2) 0
def dZ_BadItem : ZD := ⟨(("BadItem" : Str), some ("__init__" : Str)), "BadItem.__init__", defArgs st_BadItem_init, defBody st_BadItem_init, defScope st_BadItem_init⟩
abbrev st_BadCurve_init : Stmt := inClass (top 3) 0
def dZ_BadCurve : ZD := ⟨(("BadCurve" : Str), some ("__init__" : Str)), "BadCurve.__init__", defArgs st_BadCurve_init, defBody st_BadCurve_init, defScope st_BadCurve_init⟩
def hFn : List He.DefD := [dD_is_integer, dD_is_row, dD_is_mod_row, dD_trimmed, dD_inverse_of, dD_mod_parts, dD_mod_monic, dD_mod_shared, dD_mod_slope, dD_mod_value, dD_mod_scaled, dD_curve_breach, dD_Curve___init, dD_Curve___eq, dD_need_curve, dD_square_roots, dD_line_of, dD_points, dD_line_values, dD_least_no_square, dD_flipped, dD_l_law_pen, dD_l_law_draw, dD_l_law_pick, dD_l_law_listed, dD_l_law_cut, dD_l_law_w_times, dD_l_law_m_times, dD_l_law_m_rest, dD_l_law_m_common, dD_l_law_m_at, dD_l_law_m_slope, dD_l_law_curve, dD_l_law_complaint, dD_l_law_why, dD_law]
def hFz : List ZD := [dZ_BadItem, dZ_BadCurve]
def hFa : List He.Fa := [.glo "is_integer", .glo "is_row", .glo "is_mod_row", .glo "trimmed", .glo "inverse_of", .glo "mod_parts", .glo "mod_monic", .glo "mod_shared", .glo "mod_slope", .glo "mod_value", .glo "mod_scaled", .glo "curve_breach", .glo "need_curve", .glo "square_roots", .glo "line_of", .glo "points", .glo "line_values", .glo "least_no_square", .glo "flipped", .glo "_law_pen", .glo "_law_draw", .glo "_law_pick", .glo "_law_listed", .glo "_law_cut", .glo "_law_w_times", .glo "_law_m_times", .glo "_law_m_rest", .glo "_law_m_common", .glo "_law_m_at", .glo "_law_m_slope", .glo "_law_curve", .glo "_law_complaint", .glo "_law_why", .glo "law", .glo "Curve", .glo "BadItem", .glo "BadCurve", .free "len", .free "list", .free "tuple", .free "int", .free "bool", .free "range", .free "enumerate", .free "isinstance", .free "max", .free "all", .free "repr", .free "super", .glo "PRIMES", .int "MOST_DEGREE" 8]
def clA (K : PySem.W.Frag) : Nat → Addr
  | 0 => He.ga K "Curve"
  | 1 => He.ga K "BadItem"
  | 2 => He.ga K "BadCurve"
  | _ => 0
def flA : Nat → List Str
  | 0 => ns_Curve
  | 1 => ["value"]
  | 2 => ["why"]
  | _ => []
abbrev PW : Program := PySem.Challenge.pw_zeropoles_k06_whole_curves
def hEx (K : PySem.W.Frag) : Bool := clsGB K (He.ga K "Curve") ns_Curve && (isiB K (clA K) 0 os_Curve && (mkB K (He.ga K "Curve") (He.ma K (He.ga K "Curve") "__init__") && (objB K (He.ga K "Curve") && (eqB K (He.ga K "Curve") (He.ma K (He.ga K "Curve") "__eq__") && (badB K (He.ga K "BadItem") (He.fAd K dZ_BadItem.at_) "value" PW.main.file && (badB K (He.ga K "BadCurve") (He.fAd K dZ_BadCurve.at_) "why" PW.main.file && (He.tupB K "PRIMES" (([3, 5, 7, 11, 13, 17, 19, 23, 29, 31] : List Int).map He.Dv.int) && (exB K (clA K) ex_law 3))))))))
abbrev lawD : Str × Option Str := (("law" : Str), none)
variable {h : Heap}
theorem hex_all {K : PySem.W.Frag} (h : hEx K = true) : (clsGB K (He.ga K "Curve") ns_Curve) = true ∧ (isiB K (clA K) 0 os_Curve) = true ∧ (mkB K (He.ga K "Curve") (He.ma K (He.ga K "Curve") "__init__")) = true ∧ (objB K (He.ga K "Curve")) = true ∧ (eqB K (He.ga K "Curve") (He.ma K (He.ga K "Curve") "__eq__")) = true ∧ (badB K (He.ga K "BadItem") (He.fAd K dZ_BadItem.at_) "value" PW.main.file) = true ∧ (badB K (He.ga K "BadCurve") (He.fAd K dZ_BadCurve.at_) "why" PW.main.file) = true ∧ (He.tupB K "PRIMES" (([3, 5, 7, 11, 13, 17, 19, 23, 29, 31] : List Int).map He.Dv.int)) = true ∧ (exB K (clA K) ex_law 3) = true := by
  unfold hEx at h
  simp only [Bool.and_eq_true] at h
  exact h
abbrev Seen (h : Heap) (K : PySem.W.Frag) : Prop := SaysZ hFa hFn hFz [lawD] hEx h K
theorem txt (KX : K.In h) (G : h.Ns mainGlobals mg) (c : Seen h K) : Txt PW K mg (clA K) flA [((He.cT K lawD).2, ("law.<locals>.<lambda>" : Str))] :=
  have x := hex_all c.more
  { len := He.free_ok KX G (c.d.fact 37 (f := .free "len") rfl),
    list := He.free_ok KX G (c.d.fact 38 (f := .free "list") rfl),
    tuple := He.free_ok KX G (c.d.fact 39 (f := .free "tuple") rfl),
    int := He.free_ok KX G (c.d.fact 40 (f := .free "int") rfl),
    bool := He.free_ok KX G (c.d.fact 41 (f := .free "bool") rfl),
    range := He.free_ok KX G (c.d.fact 42 (f := .free "range") rfl),
    enumerate := He.free_ok KX G (c.d.fact 43 (f := .free "enumerate") rfl),
    isinstance := He.free_ok KX G (c.d.fact 44 (f := .free "isinstance") rfl),
    max := He.free_ok KX G (c.d.fact 45 (f := .free "max") rfl),
    all := He.free_ok KX G (c.d.fact 46 (f := .free "all") rfl),
    repr := He.free_ok KX G (c.d.fact 47 (f := .free "repr") rfl),
    con_PRIMES := con_tup (He.glo_ok KX G (c.d.fact 49 (f := .glo "PRIMES") rfl)) (x.2.2.2.2.2.2.2.1),
    con_MOST_DEGREE := con_int KX G (c.d.fact 50 (f := .int "MOST_DEGREE" 8) rfl),
    cls0 := clsGB_ok (c := 0) (x.1) rfl (by decide) (by decide),
    isi0 := isiB_ok (c := 0) (x.2.1),
    gC := (He.glo_ok KX G (c.d.fact 34 (f := .glo "Curve") rfl)),
    er1 := ⟨_, ⟨bad_ok (d := dZ_BadItem) (x.2.2.2.2.2.1) (c.bad 0) (He.free_ok KX G (c.d.fact 48 (f := .free "super") rfl)) rfl ⟨_, _, rfl⟩ ⟨_, _, _, _, _, _, _, _, _, _, rfl, rfl⟩ rfl, (He.glo_ok KX G (c.d.fact 35 (f := .glo "BadItem") rfl)), rfl, PySem.BadX.bind_value, by decide⟩⟩,
    er2 := ⟨_, ⟨bad_ok (d := dZ_BadCurve) (x.2.2.2.2.2.2.1) (c.bad 1) (He.free_ok KX G (c.d.fact 48 (f := .free "super") rfl)) rfl ⟨_, _, rfl⟩ ⟨_, _, _, _, _, _, _, _, _, _, rfl, rfl⟩ rfl, (He.glo_ok KX G (c.d.fact 36 (f := .glo "BadCurve") rfl)), rfl, PySem.BadX.bind_why, by decide⟩⟩,
    exo := exB_ok (n := 3) (x.2.2.2.2.2.2.2.2) (by intro a b d; unfold ex_law; intro z; split at z <;> rename_i y <;> first | (cases z; done) | (simp only [Bool.and_eq_true, Bool.or_eq_true, beq_iff_eq] at y; omega)) }
theorem law_at {w : World} {K : PySem.W.Frag} {mg : Str → Option Value} {fa : Addr} {h : Heap} (KX : K.In h) (G : h.Ns mainGlobals mg) (hfa : mg "law" = some (.ref fa)) (c : Seen h K)
    (math : ∀ ns : List Int, ns.length ≤ 63 → (∀ z ∈ ns, Builtin.Int.intBits z ≤ 1048576) → ∃ s', b_law (.no :: .val .pen :: List.replicate 21 .no) (penOf ns) = .ret (.bl true) s') : LawAtG PySem.Challenge.rw_zeropoles_k06_whole_curves w K 63 mg fa h := by
  have T := txt KX G c
  have x := hex_all c.more
  have hf0 := hfa.symm.trans (He.glo_ok KX G (c.d.fact 33 (f := .glo "law") rfl))
  refine ⟨[He.cT K lawD], fun p hp => ?_, fun p hp => ?_, fun p hp => ?_, fun base H a ns s hl hbits i1 i2 i3 i4 i5 e0 => ?_⟩
  · obtain rfl := List.mem_singleton.mp hp; exact c.empty lawD List.mem_cons_self
  · obtain rfl := List.mem_singleton.mp hp; exact c.out lawD List.mem_cons_self
  · obtain rfl := List.mem_singleton.mp hp; exact PySem.W.codeHd_of_K KX (c.hd lawD List.mem_cons_self)
  obtain ⟨fd_is_integer, D_is_integer⟩ := c.d.def_ 0 (d := dD_is_integer) rfl
  have B_is_integer := D_is_integer.bindsN (ps := ["value"]) fun _ _ _ _ _ _ us hl => match us, hl with | [_], _ => rfl
  have F_is_integer : ∀ g, Gk (clA K) flA [((He.cT K lawD).2, ("law.<locals>.<lambda>" : Str))] g → FDk PW w K mg base g "is_integer" 1 1 [] m_is_integer := fun g G' => fdk_of (He.glo_ok KX G (c.d.fact 0 (f := .glo "is_integer") rfl)) D_is_integer.kp B_is_integer (ok_is_integer (w := w) (base := base) T  (fun_of D_is_integer) g G')
  obtain ⟨fd_is_row, D_is_row⟩ := c.d.def_ 1 (d := dD_is_row) rfl
  have B_is_row := D_is_row.bindsN (ps := ["value"]) fun _ _ _ _ _ _ us hl => match us, hl with | [_], _ => rfl
  have F_is_row : ∀ g, Gk (clA K) flA [((He.cT K lawD).2, ("law.<locals>.<lambda>" : Str))] g → FDk PW w K mg base g "is_row" 1 1 [] m_is_row := fun g G' => fdk_of (He.glo_ok KX G (c.d.fact 1 (f := .glo "is_row") rfl)) D_is_row.kp B_is_row (ok_is_row (w := w) (base := base) T  (fun_of D_is_row) g G')
  obtain ⟨fd_is_mod_row, D_is_mod_row⟩ := c.d.def_ 2 (d := dD_is_mod_row) rfl
  have F_is_mod_row : ∀ g, Gk (clA K) flA [((He.cT K lawD).2, ("law.<locals>.<lambda>" : Str))] g → FDk PW w K mg base g "is_mod_row" 2 3 [.int 60] m_is_mod_row := fun g G' => fdk_dfl (He.glo_ok KX G (c.d.fact 2 (f := .glo "is_mod_row") rfl)) D_is_mod_row.kp (D_is_mod_row.binds1 (ps := ["p", "value", "most"]) 2 0 (by intro z; cases z) rfl fun T kV doc pm an cdv ct us its h1 h2 => match us, its, h1, h2 with | [_, _], [_], _, _ => ⟨_, rfl, rfl⟩) (fun G => Reps.cons (.int _) Reps.nil) (ok_is_mod_row (w := w) (base := base) T F_is_integer F_is_row D_is_mod_row g G')
  obtain ⟨fd_trimmed, D_trimmed⟩ := c.d.def_ 3 (d := dD_trimmed) rfl
  have B_trimmed := D_trimmed.bindsN (ps := ["row"]) fun _ _ _ _ _ _ us hl => match us, hl with | [_], _ => rfl
  have F_trimmed : ∀ g, Gk (clA K) flA [((He.cT K lawD).2, ("law.<locals>.<lambda>" : Str))] g → FDk PW w K mg base g "trimmed" 1 1 [] m_trimmed := fun g G' => fdk_of (He.glo_ok KX G (c.d.fact 3 (f := .glo "trimmed") rfl)) D_trimmed.kp B_trimmed (ok_trimmed (w := w) (base := base) T  (fun_of D_trimmed) g G')
  obtain ⟨fd_inverse_of, D_inverse_of⟩ := c.d.def_ 4 (d := dD_inverse_of) rfl
  have B_inverse_of := D_inverse_of.bindsN (ps := ["p", "a"]) fun _ _ _ _ _ _ us hl => match us, hl with | [_, _], _ => rfl
  have F_inverse_of : ∀ g, Gk (clA K) flA [((He.cT K lawD).2, ("law.<locals>.<lambda>" : Str))] g → FDk PW w K mg base g "inverse_of" 1 2 [] m_inverse_of := fun g G' => fdk_of (He.glo_ok KX G (c.d.fact 4 (f := .glo "inverse_of") rfl)) D_inverse_of.kp B_inverse_of (ok_inverse_of (w := w) (base := base) T  (fun_of D_inverse_of) g G')
  obtain ⟨fd_mod_parts, D_mod_parts⟩ := c.d.def_ 5 (d := dD_mod_parts) rfl
  have B_mod_parts := D_mod_parts.bindsN (ps := ["p", "a", "b"]) fun _ _ _ _ _ _ us hl => match us, hl with | [_, _, _], _ => rfl
  have F_mod_parts : ∀ g, Gk (clA K) flA [((He.cT K lawD).2, ("law.<locals>.<lambda>" : Str))] g → FDk PW w K mg base g "mod_parts" 2 3 [] m_mod_parts := fun g G' => fdk_of (He.glo_ok KX G (c.d.fact 5 (f := .glo "mod_parts") rfl)) D_mod_parts.kp B_mod_parts (ok_mod_parts (w := w) (base := base) T F_trimmed F_inverse_of (fun_of D_mod_parts) g G')
  obtain ⟨fd_mod_monic, D_mod_monic⟩ := c.d.def_ 6 (d := dD_mod_monic) rfl
  have B_mod_monic := D_mod_monic.bindsN (ps := ["p", "a"]) fun _ _ _ _ _ _ us hl => match us, hl with | [_, _], _ => rfl
  have F_mod_monic : ∀ g, Gk (clA K) flA [((He.cT K lawD).2, ("law.<locals>.<lambda>" : Str))] g → FDk PW w K mg base g "mod_monic" 2 2 [] m_mod_monic := fun g G' => fdk_of (He.glo_ok KX G (c.d.fact 6 (f := .glo "mod_monic") rfl)) D_mod_monic.kp B_mod_monic (ok_mod_monic (w := w) (base := base) T F_inverse_of (fun_of D_mod_monic) g G')
  obtain ⟨fd_mod_shared, D_mod_shared⟩ := c.d.def_ 7 (d := dD_mod_shared) rfl
  have B_mod_shared := D_mod_shared.bindsN (ps := ["p", "a", "b"]) fun _ _ _ _ _ _ us hl => match us, hl with | [_, _, _], _ => rfl
  have F_mod_shared : ∀ g, Gk (clA K) flA [((He.cT K lawD).2, ("law.<locals>.<lambda>" : Str))] g → FDk PW w K mg base g "mod_shared" 3 3 [] m_mod_shared := fun g G' => fdk_of (He.glo_ok KX G (c.d.fact 7 (f := .glo "mod_shared") rfl)) D_mod_shared.kp B_mod_shared (ok_mod_shared (w := w) (base := base) T F_mod_parts F_mod_monic (fun_of D_mod_shared) g G')
  obtain ⟨fd_mod_slope, D_mod_slope⟩ := c.d.def_ 8 (d := dD_mod_slope) rfl
  have B_mod_slope := D_mod_slope.bindsN (ps := ["p", "a"]) fun _ _ _ _ _ _ us hl => match us, hl with | [_, _], _ => rfl
  have F_mod_slope : ∀ g, Gk (clA K) flA [((He.cT K lawD).2, ("law.<locals>.<lambda>" : Str))] g → FDk PW w K mg base g "mod_slope" 2 2 [] m_mod_slope := fun g G' => fdk_of (He.glo_ok KX G (c.d.fact 8 (f := .glo "mod_slope") rfl)) D_mod_slope.kp B_mod_slope (ok_mod_slope (w := w) (base := base) T F_trimmed (fun_of D_mod_slope) g G')
  obtain ⟨fd_mod_value, D_mod_value⟩ := c.d.def_ 9 (d := dD_mod_value) rfl
  have B_mod_value := D_mod_value.bindsN (ps := ["p", "a", "x"]) fun _ _ _ _ _ _ us hl => match us, hl with | [_, _, _], _ => rfl
  have F_mod_value : ∀ g, Gk (clA K) flA [((He.cT K lawD).2, ("law.<locals>.<lambda>" : Str))] g → FDk PW w K mg base g "mod_value" 1 3 [] m_mod_value := fun g G' => fdk_of (He.glo_ok KX G (c.d.fact 9 (f := .glo "mod_value") rfl)) D_mod_value.kp B_mod_value (ok_mod_value (w := w) (base := base) T  (fun_of D_mod_value) g G')
  obtain ⟨fd_mod_scaled, D_mod_scaled⟩ := c.d.def_ 10 (d := dD_mod_scaled) rfl
  have B_mod_scaled := D_mod_scaled.bindsN (ps := ["p", "a", "times"]) fun _ _ _ _ _ _ us hl => match us, hl with | [_, _, _], _ => rfl
  have F_mod_scaled : ∀ g, Gk (clA K) flA [((He.cT K lawD).2, ("law.<locals>.<lambda>" : Str))] g → FDk PW w K mg base g "mod_scaled" 2 3 [] m_mod_scaled := fun g G' => fdk_of (He.glo_ok KX G (c.d.fact 10 (f := .glo "mod_scaled") rfl)) D_mod_scaled.kp B_mod_scaled (ok_mod_scaled (w := w) (base := base) T F_trimmed (fun_of D_mod_scaled) g G')
  obtain ⟨fd_curve_breach, D_curve_breach⟩ := c.d.def_ 11 (d := dD_curve_breach) rfl
  have B_curve_breach := D_curve_breach.bindsN (ps := ["p", "f"]) fun _ _ _ _ _ _ us hl => match us, hl with | [_, _], _ => rfl
  have F_curve_breach : ∀ g, Gk (clA K) flA [((He.cT K lawD).2, ("law.<locals>.<lambda>" : Str))] g → FDk PW w K mg base g "curve_breach" 4 2 [] m_curve_breach := fun g G' => fdk_of (He.glo_ok KX G (c.d.fact 11 (f := .glo "curve_breach") rfl)) D_curve_breach.kp B_curve_breach (ok_curve_breach (w := w) (base := base) T F_is_integer F_is_mod_row F_mod_shared F_mod_slope (fun_of D_curve_breach) g G')
  obtain ⟨fd_Curve___init, D_Curve___init⟩ := c.d.def_ 12 (d := dD_Curve___init) rfl
  have B_Curve___init := D_Curve___init.bindsN (ps := ["self", "p", "f"]) fun _ _ _ _ _ _ us hl => match us, hl with | [_, _, _], _ => rfl
  have F_Curve___init : ∀ g, Gk (clA K) flA [((He.cT K lawD).2, ("law.<locals>.<lambda>" : Str))] g → MKk PW w K mg base g "Curve" 5 0 2 m_Curve___init := fun g G' => mkk_of (mkB_ok (by rw [G'.1]; exact x.2.2.1)) (by rw [G'.1]; exact (He.glo_ok KX G (c.d.fact 34 (f := .glo "Curve") rfl))) B_Curve___init (ok_Curve___init (w := w) (base := base) T F_curve_breach (fun_of D_Curve___init) g G')
  obtain ⟨fd_Curve___eq, D_Curve___eq⟩ := c.d.def_ 13 (d := dD_Curve___eq) rfl
  have B_Curve___eq := D_Curve___eq.bindsN (ps := ["self", "other"]) fun _ _ _ _ _ _ us hl => match us, hl with | [_, _], _ => rfl
  have F_Curve___eq : ∀ g, Gk (clA K) flA [((He.cT K lawD).2, ("law.<locals>.<lambda>" : Str))] g → EQk PW w K mg base g 1 0 m_Curve___eq := fun g G' => eqk_of (objB_ok (by rw [G'.1]; exact x.2.2.2.1)) (eqB_ok (by rw [G'.1]; exact x.2.2.2.2.1)) B_Curve___eq (ok_Curve___eq (w := w) (base := base) T  (fun_of D_Curve___eq) g G')
  obtain ⟨fd_need_curve, D_need_curve⟩ := c.d.def_ 14 (d := dD_need_curve) rfl
  have B_need_curve := D_need_curve.bindsN (ps := ["curve"]) fun _ _ _ _ _ _ us hl => match us, hl with | [_], _ => rfl
  have F_need_curve : ∀ g, Gk (clA K) flA [((He.cT K lawD).2, ("law.<locals>.<lambda>" : Str))] g → FDk PW w K mg base g "need_curve" 2 1 [] m_need_curve := fun g G' => fdk_of (He.glo_ok KX G (c.d.fact 12 (f := .glo "need_curve") rfl)) D_need_curve.kp B_need_curve (ok_need_curve (w := w) (base := base) T  (fun_of D_need_curve) g G')
  obtain ⟨fd_square_roots, D_square_roots⟩ := c.d.def_ 15 (d := dD_square_roots) rfl
  have B_square_roots := D_square_roots.bindsN (ps := ["p", "value"]) fun _ _ _ _ _ _ us hl => match us, hl with | [_, _], _ => rfl
  have F_square_roots : ∀ g, Gk (clA K) flA [((He.cT K lawD).2, ("law.<locals>.<lambda>" : Str))] g → FDk PW w K mg base g "square_roots" 1 2 [] m_square_roots := fun g G' => fdk_of (He.glo_ok KX G (c.d.fact 13 (f := .glo "square_roots") rfl)) D_square_roots.kp B_square_roots (ok_square_roots (w := w) (base := base) T  (fun_of D_square_roots) g G')
  obtain ⟨fd_line_of, D_line_of⟩ := c.d.def_ 16 (d := dD_line_of) rfl
  have B_line_of := D_line_of.bindsN (ps := ["curve"]) fun _ _ _ _ _ _ us hl => match us, hl with | [_], _ => rfl
  have F_line_of : ∀ g, Gk (clA K) flA [((He.cT K lawD).2, ("law.<locals>.<lambda>" : Str))] g → FDk PW w K mg base g "line_of" 2 1 [] m_line_of := fun g G' => fdk_of (He.glo_ok KX G (c.d.fact 14 (f := .glo "line_of") rfl)) D_line_of.kp B_line_of (ok_line_of (w := w) (base := base) T F_mod_value (fun_of D_line_of) g G')
  obtain ⟨fd_points, D_points⟩ := c.d.def_ 17 (d := dD_points) rfl
  have B_points := D_points.bindsN (ps := ["curve"]) fun _ _ _ _ _ _ us hl => match us, hl with | [_], _ => rfl
  have F_points : ∀ g, Gk (clA K) flA [((He.cT K lawD).2, ("law.<locals>.<lambda>" : Str))] g → FDk PW w K mg base g "points" 3 1 [] m_points := fun g G' => fdk_of (He.glo_ok KX G (c.d.fact 15 (f := .glo "points") rfl)) D_points.kp B_points (ok_points (w := w) (base := base) T F_need_curve F_square_roots F_line_of (fun_of D_points) g G')
  obtain ⟨fd_line_values, D_line_values⟩ := c.d.def_ 18 (d := dD_line_values) rfl
  have B_line_values := D_line_values.bindsN (ps := ["curve"]) fun _ _ _ _ _ _ us hl => match us, hl with | [_], _ => rfl
  have F_line_values : ∀ g, Gk (clA K) flA [((He.cT K lawD).2, ("law.<locals>.<lambda>" : Str))] g → FDk PW w K mg base g "line_values" 3 1 [] m_line_values := fun g G' => fdk_of (He.glo_ok KX G (c.d.fact 16 (f := .glo "line_values") rfl)) D_line_values.kp B_line_values (ok_line_values (w := w) (base := base) T F_need_curve F_line_of (fun_of D_line_values) g G')
  obtain ⟨fd_least_no_square, D_least_no_square⟩ := c.d.def_ 19 (d := dD_least_no_square) rfl
  have B_least_no_square := D_least_no_square.bindsN (ps := ["p"]) fun _ _ _ _ _ _ us hl => match us, hl with | [_], _ => rfl
  have F_least_no_square : ∀ g, Gk (clA K) flA [((He.cT K lawD).2, ("law.<locals>.<lambda>" : Str))] g → FDk PW w K mg base g "least_no_square" 1 1 [] m_least_no_square := fun g G' => fdk_of (He.glo_ok KX G (c.d.fact 17 (f := .glo "least_no_square") rfl)) D_least_no_square.kp B_least_no_square (ok_least_no_square (w := w) (base := base) T  (fun_of D_least_no_square) g G')
  obtain ⟨fd_flipped, D_flipped⟩ := c.d.def_ 20 (d := dD_flipped) rfl
  have B_flipped := D_flipped.bindsN (ps := ["curve"]) fun _ _ _ _ _ _ us hl => match us, hl with | [_], _ => rfl
  have F_flipped : ∀ g, Gk (clA K) flA [((He.cT K lawD).2, ("law.<locals>.<lambda>" : Str))] g → FDk PW w K mg base g "flipped" 7 1 [] m_flipped := fun g G' => fdk_of (He.glo_ok KX G (c.d.fact 18 (f := .glo "flipped") rfl)) D_flipped.kp B_flipped (ok_flipped (w := w) (base := base) T F_mod_scaled F_Curve___init F_need_curve F_least_no_square (fun_of D_flipped) g G')
  obtain ⟨fd_l_law_pen, D_l_law_pen⟩ := c.d.def_ 21 (d := dD_l_law_pen) rfl
  have B_l_law_pen := D_l_law_pen.bindsN (ps := ["script"]) fun _ _ _ _ _ _ us hl => match us, hl with | [_], _ => rfl
  obtain ⟨fd_l_law_draw, D_l_law_draw⟩ := c.d.def_ 22 (d := dD_l_law_draw) rfl
  have B_l_law_draw := D_l_law_draw.bindsN (ps := ["pen", "many"]) fun _ _ _ _ _ _ us hl => match us, hl with | [_, _], _ => rfl
  have F_l_law_draw : ∀ g, Gk (clA K) flA [((He.cT K lawD).2, ("law.<locals>.<lambda>" : Str))] g → FDk PW w K mg base g "_law_draw" 1 2 [] m_l_law_draw := fun g G' => fdk_of (He.glo_ok KX G (c.d.fact 20 (f := .glo "_law_draw") rfl)) D_l_law_draw.kp B_l_law_draw (ok_l_law_draw (w := w) (base := base) T  (fun_of D_l_law_draw) g G')
  obtain ⟨fd_l_law_pick, D_l_law_pick⟩ := c.d.def_ 23 (d := dD_l_law_pick) rfl
  have B_l_law_pick := D_l_law_pick.bindsN (ps := ["pen", "some"]) fun _ _ _ _ _ _ us hl => match us, hl with | [_, _], _ => rfl
  have F_l_law_pick : ∀ g, Gk (clA K) flA [((He.cT K lawD).2, ("law.<locals>.<lambda>" : Str))] g → FDk PW w K mg base g "_law_pick" 2 2 [] m_l_law_pick := fun g G' => fdk_of (He.glo_ok KX G (c.d.fact 21 (f := .glo "_law_pick") rfl)) D_l_law_pick.kp B_l_law_pick (ok_l_law_pick (w := w) (base := base) T F_l_law_draw (fun_of D_l_law_pick) g G')
  obtain ⟨fd_l_law_listed, D_l_law_listed⟩ := c.d.def_ 24 (d := dD_l_law_listed) rfl
  have B_l_law_listed := D_l_law_listed.bindsN (ps := ["pen", "row"]) fun _ _ _ _ _ _ us hl => match us, hl with | [_, _], _ => rfl
  have F_l_law_listed : ∀ g, Gk (clA K) flA [((He.cT K lawD).2, ("law.<locals>.<lambda>" : Str))] g → FDk PW w K mg base g "_law_listed" 2 2 [] m_l_law_listed := fun g G' => fdk_of (He.glo_ok KX G (c.d.fact 22 (f := .glo "_law_listed") rfl)) D_l_law_listed.kp B_l_law_listed (ok_l_law_listed (w := w) (base := base) T F_l_law_draw (fun_of D_l_law_listed) g G')
  obtain ⟨fd_l_law_cut, D_l_law_cut⟩ := c.d.def_ 25 (d := dD_l_law_cut) rfl
  have B_l_law_cut := D_l_law_cut.bindsN (ps := ["row"]) fun _ _ _ _ _ _ us hl => match us, hl with | [_], _ => rfl
  have F_l_law_cut : ∀ g, Gk (clA K) flA [((He.cT K lawD).2, ("law.<locals>.<lambda>" : Str))] g → FDk PW w K mg base g "_law_cut" 1 1 [] m_l_law_cut := fun g G' => fdk_of (He.glo_ok KX G (c.d.fact 23 (f := .glo "_law_cut") rfl)) D_l_law_cut.kp B_l_law_cut (ok_l_law_cut (w := w) (base := base) T  (fun_of D_l_law_cut) g G')
  obtain ⟨fd_l_law_w_times, D_l_law_w_times⟩ := c.d.def_ 26 (d := dD_l_law_w_times) rfl
  have B_l_law_w_times := D_l_law_w_times.bindsN (ps := ["a", "b"]) fun _ _ _ _ _ _ us hl => match us, hl with | [_, _], _ => rfl
  have F_l_law_w_times : ∀ g, Gk (clA K) flA [((He.cT K lawD).2, ("law.<locals>.<lambda>" : Str))] g → FDk PW w K mg base g "_law_w_times" 2 2 [] m_l_law_w_times := fun g G' => fdk_of (He.glo_ok KX G (c.d.fact 24 (f := .glo "_law_w_times") rfl)) D_l_law_w_times.kp B_l_law_w_times (ok_l_law_w_times (w := w) (base := base) T F_l_law_cut (fun_of D_l_law_w_times) g G')
  obtain ⟨fd_l_law_m_times, D_l_law_m_times⟩ := c.d.def_ 27 (d := dD_l_law_m_times) rfl
  have B_l_law_m_times := D_l_law_m_times.bindsN (ps := ["p", "a", "b"]) fun _ _ _ _ _ _ us hl => match us, hl with | [_, _, _], _ => rfl
  have F_l_law_m_times : ∀ g, Gk (clA K) flA [((He.cT K lawD).2, ("law.<locals>.<lambda>" : Str))] g → FDk PW w K mg base g "_law_m_times" 3 3 [] m_l_law_m_times := fun g G' => fdk_of (He.glo_ok KX G (c.d.fact 25 (f := .glo "_law_m_times") rfl)) D_l_law_m_times.kp B_l_law_m_times (ok_l_law_m_times (w := w) (base := base) T F_l_law_cut F_l_law_w_times (fun_of D_l_law_m_times) g G')
  obtain ⟨fd_l_law_m_rest, D_l_law_m_rest⟩ := c.d.def_ 28 (d := dD_l_law_m_rest) rfl
  have B_l_law_m_rest := D_l_law_m_rest.bindsN (ps := ["p", "a", "b"]) fun _ _ _ _ _ _ us hl => match us, hl with | [_, _, _], _ => rfl
  have F_l_law_m_rest : ∀ g, Gk (clA K) flA [((He.cT K lawD).2, ("law.<locals>.<lambda>" : Str))] g → FDk PW w K mg base g "_law_m_rest" 2 3 [] m_l_law_m_rest := fun g G' => fdk_of (He.glo_ok KX G (c.d.fact 26 (f := .glo "_law_m_rest") rfl)) D_l_law_m_rest.kp B_l_law_m_rest (ok_l_law_m_rest (w := w) (base := base) T F_l_law_cut (fun_of D_l_law_m_rest) g G')
  obtain ⟨fd_l_law_m_common, D_l_law_m_common⟩ := c.d.def_ 29 (d := dD_l_law_m_common) rfl
  have B_l_law_m_common := D_l_law_m_common.bindsN (ps := ["p", "a", "b"]) fun _ _ _ _ _ _ us hl => match us, hl with | [_, _, _], _ => rfl
  have F_l_law_m_common : ∀ g, Gk (clA K) flA [((He.cT K lawD).2, ("law.<locals>.<lambda>" : Str))] g → FDk PW w K mg base g "_law_m_common" 3 3 [] m_l_law_m_common := fun g G' => fdk_of (He.glo_ok KX G (c.d.fact 27 (f := .glo "_law_m_common") rfl)) D_l_law_m_common.kp B_l_law_m_common (ok_l_law_m_common (w := w) (base := base) T F_l_law_m_rest (fun_of D_l_law_m_common) g G')
  obtain ⟨fd_l_law_m_at, D_l_law_m_at⟩ := c.d.def_ 30 (d := dD_l_law_m_at) rfl
  have B_l_law_m_at := D_l_law_m_at.bindsN (ps := ["p", "a", "x"]) fun _ _ _ _ _ _ us hl => match us, hl with | [_, _, _], _ => rfl
  have F_l_law_m_at : ∀ g, Gk (clA K) flA [((He.cT K lawD).2, ("law.<locals>.<lambda>" : Str))] g → FDk PW w K mg base g "_law_m_at" 1 3 [] m_l_law_m_at := fun g G' => fdk_of (He.glo_ok KX G (c.d.fact 28 (f := .glo "_law_m_at") rfl)) D_l_law_m_at.kp B_l_law_m_at (ok_l_law_m_at (w := w) (base := base) T  (fun_of D_l_law_m_at) g G')
  obtain ⟨fd_l_law_m_slope, D_l_law_m_slope⟩ := c.d.def_ 31 (d := dD_l_law_m_slope) rfl
  have B_l_law_m_slope := D_l_law_m_slope.bindsN (ps := ["p", "a"]) fun _ _ _ _ _ _ us hl => match us, hl with | [_, _], _ => rfl
  have F_l_law_m_slope : ∀ g, Gk (clA K) flA [((He.cT K lawD).2, ("law.<locals>.<lambda>" : Str))] g → FDk PW w K mg base g "_law_m_slope" 2 2 [] m_l_law_m_slope := fun g G' => fdk_of (He.glo_ok KX G (c.d.fact 29 (f := .glo "_law_m_slope") rfl)) D_l_law_m_slope.kp B_l_law_m_slope (ok_l_law_m_slope (w := w) (base := base) T F_l_law_cut (fun_of D_l_law_m_slope) g G')
  obtain ⟨fd_l_law_curve, D_l_law_curve⟩ := c.d.def_ 32 (d := dD_l_law_curve) rfl
  have B_l_law_curve := D_l_law_curve.bindsN (ps := ["pen", "primes", "most"]) fun _ _ _ _ _ _ us hl => match us, hl with | [_, _, _], _ => rfl
  have F_l_law_curve : ∀ g, Gk (clA K) flA [((He.cT K lawD).2, ("law.<locals>.<lambda>" : Str))] g → FDk PW w K mg base g "_law_curve" 4 3 [] m_l_law_curve := fun g G' => fdk_of (He.glo_ok KX G (c.d.fact 30 (f := .glo "_law_curve") rfl)) D_l_law_curve.kp B_l_law_curve (ok_l_law_curve (w := w) (base := base) T F_l_law_draw F_l_law_pick F_l_law_m_common F_l_law_m_slope (fun_of D_l_law_curve) g G')
  obtain ⟨fd_l_law_complaint, D_l_law_complaint⟩ := c.d.def_ 33 (d := dD_l_law_complaint) rfl
  have B_l_law_complaint := D_l_law_complaint.bindsN (ps := ["call"]) fun _ _ _ _ _ _ us hl => match us, hl with | [_], _ => rfl
  obtain ⟨fd_l_law_why, D_l_law_why⟩ := c.d.def_ 34 (d := dD_l_law_why) rfl
  have B_l_law_why := D_l_law_why.bindsN (ps := ["p", "f"]) fun _ _ _ _ _ _ us hl => match us, hl with | [_, _], _ => rfl
  have F_l_law_why : ∀ g, Gk (clA K) flA [((He.cT K lawD).2, ("law.<locals>.<lambda>" : Str))] g → FDk PW w K mg base g "_law_why" 4 2 [] m_l_law_why := fun g G' => fdk_of (He.glo_ok KX G (c.d.fact 32 (f := .glo "_law_why") rfl)) D_l_law_why.kp B_l_law_why (ok_l_law_why (w := w) (base := base) T F_l_law_m_common F_l_law_m_slope (fun_of D_l_law_why) g G')
  obtain ⟨fd_law, D_law⟩ := c.d.def_ 35 (d := dD_law) rfl
  have B_law := D_law.bindsN (ps := ["script"]) fun _ _ _ _ _ _ us hl => match us, hl with | [_], _ => rfl
  have CP : CPk K mg "_law_complaint" "call" st_l_law_complaint := cpk_of (He.glo_ok KX G (c.d.fact 31 (f := .glo "_law_complaint") rfl)) (fun_of D_l_law_complaint) B_l_law_complaint
  cases hf0
  have Fl : Fun K "law" "law" st_law _ fd_law := fun_of D_law
  refine law_run (g0 := g00 (clA K) flA [((He.cT K lawD).2, ("law.<locals>.<lambda>" : Str))]) (N := N_law) (lev := 9) (m := 21) (st := st_law) Fl rfl sc_law rfl (fun u => D_law.bindsA (ps := ["script"]) (fun _ _ _ _ _ _ us hl => match us, hl with | [_], _ => rfl) s [u] rfl) rfl (ok_l_law_pen T (fun_of D_l_law_pen) _ ⟨rfl, rfl, rfl⟩ rfl) (He.glo_ok KX G (c.d.fact 19 (f := .glo "_law_pen") rfl)) D_l_law_pen.kp B_l_law_pen e0 i5 (tabs0 (i4 _ List.mem_cons_self)) ⟨rfl, by decide, by decide⟩ (by decide) (fun g e1 e2 e3 hr => ?_) (math ns hl hbits) rfl rfl (Or.inr rfl) (Or.inl rfl) (fun _ => rfl) (fun _ => rfl) (fun _ => rfl) (fun _ => rfl)
  exact ds_law T F_Curve___init F_Curve___eq F_points F_line_values F_flipped F_l_law_draw F_l_law_pick F_l_law_listed F_l_law_m_times F_l_law_m_at F_l_law_curve F_l_law_why CP (i3 _ List.mem_cons_self) rfl ⟨e1, e2, e3⟩ rfl hr
end
end K06
set_option Elab.async false
set_option linter.all false
set_option maxRecDepth 100000
set_option maxHeartbeats 4000000
namespace K06
open PySem PySem.Spec L2 Zp
/-! ### rows without trailing zeros -/
def trim (xs : List Int) : List Int := (xs.reverse.dropWhile fun z => z == 0).reverse
@[simp] theorem trim_nil : trim [] = [] := rfl
theorem trim_snoc (ys : List Int) (z : Int) : trim (ys ++ [z]) = if z = 0 then trim ys else ys ++ [z] := by
  unfold trim
  rw [List.reverse_append, List.reverse_singleton, List.singleton_append, List.dropWhile_cons]
  by_cases h : z = 0
  · simp [h]
  · simp [h]
theorem snoc_cases (xs : List Int) : xs = [] ∨ ∃ ys z, xs = ys ++ [z] := by
  rcases List.eq_nil_or_concat xs with h | ⟨ys, z, h⟩
  · exact .inl h
  · exact .inr ⟨ys, z, by rw [h, List.concat_eq_append]⟩
theorem dIx_last (b : Bool) (ys : List Int) (z : Int) : dIx (b, L (ys ++ [z])) (.int (-1)) = some (.int z) := by
  show atI (L (ys ++ [z])) (-1) = _
  unfold atI ixN
  have h : ¬ (0 : Int) ≤ -1 := by decide
  rw [if_neg h, if_pos (by simp; omega)]
  have e : (-1 + (((L (ys ++ [z])).length : Nat) : Int)).toNat = ys.length := by simp; omega
  show (L (ys ++ [z]))[(-1 + (((L (ys ++ [z])).length : Nat) : Int)).toNat]? = _
  rw [e]
  simp
theorem trim_loop : ∀ (n : Nat) (xs : List Int) (s : PenS), xs.length < n →
    whileN (tAndF (tOf (eOp dGt (eB dLen (bOwn 0)) (eC (.int 0)))) (tOf (eOp dEq (eBE dIx (bOwn 0) (eUn dNeg (eC (.int 1)))) (eC (.int 0))))) (sPop 0) n [.own (L xs)] s = .nx [.own (L (trim xs))] s
  | 0, _, _, h => by omega
  | n + 1, xs, s, h => by
    rcases snoc_cases xs with rfl | ⟨ys, z, rfl⟩
    · simp [whileN]
    · have e : dIx (false, L (ys ++ [z])) (.int (-1)) = some (.int z) := dIx_last false ys z
      rw [trim_snoc]
      by_cases hz : z = 0
      · subst hz
        have ih := trim_loop n ys s (by simp at h; omega)
        simp only [if_true]
        rw [← ih]
        simp [whileN] at e ⊢
        rw [e]
        simp
      · rw [if_neg hz]
        simp [whileN] at e ⊢
        rw [e]
        simp [hz]
theorem m_trimmed_eq {d : D} {b : Bool} {xs : List Int} (s : PenS) (hd : seqOf d = some (b, L xs)) (h : xs.length < 1000) : m_trimmed [d] s = .ok (.tup (L (trim xs))) s := by
  have e := trim_loop 1000 xs s h
  simp [m_trimmed, m_run, b_trimmed, FU, hd, e]
@[simp] theorem dNe_nil {a : List Int} : dNe (.lst (L a)) (.lst []) = some (.bl (!decide (a = []))) := dNe_lst (b := [])
@[simp] theorem dEq_nil {a : List Int} : dEq (.lst (L a)) (.lst []) = some (.bl (decide (a = []))) := dEq_lst (b := [])
theorem cutD_last (ys : List Int) (z : Int) : cutD (L (ys ++ [z])) none (some (-1)) = L ys := by
  unfold cutD HT.sIx
  simp
  have e : (-1 + ((ys.length : Int) + 1)).toNat = ys.length := by omega
  rw [e]
  have e2 : (List.map D.int ys).length = ys.length := by simp
  rw [← e2, List.take_left']
  rfl
theorem cut_loop : ∀ (n : Nat) (xs : List Int) (s : PenS), xs.length < n →
    whileN (tAndF (tOf (eOp dNe (eVar 0) (eFrz (oLst aNil)))) (tOf (eOp dEq (eBE dIx (bOf (eVar 0)) (eUn dNeg (eC (.int 1)))) (eC (.int 0))))) (sSet 0 (eSlice (bOf (eVar 0)) oNone (oSome (eUn dNeg (eC (.int 1)))))) n [.val (.lst (L xs))] s = .nx [.val (.lst (L (trim xs)))] s
  | 0, _, _, h => by omega
  | n + 1, xs, s, h => by
    have hs : szB 0 = true := rfl
    rcases snoc_cases xs with rfl | ⟨ys, z, rfl⟩
    · have e := dNe_nil (a := [])
      simp [whileN, hs] at e ⊢
      rw [e]
      simp
    · have e : dIx (false, L (ys ++ [z])) (.int (-1)) = some (.int z) := dIx_last false ys z
      have e2 := dNe_nil (a := ys ++ [z])
      have e3 := cutD_last ys z
      rw [trim_snoc]
      by_cases hz : z = 0
      · subst hz
        have ih := cut_loop n ys s (by simp at h; omega)
        simp only [if_true]
        rw [← ih]
        simp [whileN, hs] at e e2 e3 ⊢
        rw [e2]
        simp
        rw [e]
        simp
        rw [e3]
      · rw [if_neg hz]
        simp [whileN, hs] at e e2 e3 ⊢
        rw [e2]
        simp
        rw [e]
        simp [hz]
theorem m_cut_eq {d : D} {b : Bool} {xs : List Int} (s : PenS) (hd : seqOf d = some (b, L xs)) (h : xs.length < 1000) : m_l_law_cut [d] s = .ok (.lst (L (trim xs))) s := by
  have e := cut_loop 1000 xs s h
  simp [m_l_law_cut, m_run, b_l_law_cut, FU, hd, e]
end K06
set_option Elab.async false
set_option linter.all false
set_option maxRecDepth 100000
set_option maxHeartbeats 4000000
namespace K06
open PySem PySem.Spec L2 Zp
def P5 (p : Int) : Prop := p = 3 ∨ p = 5 ∨ p = 7 ∨ p = 11 ∨ p = 13
theorem P5.rng {p : Int} (h : P5 p) : 3 ≤ p ∧ p ≤ 13 := by
  rcases h with rfl | rfl | rfl | rfl | rfl <;> omega
def invT (p a : Int) : Int := ((rangeI 1 p).filter fun k => (k * a) % p == 1).headD 0
theorem units {p a : Int} (Q : Int → Int → Prop) (h3 : ∀ a ∈ rangeI 1 3, Q 3 a) (h5 : ∀ a ∈ rangeI 1 5, Q 5 a) (h7 : ∀ a ∈ rangeI 1 7, Q 7 a) (h11 : ∀ a ∈ rangeI 1 11, Q 11 a) (h13 : ∀ a ∈ rangeI 1 13, Q 13 a) (hp : P5 p) (h1 : 0 < a) (h2 : a < p) : Q p a := by
  have m : a ∈ rangeI 1 p := mem_rangeI.mpr ⟨by omega, h2⟩
  rcases hp with rfl | rfl | rfl | rfl | rfl
  · exact h3 a m
  · exact h5 a m
  · exact h7 a m
  · exact h11 a m
  · exact h13 a m
theorem invT_ok {p a : Int} (hp : P5 p) (h1 : 0 < a) (h2 : a < p) : 0 < invT p a ∧ invT p a < p ∧ (invT p a * a) % p = 1 :=
  units (fun p a => 0 < invT p a ∧ invT p a < p ∧ (invT p a * a) % p = 1) (by decide +kernel) (by decide +kernel) (by decide +kernel) (by decide +kernel) (by decide +kernel) hp h1 h2
theorem m_inverse_eq {p a : Int} (s : PenS) (hp : P5 p) (h1 : 0 < a) (h2 : a < p) : m_inverse_of [.int p, .int a] s = .ok (.int (invT p a)) s := by
  have all3 : ∀ a ∈ ([1, 2] : List Int), m_inverse_of [.int 3, .int a] s = .ok (.int (invT 3 a)) s := by
    intro a ha
    simp only [List.mem_cons, List.not_mem_nil, or_false] at ha
    rcases ha with rfl | rfl <;> kernel_rfl
  exact units (fun p a => m_inverse_of [.int p, .int a] s = .ok (.int (invT p a)) s) (fun a ha => by
      have e : rangeI 1 3 = [1, 2] := by decide +kernel
      rw [e] at ha
      simp only [List.mem_cons, List.not_mem_nil, or_false] at ha
      rcases ha with rfl | rfl <;> kernel_rfl) (fun a ha => by
      have e : rangeI 1 5 = [1, 2, 3, 4] := by decide +kernel
      rw [e] at ha
      simp only [List.mem_cons, List.not_mem_nil, or_false] at ha
      rcases ha with rfl | rfl | rfl | rfl <;> kernel_rfl) (fun a ha => by
      have e : rangeI 1 7 = [1, 2, 3, 4, 5, 6] := by decide +kernel
      rw [e] at ha
      simp only [List.mem_cons, List.not_mem_nil, or_false] at ha
      rcases ha with rfl | rfl | rfl | rfl | rfl | rfl <;> kernel_rfl) (fun a ha => by
      have e : rangeI 1 11 = [1, 2, 3, 4, 5, 6, 7, 8, 9, 10] := by decide +kernel
      rw [e] at ha
      simp only [List.mem_cons, List.not_mem_nil, or_false] at ha
      rcases ha with rfl | rfl | rfl | rfl | rfl | rfl | rfl | rfl | rfl | rfl <;> kernel_rfl) (fun a ha => by
      have e : rangeI 1 13 = [1, 2, 3, 4, 5, 6, 7, 8, 9, 10, 11, 12] := by decide +kernel
      rw [e] at ha
      simp only [List.mem_cons, List.not_mem_nil, or_false] at ha
      rcases ha with rfl | rfl | rfl | rfl | rfl | rfl | rfl | rfl | rfl | rfl | rfl | rfl <;> kernel_rfl) hp h1 h2
/-! ### values -/
def valF (p x : Int) (acc : Int) (c : Int) : Int := (acc * x + c) % p
def valC (p : Int) (xs : List Int) (x : Int) : Int := xs.reverse.foldl (valF p x) 0
theorem valF_rng {p x acc c : Int} (hp : 0 < p) : 0 ≤ valF p x acc c ∧ valF p x acc c < p := ⟨Int.emod_nonneg _ (by omega), Int.emod_lt_of_pos _ hp⟩
theorem fold_rng' {p x : Int} (hp : 0 < p) : ∀ (xs : List Int) (acc : Int), 0 ≤ acc → acc < p → 0 ≤ xs.foldl (valF p x) acc ∧ xs.foldl (valF p x) acc < p
  | [], acc, h1, h2 => ⟨h1, h2⟩
  | c :: xs, acc, _, _ => fold_rng' hp xs _ (valF_rng hp).1 (valF_rng hp).2
theorem valC_rng {p x : Int} {xs : List Int} (hp : 0 < p) : 0 ≤ valC p xs x ∧ valC p xs x < p := fold_rng' hp _ 0 (by omega) hp
theorem val_loop {p x : Int} {A : Sv} {body : SF} {s : PenS} (hp : 0 < p) (hb : ∀ acc c : Int, 0 ≤ acc → acc < p → body [.val (.int p), A, .val (.int x), .val (.int acc), .val (.int c)] s = .nx [.val (.int p), A, .val (.int x), .val (.int (valF p x acc c)), .val (.int c)] s) :
    ∀ (ys : List Int) (acc : Int) (it : Sv), 0 ≤ acc → acc < p → ∃ it', forGo (gN 4) body (L ys) [.val (.int p), A, .val (.int x), .val (.int acc), it] s = .nx [.val (.int p), A, .val (.int x), .val (.int (ys.foldl (valF p x) acc)), it'] s
  | [], acc, it, _, _ => ⟨it, rfl⟩
  | c :: ys, acc, it, h1, h2 => by
    obtain ⟨it', e⟩ := val_loop hp hb ys (valF p x acc c) (.val (.int c)) (valF_rng hp).1 (valF_rng hp).2
    refine ⟨it', ?_⟩
    show forGo (gN 4) body (D.int c :: L ys) _ s = _
    unfold forGo
    simp only [gN, List.set_cons_succ, List.set_cons_zero, hb acc c h1 h2]
    exact e
theorem m_mod_value_eq {p x : Int} {xs : List Int} (s : PenS) (hp : P5 p) (h1 : 0 ≤ x) (h2 : x < p) : m_mod_value [.int p, .tup (L xs), .int x] s = .ok (.int (valC p xs x)) s := by
  have hr := hp.rng
  obtain ⟨it, e⟩ := val_loop (p := p) (x := x) (A := .val (.tup (L xs))) (body := sSet 3 (eOp dMod (eOp dAdd (eOp dMul (eVar 3) (eVar 2)) (eVar 4)) (eVar 0))) (s := s) (by omega)
    (fun acc c h3 h4 => by simp [o_mulI (mulOk_sm (i := acc) (j := x) (by omega) (by omega) (by omega) (by omega)), o_modI (show 0 < p by omega), valF]) xs.reverse 0 .no (by omega) (by omega)
  have e1 : (L xs).reverse = L xs.reverse := (List.map_reverse).symm
  simp [m_mod_value, m_run, b_mod_value, dRev] at e ⊢
  rw [e]
  simp [valC]
theorem m_at_eq {p x : Int} {xs : List Int} (s : PenS) (hp : P5 p) (h1 : 0 ≤ x) (h2 : x < p) : m_l_law_m_at [.int p, .lst (L xs), .int x] s = .ok (.int (valC p xs x)) s := by
  have hr := hp.rng
  obtain ⟨it, e⟩ := val_loop (p := p) (x := x) (A := .val (.lst (L xs))) (body := sSet 3 (eOp dMod (eUn dInt (eOp dAdd (eOp dMul (eVar 3) (eVar 2)) (eVar 4))) (eVar 0))) (s := s) (by omega)
    (fun acc c h3 h4 => by simp [o_mulI (mulOk_sm (i := acc) (j := x) (by omega) (by omega) (by omega) (by omega)), o_modI (show 0 < p by omega), valF]) xs.reverse 0 .no (by omega) (by omega)
  simp [m_l_law_m_at, m_run, b_l_law_m_at, dRev] at e ⊢
  rw [e]
  simp [valC]
end K06
set_option Elab.async false
set_option linter.all false
set_option maxRecDepth 100000
set_option maxHeartbeats 4000000
namespace K06
open PySem PySem.Spec L2 Zp
/-! ### division -/
def stepR (p back : Int) (b : List Int) (at_ : Nat) (rest : List Int) : List Int :=
  rest.mapIdx fun k x => if at_ ≤ k ∧ k < at_ + b.length then (x - (rest.getD (at_ + b.length - 1) 0 * back) % p * b.getD (k - at_) 0) % p else x
def divR (p back : Int) (b : List Int) : Nat → List Int → List Int
  | 0, rest => rest
  | m + 1, rest => divR p back b m (stepR p back b m rest)
theorem stepR_len {p back : Int} {b rest : List Int} {k : Nat} : (stepR p back b k rest).length = rest.length := by unfold stepR; simp
theorem divR_len {p back : Int} {b : List Int} : ∀ (m : Nat) (rest : List Int), (divR p back b m rest).length = rest.length
  | 0, rest => rfl
  | m + 1, rest => by
    show (divR p back b m (stepR p back b m rest)).length = _
    rw [divR_len m, stepR_len]
theorem stepR_inn {p back : Int} {b rest : List Int} {k : Nat} (hp : 0 < p) (h : Inn p rest) : Inn p (stepR p back b k rest) := fun x hx => by
  unfold stepR at hx
  obtain ⟨i, hi, rfl⟩ := List.mem_iff_getElem.mp hx
  rw [List.getElem_mapIdx]
  split
  · exact ⟨Int.emod_nonneg _ (by omega), Int.emod_lt_of_pos _ hp⟩
  · exact h _ (List.getElem_mem _)
theorem divR_inn {p back : Int} {b : List Int} (hp : 0 < p) : ∀ (m : Nat) (rest : List Int), Inn p rest → Inn p (divR p back b m rest)
  | 0, rest, h => h
  | m + 1, rest, h => divR_inn hp m _ (stepR_inn hp h)
/-- the program's way through b -/
def inner (p item : Int) : List Int → Nat → List Int → List Int
  | [], _, r => r
  | c :: cs, i, r => inner p item cs (i + 1) (r.set i ((r.getD i 0 - item * c) % p))
theorem inner_len {p item : Int} : ∀ (cs : List Int) (i : Nat) (r : List Int), (inner p item cs i r).length = r.length
  | [], _, _ => rfl
  | c :: cs, i, r => by
    show (inner p item cs (i + 1) _).length = _
    rw [inner_len cs]
    simp
theorem inner_get {p item : Int} : ∀ (cs : List Int) (i : Nat) (r : List Int) (k : Nat), i + cs.length ≤ r.length → (inner p item cs i r)[k]? = if i ≤ k ∧ k < i + cs.length then some ((r.getD k 0 - item * cs.getD (k - i) 0) % p) else r[k]?
  | [], i, r, k, _ => by
    rw [if_neg (by simp)]
    rfl
  | c :: cs, i, r, k, h => by
    simp only [List.length_cons] at h
    show (inner p item cs (i + 1) (r.set i ((r.getD i 0 - item * c) % p)))[k]? = _
    rw [inner_get cs (i + 1) _ k (by simp; omega)]
    by_cases h1 : k = i
    · subst h1
      rw [if_neg (by omega), if_pos (by simp), List.getElem?_set_self (by omega)]
      simp
    · by_cases h2 : i + 1 ≤ k ∧ k < i + 1 + cs.length
      · rw [if_pos h2, if_pos (by simp; omega)]
        have e1 : (r.set i ((r.getD i 0 - item * c) % p)).getD k 0 = r.getD k 0 := by
          simp [List.getElem?_set_ne (Ne.symm h1)]
        have e2 : (c :: cs).getD (k - i) 0 = cs.getD (k - (i + 1)) 0 := by
          have e3 : k - i = (k - (i + 1)) + 1 := by omega
          rw [e3]
          simp
        rw [e1, e2]
      · rw [if_neg h2, if_neg (by simp; omega), List.getElem?_set_ne (Ne.symm h1)]
theorem inner_step {p back : Int} {b rest : List Int} {m : Nat} (h : m + b.length ≤ rest.length) : inner p ((rest.getD (m + b.length - 1) 0 * back) % p) b m rest = stepR p back b m rest := by
  apply List.ext_getElem?
  intro k
  rw [inner_get b m rest k h]
  unfold stepR
  rw [List.getElem?_mapIdx]
  by_cases hk : k < rest.length
  · rw [List.getElem?_eq_getElem hk]
    simp only [Option.map_some]
    by_cases h2 : m ≤ k ∧ k < m + b.length
    · rw [if_pos h2, if_pos h2]
      simp [List.getElem?_eq_getElem hk]
    · rw [if_neg h2, if_neg h2]
  · rw [if_neg (by omega)]
    rw [List.getElem?_eq_none (by omega)]
    rfl
/-! ### the program's loops -/
theorem inner_loop {p item : Int} {at_ : Nat} {A B q bk : Sv} {s : PenS} (hp : 0 < p) (hi : 0 ≤ item ∧ item < p) (hq : p ≤ 31) : ∀ (cs : List Int) (i : Nat) (r : List Int) (x y : Sv), Inn p r → Inn p cs → at_ + i + cs.length ≤ r.length → r.length ≤ 200 →
    ∃ x' y', forGo (gT [8, 9]) (sIx 3 (eOp dAdd (eVar 6) (eVar 8)) (eOp dMod (eOp dSub (eBE dIx (bOwn 3) (eOp dAdd (eVar 6) (eVar 8))) (eOp dMul (eVar 7) (eVar 9))) (eVar 0))) (enumI i cs) [.val (.int p), A, B, .own (L r), q, bk, .val (.int at_), .val (.int item), x, y] s
      = .nx [.val (.int p), A, B, .own (L (inner p item cs (at_ + i) r)), q, bk, .val (.int at_), .val (.int item), x', y'] s
  | [], i, r, x, y, _, _, _, _ => ⟨x, y, rfl⟩
  | c :: cs, i, r, x, y, h1, h2, h3, h4 => by
    simp only [List.length_cons] at h3
    have hk : at_ + i < r.length := by omega
    have hc := h2 c List.mem_cons_self
    have hr := h1 r[at_ + i] (List.getElem_mem _)
    have inn' : Inn p (r.set (at_ + i) ((r.getD (at_ + i) 0 - item * c) % p)) := fun z hz => by
      rcases List.mem_or_eq_of_mem_set hz with hz | rfl
      · exact h1 z hz
      · exact ⟨Int.emod_nonneg _ (by omega), Int.emod_lt_of_pos _ hp⟩
    obtain ⟨x', y', e⟩ := inner_loop (item := item) (A := A) (B := B) (q := q) (bk := bk) (s := s) (at_ := at_) hp hi hq cs (i + 1) (r.set (at_ + i) ((r.getD (at_ + i) 0 - item * c) % p)) (.val (.int i)) (.val (.int c)) inn' (fun z hz => h2 z (List.mem_cons_of_mem _ hz)) (by simp; omega) (by simpa using h4)
    refine ⟨x', y', ?_⟩
    unfold enumI forGo
    have e3 : ((at_ : Int) + (i : Int)) = ((at_ + i : Nat) : Int) := by omega
    have e1 : dIx (false, L r) (.int ((at_ : Int) + (i : Int))) = some (.int r[at_ + i]) := by rw [e3]; exact dIx_at false r (at_ + i) hk
    have e2 : ixN (L r).length ((at_ : Int) + (i : Int)) = some (at_ + i) := by rw [e3]; exact ixN_at (by simpa using hk)
    have e4 : mulOk item c = true := mulOk_sm (by omega) (by omega) (by omega) (by omega)
    have e5 : r.getD (at_ + i) 0 = r[at_ + i] := by simp [List.getElem?_eq_getElem hk]
    have e6 : (L r).set (at_ + i) (.int ((r[at_ + i] - item * c) % p)) = L (r.set (at_ + i) ((r.getD (at_ + i) 0 - item * c) % p)) := by rw [e5, L, L, List.map_set]
    simp only [gT, gNs, List.set_cons_succ, List.set_cons_zero]
    simp [e1, o_mulI e4, o_modI hp, sIxK]
    simp at e2
    simp only [e2, e6]
    have e8 : inner p item (c :: cs) (at_ + i) r = inner p item cs (at_ + (i + 1)) (r.set (at_ + i) ((r.getD (at_ + i) 0 - item * c) % p)) := rfl
    rw [e8]
    exact e
end K06
set_option Elab.async false
set_option linter.all false
set_option maxRecDepth 100000
set_option maxHeartbeats 4000000
namespace K06
open PySem PySem.Spec L2 Zp
def downI : Nat → List Int
  | 0 => []
  | m + 1 => (m : Int) :: downI m
theorem downs : ∀ m : Nat, downD ((m : Int) - 1) (-1) = L (downI m)
  | 0 => by
    unfold downD
    simp [downI]
  | m + 1 => by
    have ih := downs m
    unfold downD at ih ⊢
    have e1 : ((((m + 1 : Nat) : Int) - 1) - (-1)).toNat = m + 1 := by omega
    have e2 : (((m : Int) - 1) - (-1)).toNat = m := by omega
    rw [e1, List.range_succ_eq_map, List.map_cons, List.map_map]
    rw [e2] at ih
    show _ = D.int (m : Int) :: L (downI m)
    rw [← ih]
    congr 1
    · congr 1; omega
    · apply List.map_congr_left
      intro i hi
      show D.int _ = D.int _
      congr 1
      simp
      omega
theorem outer_loop {p back : Int} {b : List Int} {A : Sv} {s : PenS} (hp : 0 < p) (hq : p ≤ 31) (hbk : 0 ≤ back ∧ back < p) (hb : Inn p b) (hb0 : b ≠ []) : ∀ (m : Nat) (r qs : List Int) (x y z w : Sv), Inn p r → (m = 0 ∨ m + b.length ≤ r.length + 1) → m ≤ qs.length → r.length ≤ 200 →
    ∃ qs' x' y' z' w', qs'.length = qs.length ∧ forGo (gN 6) (sSeq (sSet 7 (eOp dMod (eOp dMul (eBE dIx (bOwn 3) (eOp dSub (eOp dAdd (eVar 6) (eB dLen (bOf (eVar 2)))) (eC (.int 1)))) (eVar 5)) (eVar 0))) (sSeq (sIx 4 (eVar 6) (eVar 7)) (sFor (iEnE (eVar 2)) (gT [8, 9]) (sIx 3 (eOp dAdd (eVar 6) (eVar 8)) (eOp dMod (eOp dSub (eBE dIx (bOwn 3) (eOp dAdd (eVar 6) (eVar 8))) (eOp dMul (eVar 7) (eVar 9))) (eVar 0))))))
      (L (downI m)) [.val (.int p), A, .val (.tup (L b)), .own (L r), .own (L qs), .val (.int back), x, y, z, w] s
      = .nx [.val (.int p), A, .val (.tup (L b)), .own (L (divR p back b m r)), .own (L qs'), .val (.int back), x', y', z', w'] s
  | 0, r, qs, x, y, z, w, _, _, _, _ => ⟨qs, x, y, z, w, rfl, rfl⟩
  | m + 1, r, qs, x, y, z, w, h1, h2, h3, h4 => by
    have hbl : 0 < b.length := List.length_pos_iff.mpr hb0
    have hk : m + b.length - 1 < r.length := by omega
    have hr := h1 r[m + b.length - 1] (List.getElem_mem _)
    have e5 : r.getD (m + b.length - 1) 0 = r[m + b.length - 1] := by simp [List.getElem?_eq_getElem hk]
    have e1 : dIx (false, L r) (.int ((m : Int) + (b.length : Int) - 1)) = some (.int r[m + b.length - 1]) := by
      have e3 : ((m : Int) + (b.length : Int) - 1) = ((m + b.length - 1 : Nat) : Int) := by omega
      rw [e3]
      exact dIx_at false r _ hk
    have e9 := inner_step (p := p) (back := back) (b := b) (rest := r) (m := m) (by omega)
    rw [e5] at e9
    generalize hv : r[m + b.length - 1] = v at hr e1 e9
    have e4 : mulOk v back = true := mulOk_sm (by omega) (by omega) (by omega) (by omega)
    have hi : 0 ≤ (v * back) % p ∧ (v * back) % p < p := ⟨Int.emod_nonneg _ (by omega), Int.emod_lt_of_pos _ hp⟩
    obtain ⟨z', w', e⟩ := inner_loop (p := p) (item := (v * back) % p) (at_ := m) (A := A) (B := .val (.tup (L b))) (q := .own (L (qs.set m ((v * back) % p)))) (bk := .val (.int back)) (s := s) hp hi hq b 0 r z w h1 hb (by omega) h4
    obtain ⟨qs', x', y', z2, w2, el, e'⟩ := outer_loop (A := A) (s := s) hp hq hbk hb hb0 m (stepR p back b m r) (qs.set m ((v * back) % p)) (.val (.int m)) (.val (.int ((v * back) % p))) z' w' (stepR_inn hp h1) (.inr (by rw [stepR_len]; omega)) (by simp; omega) (by rw [stepR_len]; exact h4)
    refine ⟨qs', x', y', z2, w2, by simpa using el, ?_⟩
    rw [Nat.add_zero, e9] at e
    show forGo (gN 6) _ (D.int m :: L (downI m)) _ s = _
    unfold forGo
    have e2 : ixN (L qs).length (m : Int) = some m := ixN_at (by simp; omega)
    have e6 : (L qs).set m (.int ((v * back) % p)) = L (qs.set m ((v * back) % p)) := by rw [L, L, List.map_set]
    have e7 : enumD 0 (L b) = enumI 0 b := enumD_L b 0
    have hl : (L b).length = b.length := by simp
    simp only [gN, List.set_cons_succ, List.set_cons_zero, a_sSeq, a_sSet, a_eOp, a_eBE, a_bOwn, a_eVar, a_eB, a_bOf, a_eC, List.getElem?_cons_succ, List.getElem?_cons_zero, b_ok, o_seqT, l_some, o_len, hl, o_addI, o_subI, e1, o_mulI e4, o_modI hp, s_ok, q_nx, a_sIx, sIxK, e2, e6, a_sFor, a_iEnE, e7]
    rw [e]
    exact e'
end K06
set_option Elab.async false
set_option linter.all false
set_option maxRecDepth 100000
set_option maxHeartbeats 4000000
namespace K06
open PySem PySem.Spec L2 Zp
theorem downs' (lo : Int) : downD lo (-1) = L (downI (lo + 1).toNat) := by
  by_cases h : 0 ≤ lo + 1
  · have e := downs (lo + 1).toNat
    rw [← e]
    congr 1
    omega
  · have e : (lo + 1).toNat = 0 := by omega
    rw [e]
    unfold downD
    have e2 : (lo - (-1)).toNat = 0 := by omega
    rw [e2]
    rfl
theorem rep0 {k : Nat} (h : k ≤ 10000) : dRepL [.int 0] (.int (k : Int)) = some (L (List.replicate k 0)) := by
  simp only [dRepL]
  rw [if_pos (by simp [szB]; omega), Int.toNat_natCast]
  congr 1
  show (List.replicate k [D.int 0]).flatten = _
  clear h
  induction k with
  | zero => rfl
  | succ k ih => rw [List.replicate_succ, List.flatten_cons, ih]; rfl
theorem dMax0 (x : Int) : dMax (.int 0) (.int x) = some (.int ((x.toNat : Nat) : Int)) := by
  show some (D.int (if x > 0 then x else 0)) = _
  by_cases h : x > 0
  · rw [if_pos h]; congr 2; omega
  · rw [if_neg h]; congr 2; omega
theorem lst1 (ρ : List Sv) (s : PenS) : oLst (aCons (eC (.int 0)) aNil) ρ s = .ok [.int 0] s := rfl
theorem rep_part {fb : EF} {ρ : List Sv} {s : PenS} {k : Int} {ds : List D} (h : fb ρ s = .ok (.int k) s) (h2 : dRepL [.int 0] (.int k) = some ds) : vOwn (oRep (oLst (aCons (eC (.int 0)) aNil)) fb) ρ s = .ok (.own ds) s := by
  rw [a_vOwn, a_oRep, lst1, b_ok, h, b_ok, h2, l_some, b_ok]
def remC (p : Int) (a ys : List Int) (z : Int) : List Int := trim (divR p (invT p z) (ys ++ [z]) (a.length + 1 - (ys ++ [z]).length) a)
theorem m_parts_eq {p : Int} {a ys : List Int} {z : Int} (s : PenS) (hp : P5 p) (ha : Inn p a) (hb : Inn p (ys ++ [z])) (hz : z ≠ 0) (la : a.length ≤ 100) (lb : ys.length ≤ 99) :
    ∃ qs, m_mod_parts [.int p, .tup (L a), .tup (L (ys ++ [z]))] s = .ok (.tup [.tup (L qs), .tup (L (remC p a ys z))]) s := by
  have hr := hp.rng
  have hz' := hb z (by simp)
  obtain ⟨i1, i2, i3⟩ := invT_ok (p := p) (a := z) hp (by omega) (by omega)
  have lenb : (ys ++ [z]).length = ys.length + 1 := by simp
  generalize hm : ((a.length : Int) - ((ys ++ [z]).length : Int) + 1).toNat = m
  have hm' : m = a.length + 1 - (ys ++ [z]).length := by omega
  obtain ⟨qs, x1, x2, x3, x4, el, e⟩ := outer_loop (p := p) (back := invT p z) (b := ys ++ [z]) (A := .val (.tup (L a))) (s := s) (by omega) (by omega) (by omega) hb (by simp) m a (List.replicate m 0) .no .no .no .no ha (by omega) (by simp) (by omega)
  have e1 : dIx (true, L (ys ++ [z])) (.int (-1)) = some (.int z) := dIx_last true ys z
  have e2 := m_inverse_eq (p := p) (a := z) s hp (by omega) (by omega)
  have e3 : rg3 (.int ((a.length : Int) - ((ys ++ [z]).length : Int))) (.int (-1)) (.int (-1)) = some (L (downI m)) := by
    rw [← hm, ← downs']
    simp only [rg3]
    rw [if_pos (by rw [rgB_of (by omega) (by omega), rgB_of (by omega) (by omega)]; rfl)]
  have e4 : dMax (.int 0) (.int ((a.length : Int) - ((ys ++ [z]).length : Int) + 1)) = some (.int (m : Int)) := by rw [dMax0, hm]
  have e5 := rep0 (k := m) (by omega)
  have hs : szB 2 = true := rfl
  have hs1 : szB 1 = true := rfl
  have hl : (L (ys ++ [z])).length = (ys ++ [z]).length := by simp
  have hl2 : (L a).length = a.length := by simp
  have t1 := m_trimmed_eq (d := .lst (L qs)) (b := false) (xs := qs) s rfl (by rw [el]; simp; omega)
  have t2 := m_trimmed_eq (d := .lst (L (divR p (invT p z) (ys ++ [z]) m a))) (b := false) (xs := divR p (invT p z) (ys ++ [z]) m a) s rfl (by rw [divR_len]; omega)
  refine ⟨trim qs, ?_⟩
  unfold remC
  rw [← hm']
  rw [m_mod_parts, m_run]
  simp only [List.map_cons, List.map_nil, List.length_cons, List.length_nil, List.cons_append, List.nil_append, Nat.reduceAdd, Nat.reduceSub, List.replicate, b_mod_parts]
  have hfb : (eOp dMax (eC (.int 0)) (eOp dAdd (eOp dSub (eB dLen (bOf (eVar 1))) (eB dLen (bOf (eVar 2)))) (eC (.int 1)))) [.val (.int p), .val (.tup (L a)), .val (.tup (L (ys ++ [z]))), .no, .no, .no, .no, .no, .no, .no] s = .ok (.int (m : Int)) s := by
    simp only [a_eOp, a_eC, a_eB, a_bOf, a_eVar, List.getElem?_cons_succ, List.getElem?_cons_zero, b_ok, o_seqT, l_some, o_len, hl, hl2, o_subI, o_addI, e4]
  have hva : vOwn (oB dListOf (bOf (eVar 1))) [.val (.int p), .val (.tup (L a)), .val (.tup (L (ys ++ [z]))), .no, .no, .no, .no, .no, .no, .no] s = .ok (.own (L a)) s := rfl
  rw [a_sSeq, a_sPar2, hva, s_ok, rep_part hfb e5, s_ok, q_nx]
  simp only [List.set_cons_succ, List.set_cons_zero]
  rw [a_sSeq, a_sSet]
  simp only [a_eCallD, a_aCons, a_aNil, a_eVar, List.getElem?_cons_succ, List.getElem?_cons_zero, b_ok, a_eBE, a_bOf, o_seqT, l_some, a_eUn, a_eC, o_negI, e1, List.append_nil, List.length_cons, List.length_nil, Nat.reduceAdd, if_true, e2, s_ok, q_nx, List.set_cons_succ, List.set_cons_zero]
  rw [a_sSeq, a_sFor]
  simp only [a_iRange3, a_eOp, a_eB, a_bOf, a_eVar, List.getElem?_cons_succ, List.getElem?_cons_zero, b_ok, o_seqT, l_some, o_len, hl, hl2, o_subI, a_eUn, a_eC, o_negI, e3, s_ok]
  rw [e]
  simp only [q_nx, a_sFrz, frz, List.getElem?_cons_succ, List.getElem?_cons_zero, List.set_cons_succ, List.set_cons_zero, a_sRet, a_eTup, a_aCons, a_aNil, a_eCallD, a_eVar, b_ok, List.append_nil, List.length_cons, List.length_nil, Nat.reduceAdd, if_true, t1, t2, hs, l_some, s_ok]
end K06
set_option Elab.async false
set_option linter.all false
set_option maxRecDepth 100000
set_option maxHeartbeats 4000000
namespace K06
open PySem PySem.Spec L2 Zp
theorem comp_enum {gf : GF} {fe : EF} {ρ : List Sv} {s : PenS} : ∀ (xs : List Int) (f : Nat → Int → Int) (k0 : Nat), (∀ k x, xs[k]? = some x → ∃ ρ1, gf (.tup [.int ((k0 + k : Nat) : Int), .int x]) ρ = some ρ1 ∧ fe ρ1 s = .ok (.int (f k x)) s) →
    compGo gf tYesF fe ρ (enumI k0 xs) s = .ok (L (xs.mapIdx f)) s
  | [], f, k0, _ => rfl
  | x :: xs, f, k0, h => by
    obtain ⟨ρ1, h1, h2⟩ := h 0 x rfl
    have ih := comp_enum (gf := gf) (fe := fe) (ρ := ρ) (s := s) xs (fun k => f (k + 1)) (k0 + 1) fun k y hy => by
      obtain ⟨ρ2, e1, e2⟩ := h (k + 1) y hy
      refine ⟨ρ2, ?_, e2⟩
      rw [← e1]
      congr 4
      omega
    show compGo gf tYesF fe ρ (.tup [.int (k0 : Int), .int x] :: enumI (k0 + 1) xs) s = _
    unfold compGo
    rw [show gf (.tup [.int (k0 : Int), .int x]) ρ = some ρ1 from h1]
    simp only [a_tYesF, x_ok, b_ok, if_true, h2, ih]
    rw [List.mapIdx_cons]
    rfl
theorem rangeI_nil {lo hi : Int} (h : hi ≤ lo) : rangeI lo hi = [] := by
  unfold rangeI
  have e : (hi - lo).toNat = 0 := by omega
  rw [e]
  rfl
theorem rangeI_cons {lo hi : Int} (h : lo < hi) : rangeI lo hi = lo :: rangeI (lo + 1) hi := by
  unfold rangeI
  have e : (hi - lo).toNat = (hi - (lo + 1)).toNat + 1 := by omega
  rw [e, List.range_succ_eq_map, List.map_cons, List.map_map]
  congr 1
  · simp
  · apply List.map_congr_left
    intro i _
    show lo + ((i + 1 : Nat) : Int) = lo + 1 + (i : Int)
    omega
theorem thenF {j : Nat} {f : SF} {ρ ρ' : List Sv} {s s' : PenS} (h : f ρ s = .nx ρ' s') : sThenF j f ρ s = .nx (frz j ρ') s' := by
  unfold sThenF
  rw [h]
abbrev lawBody : SF := (sSeq (sSet 9 (eOp dSub (eOp dSub (eB dLen (bOf (eVar 1))) (eB dLen (bOf (eVar 2)))) (eVar 8))) (sSeq (sSet 3 (eOp dMod (eUn dInt (eOp dMul (eBE dIx (bOf (eVar 4)) (eOp dSub (eOp dAdd (eVar 9) (eB dLen (bOf (eVar 2)))) (eC (.int 1)))) (eVar 7))) (eVar 0))) (sSeq (sSet 5 (eOp dAdd (eFrz (oLst (aCons (eVar 3) aNil))) (eVar 5))) (sThenF 4 (sSetO 4 (oComp [6, 10] (iEnE (eVar 4)) (gT [6, 10]) tYesF (eOp dMod (eUn dInt (eOp dSub (eVar 10) (eOp dMul (eVar 3) (eIf (tOf (eChain dLe dLt (eC (.int 0)) (eOp dSub (eVar 6) (eVar 9)) (eB dLen (bOf (eVar 2))))) (eBE dIx (bOf (eVar 2)) (eOp dSub (eVar 6) (eVar 9))) (eC (.int 0)))))) (eVar 0))))))))
theorem law_elem {p item x : Int} {b : List Int} {k at_ : Nat} {A B q bk lp : Sv} {s : PenS} (hp : 0 < p) (hq : p ≤ 31) (hi : 0 ≤ item ∧ item < p) (hb : Inn p b) (hx : 0 ≤ x ∧ x < p) :
    eOp dMod (eUn dInt (eOp dSub (eVar 10) (eOp dMul (eVar 3) (eIf (tOf (eChain dLe dLt (eC (.int 0)) (eOp dSub (eVar 6) (eVar 9)) (eB dLen (bOf (eVar 2))))) (eBE dIx (bOf (eVar 2)) (eOp dSub (eVar 6) (eVar 9))) (eC (.int 0)))))) (eVar 0)
      [.val (.int p), A, .val (.lst (L b)), .val (.int item), B, q, .val (.int (k : Int)), bk, lp, .val (.int (at_ : Int)), .val (.int x)] s
      = .ok (.int (if at_ ≤ k ∧ k < at_ + b.length then (x - item * b.getD (k - at_) 0) % p else x)) s := by
  have hl : (L b).length = b.length := by simp
  have m0 : mulOk item 0 = true := mulOk_sm (by omega) (by omega) (by omega) (by omega)
  by_cases h1 : at_ ≤ k
  · by_cases h2 : k < at_ + b.length
    · have hk : k - at_ < b.length := by omega
      have e3 : (k : Int) - (at_ : Int) = ((k - at_ : Nat) : Int) := by omega
      have e1 : dIx (false, L b) (.int ((k : Int) - (at_ : Int))) = some (.int b[k - at_]) := by rw [e3]; exact dIx_at false b _ hk
      have hbk := hb _ (List.getElem_mem hk)
      have e4 : mulOk item b[k - at_] = true := mulOk_sm (by omega) (by omega) (by omega) (by omega)
      have e5 : b.getD (k - at_) 0 = b[k - at_] := by simp [List.getElem?_eq_getElem hk]
      rw [if_pos ⟨h1, h2⟩, e5]
      have d1 : decide ((0 : Int) ≤ (k : Int) - (at_ : Int)) = true := decide_eq_true (by omega)
      have d2 : decide ((k : Int) - (at_ : Int) < (b.length : Int)) = true := decide_eq_true (by omega)
      simp only [a_eOp, a_eUn, a_eVar, List.getElem?_cons_succ, List.getElem?_cons_zero, b_ok, a_eIf, a_tOf, a_eChain, a_eC, o_subI, l_some, o_leI, d1, chain_t, a_eB, a_bOf, o_seqL, o_len, hl, o_ltI, d2, o_bool, if_true, a_eBE, e1, o_mulI e4, o_intI, o_modI hp]
    · rw [if_neg (by omega)]
      have d1 : decide ((0 : Int) ≤ (k : Int) - (at_ : Int)) = true := decide_eq_true (by omega)
      have d2 : decide ((k : Int) - (at_ : Int) < (b.length : Int)) = false := decide_eq_false (by omega)
      simp only [a_eOp, a_eUn, a_eVar, List.getElem?_cons_succ, List.getElem?_cons_zero, b_ok, a_eIf, a_tOf, a_eChain, a_eC, o_subI, l_some, o_leI, d1, chain_t, a_eB, a_bOf, o_seqL, o_len, hl, o_ltI, d2, o_bool, Bool.false_eq_true, if_false, o_mulI m0, o_intI, o_modI hp, Int.mul_zero, Int.sub_zero, Int.emod_eq_of_lt hx.1 hx.2]
  · rw [if_neg (by omega)]
    have d1 : decide ((0 : Int) ≤ (k : Int) - (at_ : Int)) = false := decide_eq_false (by omega)
    simp only [a_eOp, a_eUn, a_eVar, List.getElem?_cons_succ, List.getElem?_cons_zero, b_ok, a_eIf, a_tOf, a_eChain, a_eC, o_subI, l_some, o_leI, d1, chain_f, o_bool, Bool.false_eq_true, if_false, o_mulI m0, o_intI, o_modI hp, Int.mul_zero, Int.sub_zero, Int.emod_eq_of_lt hx.1 hx.2]
theorem law_loop {p back : Int} {a b : List Int} {s : PenS} {K X : Sv} (hp : 0 < p) (hq : p ≤ 31) (hbk : 0 ≤ back ∧ back < p) (hb : Inn p b) (hb0 : b ≠ []) (hla : a.length ≤ 100) (hlb : b.length ≤ 100) (M : Nat) (hM : b.length ≤ a.length → (M : Int) = (a.length : Int) - b.length + 1) : ∀ (m : Nat) (r qs : List Int) (it lp at_ : Sv), m ≤ M → Inn p r → (m = 0 ∨ (b.length ≤ a.length ∧ m + b.length ≤ r.length + 1)) → r.length ≤ 200 → qs.length + m ≤ 200 →
    ∃ it' lp' at' qs', qs'.length = qs.length + m ∧ forGo (gN 8) lawBody (L (rangeI ((M : Int) - m) M)) [.val (.int p), .val (.lst (L a)), .val (.lst (L b)), it, .val (.lst (L r)), .val (.lst (L qs)), K, .val (.int back), lp, at_, X] s
      = .nx [.val (.int p), .val (.lst (L a)), .val (.lst (L b)), it', .val (.lst (L (divR p back b m r))), .val (.lst (L qs')), K, .val (.int back), lp', at', X] s
  | 0, r, qs, it, lp, at_, _, _, _, _, _ => ⟨it, lp, at_, qs, rfl, by rw [rangeI_nil (by simp)]; rfl⟩
  | m + 1, r, qs, it, lp, at_, h0, h1, h2, h4, h5 => by
    have h2' : b.length ≤ a.length ∧ m + 1 + b.length ≤ r.length + 1 := by omega
    have hMM := hM h2'.1
    have hbl : 0 < b.length := List.length_pos_iff.mpr hb0
    have hk : m + b.length - 1 < r.length := by omega
    have hr := h1 r[m + b.length - 1] (List.getElem_mem _)
    have e5 : r.getD (m + b.length - 1) 0 = r[m + b.length - 1] := by simp [List.getElem?_eq_getElem hk]
    have e1 : dIx (false, L r) (.int ((m : Int) + (b.length : Int) - 1)) = some (.int r[m + b.length - 1]) := by
      have e3 : ((m : Int) + (b.length : Int) - 1) = ((m + b.length - 1 : Nat) : Int) := by omega
      rw [e3]
      exact dIx_at false r _ hk
    have es : stepR p back b m r = r.mapIdx fun k x => if m ≤ k ∧ k < m + b.length then (x - (r[m + b.length - 1] * back) % p * b.getD (k - m) 0) % p else x := by
      unfold stepR
      rw [e5]
    generalize hv : r[m + b.length - 1] = v at hr e1 es
    have e4 : mulOk v back = true := mulOk_sm (by omega) (by omega) (by omega) (by omega)
    have hi : 0 ≤ (v * back) % p ∧ (v * back) % p < p := ⟨Int.emod_nonneg _ (by omega), Int.emod_lt_of_pos _ hp⟩
    obtain ⟨it', lp', at', qs', el, e'⟩ := law_loop (K := K) (X := X) (s := s) hp hq hbk hb hb0 hla hlb M hM m (stepR p back b m r) ((v * back) % p :: qs) (.val (.int ((v * back) % p))) (.val (.int ((M : Int) - ((m + 1 : Nat) : Int)))) (.val (.int (m : Int))) (by omega) (stepR_inn hp h1) (.inr ⟨h2'.1, by rw [stepR_len]; omega⟩) (by rw [stepR_len]; exact h4) (by simp; omega)
    refine ⟨it', lp', at', qs', by rw [el]; simp; omega, ?_⟩
    rw [rangeI_cons (by omega)]
    have e8 : (M : Int) - ((m + 1 : Nat) : Int) + 1 = (M : Int) - (m : Int) := by omega
    rw [e8]
    show forGo (gN 8) lawBody (D.int ((M : Int) - ((m + 1 : Nat) : Int)) :: L (rangeI ((M : Int) - m) M)) _ s = _
    unfold forGo
    have e9 : (a.length : Int) - (b.length : Int) - ((M : Int) - ((m + 1 : Nat) : Int)) = (m : Int) := by omega
    have hl : (L b).length = b.length := by simp
    have hl2 : (L a).length = a.length := by simp
    have hs1 : szB 1 = true := rfl
    have hs2 : szB ([D.int ((v * back) % p)].length + (L qs).length) = true := szB_of (by simp; omega)
    have hadd : dAdd (.lst [.int ((v * back) % p)]) (.lst (L qs)) = some (.lst (L ((v * back) % p :: qs))) := if_pos hs2
    have hen : enumD 0 (L r) = enumI 0 r := enumD_L r 0
    have hsz : szB (enumI 0 r).length = true := szB_of (by
      rw [← hen]
      have : ∀ (xs : List Int) (k : Nat), (enumI k xs).length = xs.length := fun xs => by
        induction xs with
        | nil => intro k; rfl
        | cons y ys ih => intro k; simp [enumI, ih]
      rw [hen, this]
      omega)
    have hcomp := comp_enum (gf := gT [6, 10]) (fe := eOp dMod (eUn dInt (eOp dSub (eVar 10) (eOp dMul (eVar 3) (eIf (tOf (eChain dLe dLt (eC (.int 0)) (eOp dSub (eVar 6) (eVar 9)) (eB dLen (bOf (eVar 2))))) (eBE dIx (bOf (eVar 2)) (eOp dSub (eVar 6) (eVar 9))) (eC (.int 0)))))) (eVar 0))
      (ρ := [.val (.int p), .val (.lst (L a)), .val (.lst (L b)), .val (.int ((v * back) % p)), .val (.lst (L r)), .val (.lst (L ((v * back) % p :: qs))), .no, .val (.int back), .val (.int ((M : Int) - ((m + 1 : Nat) : Int))), .val (.int (m : Int)), .no]) (s := s) r
      (fun k x => if m ≤ k ∧ k < m + b.length then (x - (v * back) % p * b.getD (k - m) 0) % p else x) 0 fun k x hx => ⟨_, rfl, by
        rw [Nat.zero_add]
        exact law_elem hp hq hi hb (h1 x (List.mem_of_getElem? hx))⟩
    rw [← es] at hcomp
    have hthen : sThenF 4 (sSetO 4 (oComp [6, 10] (iEnE (eVar 4)) (gT [6, 10]) tYesF (eOp dMod (eUn dInt (eOp dSub (eVar 10) (eOp dMul (eVar 3) (eIf (tOf (eChain dLe dLt (eC (.int 0)) (eOp dSub (eVar 6) (eVar 9)) (eB dLen (bOf (eVar 2))))) (eBE dIx (bOf (eVar 2)) (eOp dSub (eVar 6) (eVar 9))) (eC (.int 0)))))) (eVar 0)))) [.val (.int p), .val (.lst (L a)), .val (.lst (L b)), .val (.int ((v * back) % p)), .val (.lst (L r)), .val (.lst (L ((v * back) % p :: qs))), K, .val (.int back), .val (.int ((M : Int) - ((m + 1 : Nat) : Int))), .val (.int (m : Int)), X] s
      = .nx [.val (.int p), .val (.lst (L a)), .val (.lst (L b)), .val (.int ((v * back) % p)), .val (.lst (L (stepR p back b m r))), .val (.lst (L ((v * back) % p :: qs))), K, .val (.int back), .val (.int ((M : Int) - ((m + 1 : Nat) : Int))), .val (.int (m : Int)), X] s := by
      refine thenF (ρ' := [.val (.int p), .val (.lst (L a)), .val (.lst (L b)), .val (.int ((v * back) % p)), .own (L (stepR p back b m r)), .val (.lst (L ((v * back) % p :: qs))), K, .val (.int back), .val (.int ((M : Int) - ((m + 1 : Nat) : Int))), .val (.int (m : Int)), X]) ?_
      rw [a_sSetO, a_oComp]
      simp only [a_iEnE, a_eVar, List.getElem?_cons_succ, List.getElem?_cons_zero, b_ok, hen, hsz, if_true, wipeS, List.set_cons_succ, List.set_cons_zero]
      rw [hcomp, s_ok]
    simp only [gN, List.set_cons_succ, List.set_cons_zero, a_sSeq, a_sSet, a_eOp, a_eB, a_bOf, a_eVar, List.getElem?_cons_succ, List.getElem?_cons_zero, b_ok, o_seqL, l_some, o_len, hl, hl2, o_subI, e9, s_ok, q_nx, a_eUn, a_eBE, o_addI, a_eC, e1, o_mulI e4, o_intI, o_modI hp, a_eFrz, a_oLst, a_aCons, a_aNil, List.length_cons, List.length_nil, Nat.reduceAdd, hs1, if_true, hadd, hthen]
    exact e'
end K06
set_option Elab.async false
set_option linter.all false
set_option maxRecDepth 100000
set_option maxHeartbeats 4000000
namespace K06
open PySem PySem.Spec L2 Zp
def invs (p z : Int) : List Int := (rangeI 1 p).filter fun k => (k * z) % p == 1
theorem invs_head {p z : Int} (hp : P5 p) (h1 : 0 < z) (h2 : z < p) : (invs p z)[0]? = some (invT p z) :=
  units (fun p a => (invs p a)[0]? = some (invT p a)) (by decide +kernel) (by decide +kernel) (by decide +kernel) (by decide +kernel) (by decide +kernel) hp h1 h2
theorem dIx_0 {b : Bool} {xs : List Int} {x : Int} (h : xs[0]? = some x) : dIx (b, L xs) (.int 0) = some (.int x) := by
  cases xs with
  | nil => cases h
  | cons y ys =>
    obtain rfl : y = x := Option.some.inj h
    exact dIx_at b (y :: ys) 0 (by simp)
theorem search_comp {p z : Int} {ρ : List Sv} {s : PenS} {gf : GF} {ft : TF} {fe : EF} (h : ∀ k, 1 ≤ k → k < p → ∃ ρ1, gf (.int k) ρ = some ρ1 ∧ ft ρ1 s = .ok ((k * z) % p == 1) s ∧ fe ρ1 s = .ok (.int k) s) :
    compGo gf ft fe ρ (L (rangeI 1 p)) s = .ok (L (invs p z)) s := by
  have e := comp_ints (gf := gf) (ft := ft) (fe := fe) (ρ := ρ) (s := s) (fun k => (k * z) % p == 1) id (rangeI 1 p) fun k hk => by
    obtain ⟨k1, k2⟩ := mem_rangeI.mp hk
    obtain ⟨ρ1, h1, h2, h3⟩ := h k k1 k2
    exact ⟨ρ1, h1, h2, fun _ => h3⟩
  rw [List.map_id] at e
  exact e
theorem map_mod {p : Int} {a : List Int} (ha : Inn p a) : a.map (fun x => x % p) = a := by
  induction a with
  | nil => rfl
  | cons x xs ih =>
    rw [List.map_cons, ih fun y hy => ha y (List.mem_cons_of_mem _ hy), Int.emod_eq_of_lt (ha x List.mem_cons_self).1 (ha x List.mem_cons_self).2]
theorem m_rest_eq {p : Int} {a ys : List Int} {z : Int} (s : PenS) (hp : P5 p) (ha : Inn p a) (hb : Inn p (ys ++ [z])) (hz : z ≠ 0) (la : a.length ≤ 100) (lb : ys.length ≤ 99) :
    ∃ qs, m_l_law_m_rest [.int p, .lst (L a), .lst (L (ys ++ [z]))] s = .ok (.tup [.lst (L qs), .lst (L (remC p a ys z))]) s := by
  have hr := hp.rng
  have hz' := hb z (by simp)
  obtain ⟨i1, i2, i3⟩ := invT_ok (p := p) (a := z) hp (by omega) (by omega)
  have lenb : (ys ++ [z]).length = ys.length + 1 := by simp
  generalize hm : ((a.length : Int) - ((ys ++ [z]).length : Int) + 1).toNat = m
  have hm' : m = a.length + 1 - (ys ++ [z]).length := by omega
  obtain ⟨it, lp, at_, qs, el, e⟩ := law_loop (p := p) (back := invT p z) (a := a) (b := ys ++ [z]) (s := s) (K := .no) (X := .no) (by omega) (by omega) (by omega) hb (by simp) la (by omega) m (by omega) m a [] .no .no .no (by omega) ha (by omega) (by omega) (by simp; omega)
  have e0 : (m : Int) - (m : Int) = 0 := by omega
  rw [e0] at e
  have e1 : dIx (false, L (ys ++ [z])) (.int (-1)) = some (.int z) := dIx_last false ys z
  have hs : szB 2 = true := rfl
  have hl : (L (ys ++ [z])).length = (ys ++ [z]).length := by simp
  have hl2 : (L a).length = a.length := by simp
  have hsa : szB a.length = true := szB_of (by omega)
  have c1 := comp_map (gf := gN 3) (fe := eOp dMod (eUn dInt (eVar 3)) (eVar 0)) (ρ := [.val (.int p), .val (.lst (L a)), .val (.lst (L (ys ++ [z]))), .no, .no, .no, .no, .no, .no, .no, .no]) (s := s) (fun x => x % p) a fun x hx => ⟨_, rfl, by
    simp only [a_eOp, a_eUn, a_eVar, List.set_cons_succ, List.set_cons_zero, List.getElem?_cons_succ, List.getElem?_cons_zero, b_ok, o_intI, l_some, o_modI (show 0 < p by omega)]⟩
  rw [map_mod ha] at c1
  have c2 := search_comp (p := p) (z := z) (gf := gN 6) (ft := tOf (eOp dEq (eOp dMod (eUn dInt (eOp dMul (eVar 6) (eBE dIx (bOf (eVar 2)) (eUn dNeg (eC (.int 1)))))) (eVar 0)) (eC (.int 1)))) (fe := eVar 6)
    (ρ := [.val (.int p), .val (.lst (L a)), .val (.lst (L (ys ++ [z]))), .no, .val (.lst (L a)), .val (.lst (L [])), .no, .no, .no, .no, .no]) (s := s) fun k k1 k2 => ⟨_, rfl, by
      simp only [a_tOf, a_eOp, a_eUn, a_eVar, a_eBE, a_bOf, a_eC, List.set_cons_succ, List.set_cons_zero, List.getElem?_cons_succ, List.getElem?_cons_zero, b_ok, o_seqL, l_some, o_negI, e1, o_mulI (mulOk_sm (i := k) (j := z) (by omega) (by omega) (by omega) (by omega)), o_intI, o_modI (show 0 < p by omega), dEq_int, o_bool]
      rfl, rfl⟩
  have r1 : rg2 (.int 1) (.int p) = some (L (rangeI 1 p)) := rg2_of rfl (rgB_of (by omega) (by omega))
  have r2 : rg2 (.int 0) (.int ((a.length : Int) - ((ys ++ [z]).length : Int) + 1)) = some (L (rangeI 0 m)) := by
    rw [rg2_of rfl (rgB_of (by omega) (by omega))]
    congr 2
    by_cases h : (ys ++ [z]).length ≤ a.length
    · congr 1; omega
    · rw [rangeI_nil (by omega), rangeI_nil (by omega)]
  have hsr : szB (L (rangeI 1 p)).length = true := szB_of (by
    have : (L (rangeI 1 p)).length = (p - 1).toNat := by simp [rangeI]
    omega)
  have hd := dIx_0 (b := false) (invs_head (p := p) (z := z) hp (by omega) (by omega))
  have d2 : decide (2 < p) = true := decide_eq_true (by omega)
  have t1 := m_cut_eq (d := .lst (L qs)) (b := false) (xs := qs) s rfl (by rw [el]; simp; omega)
  have t2 := m_cut_eq (d := .lst (L (divR p (invT p z) (ys ++ [z]) m a))) (b := false) (xs := divR p (invT p z) (ys ++ [z]) m a) s rfl (by rw [divR_len]; omega)
  have hs0 : szB 0 = true := rfl
  refine ⟨trim qs, ?_⟩
  unfold remC
  rw [← hm']
  rw [m_l_law_m_rest, m_run]
  simp only [List.map_cons, List.map_nil, List.length_cons, List.length_nil, List.cons_append, List.nil_append, Nat.reduceAdd, Nat.reduceSub, List.replicate, b_l_law_m_rest]
  rw [a_sSeq, a_sPar2]
  simp only [a_vVal, a_eFrz, a_oComp, a_iEB, a_eVar, List.getElem?_cons_succ, List.getElem?_cons_zero, b_ok, hl2, hsa, if_true, wipeS, List.set_cons_succ, List.set_cons_zero, c1, s_ok, a_oLst, a_aNil, List.length_nil, hs0, l_some, q_nx]
  rw [a_sSeq, a_sSet]
  simp only [a_eIf, a_tOf, a_eOp, a_eC, a_eVar, List.getElem?_cons_succ, List.getElem?_cons_zero, b_ok, o_gtI, l_some, d2, o_bool, if_true, a_eBE, a_bNew, a_oComp, a_iRange2, r1, hsr, wipeS, List.set_cons_succ, List.set_cons_zero]
  rw [show (Sv.val (D.lst [])) = Sv.val (D.lst (L [])) from rfl, c2]
  simp only [b_ok, hd, l_some, s_ok, q_nx, List.set_cons_succ, List.set_cons_zero]
  rw [a_sSeq, a_sFor]
  simp only [a_iRange1, a_eOp, a_eB, a_bOf, a_eVar, a_eC, List.getElem?_cons_succ, List.getElem?_cons_zero, b_ok, o_seqL, l_some, o_len, hl, hl2, o_subI, o_addI, r2, s_ok]
  rw [e]
  simp only [q_nx, a_sRet, a_eTup, a_aCons, a_aNil, a_eCallD, a_eVar, List.getElem?_cons_succ, List.getElem?_cons_zero, b_ok, List.append_nil, List.length_cons, List.length_nil, Nat.reduceAdd, if_true, t1, t2, hs, l_some, s_ok]
end K06
set_option Elab.async false
set_option linter.all false
set_option maxRecDepth 100000
set_option maxHeartbeats 4000000
namespace K06
open PySem PySem.Spec L2 Zp
theorem top_zero {p x back z : Int} (h : (back * z) % p = 1) : (x - (x * back) % p * z) % p = 0 := by
  apply Int.emod_eq_emod_iff_emod_sub_eq_zero.mp
  rw [Int.mul_emod, Int.emod_emod, ← Int.mul_emod, Int.mul_assoc, Int.mul_emod, h, Int.mul_one, Int.emod_emod]
def Zab (n : Nat) (xs : List Int) : Prop := ∀ k, n ≤ k → ∀ x, xs[k]? = some x → x = 0
theorem divR_zab {p back z : Int} {ys : List Int} (hi : (back * z) % p = 1) : ∀ (m : Nat) (rest : List Int), Zab (m + ys.length) rest → Zab ys.length (divR p back (ys ++ [z]) m rest)
  | 0, rest, h => by
    rw [Nat.zero_add] at h
    exact h
  | m + 1, rest, h => by
    refine divR_zab hi m _ fun k hk x hx => ?_
    unfold stepR at hx
    rw [List.getElem?_mapIdx] at hx
    obtain ⟨y, hy, rfl⟩ := Option.map_eq_some_iff.mp hx
    have hl : (ys ++ [z]).length = ys.length + 1 := by simp
    by_cases h1 : k = m + ys.length
    · subst h1
      rw [if_pos (by omega)]
      have e1 : rest.getD (m + (ys ++ [z]).length - 1) 0 = y := by
        rw [hl]
        show rest.getD (m + ys.length) 0 = y
        simp [hy]
      have e2 : (ys ++ [z]).getD (m + ys.length - m) 0 = z := by
        have : m + ys.length - m = ys.length := by omega
        rw [this]
        simp
      rw [e1, e2]
      exact top_zero hi
    · rw [if_neg (by omega)]
      exact h k (by omega) y hy
theorem trim_len : ∀ (n : Nat) (xs : List Int), xs.length ≤ n → ∀ m, Zab m xs → (trim xs).length ≤ m
  | n, xs, hn, m, h => by
    rcases snoc_cases xs with rfl | ⟨ys, z, rfl⟩
    · simp
    · rw [trim_snoc]
      by_cases hz : z = 0
      · rw [if_pos hz]
        match n with
        | 0 => simp at hn
        | n + 1 =>
          refine trim_len n ys (by simp at hn; omega) m fun k hk x hx => h k hk x ?_
          rw [List.getElem?_append_left (List.getElem?_eq_some_iff.mp hx).1]
          exact hx
      · rw [if_neg hz]
        simp
        by_cases hm : m ≤ ys.length
        · exact absurd (h ys.length hm z (by simp)) hz
        · omega
theorem trim_mem : ∀ (n : Nat) (xs : List Int), xs.length ≤ n → ∀ x ∈ trim xs, x ∈ xs
  | n, xs, hn, x, hx => by
    rcases snoc_cases xs with rfl | ⟨ys, z, rfl⟩
    · simp at hx
    · rw [trim_snoc] at hx
      by_cases hz : z = 0
      · rw [if_pos hz] at hx
        match n with
        | 0 => simp at hn
        | n + 1 => exact List.mem_append_left _ (trim_mem n ys (by simp at hn; omega) x hx)
      · rw [if_neg hz] at hx
        exact hx
/-- no trailing zero -/
def Tr (xs : List Int) : Prop := xs = [] ∨ ∃ ys z, xs = ys ++ [z] ∧ z ≠ 0
theorem trim_tr : ∀ (n : Nat) (xs : List Int), xs.length ≤ n → Tr (trim xs)
  | n, xs, hn => by
    rcases snoc_cases xs with rfl | ⟨ys, z, rfl⟩
    · exact .inl rfl
    · rw [trim_snoc]
      by_cases hz : z = 0
      · rw [if_pos hz]
        match n with
        | 0 => simp at hn
        | n + 1 => exact trim_tr n ys (by simp at hn; omega)
      · rw [if_neg hz]
        exact .inr ⟨ys, z, rfl, hz⟩
theorem remC_ok {p : Int} {a ys : List Int} {z : Int} (hp : P5 p) (ha : Inn p a) (hz : 0 < z) (hz2 : z < p) : Tr (remC p a ys z) ∧ Inn p (remC p a ys z) ∧ (remC p a ys z).length ≤ ys.length := by
  have hr := hp.rng
  obtain ⟨i1, i2, i3⟩ := invT_ok (p := p) (a := z) hp (by omega) (by omega)
  refine ⟨trim_tr _ _ (Nat.le_refl _), fun x hx => divR_inn (by omega) _ _ ha x (trim_mem _ _ (Nat.le_refl _) x hx), trim_len _ _ (Nat.le_refl _) _ (divR_zab i3 _ _ fun k hk x hx => ?_)⟩
  have hk2 := (List.getElem?_eq_some_iff.mp hx).1
  simp at hk
  omega
/-- Euclid's way -/
def gcdC (p : Int) : Nat → List Int → List Int → List Int
  | 0, a, _ => a
  | n + 1, a, b => if b = [] then a else gcdC p n b (remC p a b.dropLast (b.getLastD 0))
theorem gcdC_snoc {p : Int} {n : Nat} {a ys : List Int} {z : Int} : gcdC p (n + 1) a (ys ++ [z]) = gcdC p n (ys ++ [z]) (remC p a ys z) := by
  show (if ys ++ [z] = [] then a else gcdC p n (ys ++ [z]) (remC p a (ys ++ [z]).dropLast ((ys ++ [z]).getLastD 0))) = _
  rw [if_neg (by simp)]
  simp
theorem shared_loop {p : Int} {s : PenS} (hp : P5 p) : ∀ (n : Nat) (a b : List Int), b.length < n → Inn p a → Inn p b → Tr b → a.length ≤ 100 → b.length ≤ 100 →
    ∃ b', whileN (tOf (eOp dGt (eB dLen (bOf (eVar 2))) (eC (.int 0)))) (sPar2 1 2 (vVal (eVar 2)) (vVal (eBE dIx (bOf (eCallD 3 m_mod_parts [] (aCons (eVar 0) (aCons (eVar 1) (aCons (eVar 2) aNil))))) (eC (.int 1))))) n [.val (.int p), .val (.tup (L a)), .val (.tup (L b))] s
      = .nx [.val (.int p), .val (.tup (L (gcdC p n a b))), b'] s
  | 0, a, b, h, _, _, _, _, _ => by omega
  | n + 1, a, b, h, ha, hb, ht, la, lb => by
    rcases ht with rfl | ⟨ys, z, rfl, hz⟩
    · exact ⟨.val (.tup (L [])), by simp [whileN, gcdC]⟩
    · have hz' := hb z (by simp)
      have hl : (L (ys ++ [z])).length = (ys ++ [z]).length := by simp
      have hlb : (ys ++ [z]).length = ys.length + 1 := by simp
      obtain ⟨r1, r2, r3⟩ := remC_ok (p := p) (a := a) (ys := ys) (z := z) hp ha (by omega) (by omega)
      obtain ⟨qs, e⟩ := m_parts_eq (p := p) (a := a) (ys := ys) (z := z) s hp ha hb hz la (by omega)
      obtain ⟨b', ih⟩ := shared_loop (s := s) hp n (ys ++ [z]) (remC p a ys z) (by omega) hb r2 r1 lb (by omega)
      refine ⟨b', ?_⟩
      rw [gcdC_snoc, ← ih]
      have d : decide ((0 : Int) < ((ys ++ [z]).length : Int)) = true := decide_eq_true (by omega)
      have e1 : dIx (true, [D.tup (L qs), D.tup (L (remC p a ys z))]) (.int 1) = some (.tup (L (remC p a ys z))) := rfl
      conv => lhs; unfold whileN
      simp only [a_tOf, a_eOp, a_eB, a_bOf, a_eVar, a_eC, List.getElem?_cons_succ, List.getElem?_cons_zero, b_ok, o_seqT, l_some, o_len, hl, o_gtI, d, o_bool, s_ok, if_true, a_sPar2, a_vVal, a_eBE, a_eCallD, a_aCons, a_aNil, List.append_nil, List.length_cons, List.length_nil, Nat.reduceAdd, e, e1, List.set_cons_succ, List.set_cons_zero]
theorem common_loop {p : Int} {s : PenS} {k c i : Sv} (hp : P5 p) : ∀ (n : Nat) (a b : List Int), b.length < n → Inn p a → Inn p b → Tr b → a.length ≤ 100 → b.length ≤ 100 →
    ∃ b', whileN (tOf (eOp dNe (eVar 2) (eFrz (oLst aNil)))) (sAsg (eTup (aCons (eVar 2) (aCons (eBE dIx (bOf (eCallD 3 m_l_law_m_rest [] (aCons (eVar 0) (aCons (eVar 1) (aCons (eVar 2) aNil))))) (eC (.int 1))) aNil))) (gT [1, 2])) n [.val (.int p), .val (.lst (L a)), .val (.lst (L b)), k, c, i] s
      = .nx [.val (.int p), .val (.lst (L (gcdC p n a b))), b', k, c, i] s
  | 0, a, b, h, _, _, _, _, _ => by omega
  | n + 1, a, b, h, ha, hb, ht, la, lb => by
    have hs0 : szB 0 = true := rfl
    have hs2 : szB 2 = true := rfl
    rcases ht with rfl | ⟨ys, z, rfl, hz⟩
    · have d0 : dNe (.lst (L [])) (.lst []) = some (.bl false) := dNe_nil (a := [])
      refine ⟨.val (.lst (L [])), ?_⟩
      conv => lhs; unfold whileN
      simp only [a_tOf, a_eOp, a_eFrz, a_oLst, a_aNil, a_eVar, List.getElem?_cons_succ, List.getElem?_cons_zero, b_ok, List.length_nil, hs0, if_true, l_some, d0, o_bool, s_ok, Bool.false_eq_true, if_false, gcdC]
    · have hz' := hb z (by simp)
      have hlb : (ys ++ [z]).length = ys.length + 1 := by simp
      obtain ⟨r1, r2, r3⟩ := remC_ok (p := p) (a := a) (ys := ys) (z := z) hp ha (by omega) (by omega)
      obtain ⟨qs, e⟩ := m_rest_eq (p := p) (a := a) (ys := ys) (z := z) s hp ha hb hz la (by omega)
      obtain ⟨b', ih⟩ := common_loop (s := s) (k := k) (c := c) (i := i) hp n (ys ++ [z]) (remC p a ys z) (by omega) hb r2 r1 lb (by omega)
      refine ⟨b', ?_⟩
      rw [gcdC_snoc, ← ih]
      have d : dNe (.lst (L (ys ++ [z]))) (.lst []) = some (.bl true) := by
        rw [dNe_nil (a := ys ++ [z])]
        simp
      have e1 : dIx (true, [D.lst (L qs), D.lst (L (remC p a ys z))]) (.int 1) = some (.lst (L (remC p a ys z))) := rfl
      conv => lhs; unfold whileN
      simp only [a_tOf, a_eOp, a_eFrz, a_oLst, a_aNil, a_eVar, a_bOf, a_eC, List.getElem?_cons_succ, List.getElem?_cons_zero, b_ok, o_seqT, List.length_nil, hs0, if_true, l_some, d, o_bool, s_ok, a_sAsg, a_eTup, a_aCons, a_eBE, a_eCallD, List.append_nil, List.length_cons, Nat.reduceAdd, e, e1, hs2, gT, gNs, List.set_cons_succ, List.set_cons_zero]
end K06
set_option Elab.async false
set_option linter.all false
set_option maxRecDepth 100000
set_option maxHeartbeats 4000000
namespace K06
open PySem PySem.Spec L2 Zp
theorem gcdC_ok {p : Int} (hp : P5 p) : ∀ (n : Nat) (a b : List Int), Inn p a → Tr a → a ≠ [] → a.length ≤ 100 → Inn p b → Tr b → b.length ≤ 100 → Inn p (gcdC p n a b) ∧ Tr (gcdC p n a b) ∧ gcdC p n a b ≠ [] ∧ (gcdC p n a b).length ≤ 100
  | 0, a, b, h1, h2, h3, h4, _, _, _ => ⟨h1, h2, h3, h4⟩
  | n + 1, a, b, h1, h2, h3, h4, h5, h6, h7 => by
    rcases h6 with rfl | ⟨ys, z, rfl, hz⟩
    · exact ⟨h1, h2, h3, h4⟩
    · have hz' := h5 z (by simp)
      have hlb : (ys ++ [z]).length = ys.length + 1 := by simp
      obtain ⟨r1, r2, r3⟩ := remC_ok (p := p) (a := a) (ys := ys) (z := z) hp h1 (by omega) (by omega)
      rw [gcdC_snoc]
      exact gcdC_ok hp n (ys ++ [z]) (remC p a ys z) h5 (.inr ⟨ys, z, rfl, hz⟩) (by simp) h7 r2 r1 (by omega)
theorem m_monic_eq {p : Int} {ys : List Int} {z : Int} (s : PenS) (hp : P5 p) (ha : Inn p (ys ++ [z])) (hz : z ≠ 0) (la : ys.length ≤ 99) : ∃ gs : List Int, gs.length = ys.length + 1 ∧ m_mod_monic [.int p, .tup (L (ys ++ [z]))] s = .ok (.tup (L gs)) s := by
  have hr := hp.rng
  have hz' := ha z (by simp)
  obtain ⟨i1, i2, i3⟩ := invT_ok (p := p) (a := z) hp (by omega) (by omega)
  have e1 : dIx (true, L (ys ++ [z])) (.int (-1)) = some (.int z) := dIx_last true ys z
  have e2 := m_inverse_eq (p := p) (a := z) s hp (by omega) (by omega)
  have hl : (L (ys ++ [z])).length = (ys ++ [z]).length := by simp
  have hlb : (ys ++ [z]).length = ys.length + 1 := by simp
  have hsa : szB (ys ++ [z]).length = true := szB_of (by omega)
  have d0 : decide (((ys ++ [z]).length : Int) = 0) = false := decide_eq_false (by omega)
  have c1 := comp_map (gf := gN 3) (fe := eOp dMod (eOp dMul (eVar 3) (eVar 2)) (eVar 0)) (ρ := [.val (.int p), .val (.tup (L (ys ++ [z]))), .val (.int (invT p z)), .no]) (s := s) (fun x => (x * invT p z) % p) (ys ++ [z]) fun x hx => ⟨_, rfl, by
    have hx' := ha x hx
    simp only [a_eOp, a_eVar, List.set_cons_succ, List.set_cons_zero, List.getElem?_cons_succ, List.getElem?_cons_zero, b_ok, o_mulI (mulOk_sm (i := x) (j := invT p z) (by omega) (by omega) (by omega) (by omega)), l_some, o_modI (show 0 < p by omega)]⟩
  refine ⟨(ys ++ [z]).map fun x => (x * invT p z) % p, by simp, ?_⟩
  rw [m_mod_monic, m_run]
  simp only [List.map_cons, List.map_nil, List.length_cons, List.length_nil, List.cons_append, List.nil_append, Nat.reduceAdd, Nat.reduceSub, List.replicate, b_mod_monic]
  simp only [a_sSeq, a_sIf, a_tOf, a_eOp, a_eB, a_bOf, a_eVar, a_eC, List.getElem?_cons_succ, List.getElem?_cons_zero, b_ok, o_seqT, l_some, o_len, hl, dEq_int, d0, o_bool, s_ok, Bool.false_eq_true, if_false, a_sNil, q_nx, a_sSet, a_eCallD, a_aCons, a_aNil, a_eBE, a_eUn, o_negI, e1, List.append_nil, List.length_cons, List.length_nil, Nat.reduceAdd, if_true, e2, List.set_cons_succ, List.set_cons_zero, a_sRet, a_bNew, a_oComp, a_iEB, hsa, wipeS, c1, o_tupOf]
theorem tr_snoc {xs : List Int} (h : Tr xs) (h0 : xs ≠ []) : ∃ ys z, xs = ys ++ [z] ∧ z ≠ 0 := h.resolve_left h0
/-- how long the shared part is -/
def shLen (p : Int) (a b : List Int) : Nat := (gcdC p 1000 a b).length
theorem m_shared_eq {p : Int} {a b : List Int} (s : PenS) (hp : P5 p) (ha : Inn p a) (hta : Tr a) (h0 : a ≠ []) (la : a.length ≤ 100) (hb : Inn p b) (htb : Tr b) (lb : b.length ≤ 100) :
    ∃ gs : List Int, gs.length = shLen p a b ∧ m_mod_shared [.int p, .tup (L a), .tup (L b)] s = .ok (.tup (L gs)) s := by
  obtain ⟨b', e⟩ := shared_loop (s := s) hp 1000 a b (by omega) ha hb htb la lb
  obtain ⟨g1, g2, g3, g4⟩ := gcdC_ok hp 1000 a b ha hta h0 la hb htb lb
  obtain ⟨ys, z, hg, hz⟩ := tr_snoc g2 g3
  unfold shLen
  rw [hg] at g1 g4 e ⊢
  have hlb : (ys ++ [z]).length = ys.length + 1 := by simp
  obtain ⟨gs, e1, e2⟩ := m_monic_eq (p := p) (ys := ys) (z := z) s hp g1 hz (by omega)
  refine ⟨gs, by rw [e1, hlb], ?_⟩
  rw [m_mod_shared, m_run]
  simp only [List.map_cons, List.map_nil, List.length_cons, List.length_nil, List.cons_append, List.nil_append, Nat.reduceAdd, Nat.reduceSub, List.replicate, b_mod_shared, FU]
  rw [a_sSeq, a_sWhile, e]
  simp only [q_nx, a_sRet, a_eCallD, a_aCons, a_aNil, a_eVar, List.getElem?_cons_succ, List.getElem?_cons_zero, b_ok, List.append_nil, List.length_cons, List.length_nil, Nat.reduceAdd, if_true, e2, s_ok]
end K06
set_option Elab.async false
set_option linter.all false
set_option maxRecDepth 100000
set_option maxHeartbeats 4000000
namespace K06
open PySem PySem.Spec L2 Zp
theorem m_common_eq {p : Int} {a b : List Int} (s : PenS) (hp : P5 p) (ha : Inn p a) (hta : Tr a) (h0 : a ≠ []) (la : a.length ≤ 100) (hb : Inn p b) (htb : Tr b) (lb : b.length ≤ 100) :
    ∃ gs : List Int, gs.length = shLen p a b ∧ m_l_law_m_common [.int p, .lst (L a), .lst (L b)] s = .ok (.lst (L gs)) s := by
  have hr := hp.rng
  obtain ⟨b', e⟩ := common_loop (s := s) (k := .no) (c := .no) (i := .no) hp 1000 a b (by omega) ha hb htb la lb
  obtain ⟨g1, g2, g3, g4⟩ := gcdC_ok hp 1000 a b ha hta h0 la hb htb lb
  obtain ⟨ys, z, hg, hz⟩ := tr_snoc g2 g3
  unfold shLen
  rw [hg] at g1 g4 e ⊢
  have hz' := g1 z (by simp)
  obtain ⟨i1, i2, i3⟩ := invT_ok (p := p) (a := z) hp (by omega) (by omega)
  have hlb : (ys ++ [z]).length = ys.length + 1 := by simp
  have hl : (L (ys ++ [z])).length = (ys ++ [z]).length := by simp
  have hsa : szB (ys ++ [z]).length = true := szB_of (by omega)
  have hs0 : szB 0 = true := rfl
  have hs2 : szB 2 = true := rfl
  have e1 : dIx (false, L (ys ++ [z])) (.int (-1)) = some (.int z) := dIx_last false ys z
  have d : dEq (.lst (L (ys ++ [z]))) (.lst []) = some (.bl false) := by
    rw [dEq_nil (a := ys ++ [z])]
    simp
  have c2 := search_comp (p := p) (z := z) (gf := gN 3) (ft := tOf (eOp dEq (eOp dMod (eUn dInt (eOp dMul (eVar 3) (eBE dIx (bOf (eVar 1)) (eUn dNeg (eC (.int 1)))))) (eVar 0)) (eC (.int 1)))) (fe := eVar 3)
    (ρ := [.val (.int p), .val (.lst (L (ys ++ [z]))), b', .no, .no, .no]) (s := s) fun k k1 k2 => ⟨_, rfl, by
      simp only [a_tOf, a_eOp, a_eUn, a_eVar, a_eBE, a_bOf, a_eC, List.set_cons_succ, List.set_cons_zero, List.getElem?_cons_succ, List.getElem?_cons_zero, b_ok, o_seqL, l_some, o_negI, e1, o_mulI (mulOk_sm (i := k) (j := z) (by omega) (by omega) (by omega) (by omega)), o_intI, o_modI (show 0 < p by omega), dEq_int, o_bool]
      rfl, rfl⟩
  have r1 : rg2 (.int 1) (.int p) = some (L (rangeI 1 p)) := rg2_of rfl (rgB_of (by omega) (by omega))
  have hsr : szB (L (rangeI 1 p)).length = true := szB_of (by
    have : (L (rangeI 1 p)).length = (p - 1).toNat := by simp [rangeI]
    omega)
  have hd := dIx_0 (b := false) (invs_head (p := p) (z := z) hp (by omega) (by omega))
  have c1 := comp_map (gf := gN 5) (fe := eOp dMod (eUn dInt (eOp dMul (eVar 5) (eVar 4))) (eVar 0)) (ρ := [.val (.int p), .val (.lst (L (ys ++ [z]))), b', .no, .val (.int (invT p z)), .no]) (s := s) (fun x => (x * invT p z) % p) (ys ++ [z]) fun x hx => ⟨_, rfl, by
    have hx' := g1 x hx
    simp only [a_eOp, a_eUn, a_eVar, List.set_cons_succ, List.set_cons_zero, List.getElem?_cons_succ, List.getElem?_cons_zero, b_ok, o_mulI (mulOk_sm (i := x) (j := invT p z) (by omega) (by omega) (by omega) (by omega)), l_some, o_intI, o_modI (show 0 < p by omega)]⟩
  refine ⟨(ys ++ [z]).map fun x => (x * invT p z) % p, by simp, ?_⟩
  rw [m_l_law_m_common, m_run]
  simp only [List.map_cons, List.map_nil, List.length_cons, List.length_nil, List.cons_append, List.nil_append, Nat.reduceAdd, Nat.reduceSub, List.replicate, b_l_law_m_common, FU]
  have st1 : sAsg (eTup (aCons (eFrz (oB dListOf (bOf (eVar 1)))) (aCons (eFrz (oB dListOf (bOf (eVar 2)))) aNil))) (gT [1, 2]) [.val (.int p), .val (.lst (L a)), .val (.lst (L b)), .no, .no, .no] s = .nx [.val (.int p), .val (.lst (L a)), .val (.lst (L b)), .no, .no, .no] s := rfl
  rw [a_sSeq, st1, q_nx, a_sSeq, a_sWhile, e, q_nx]
  simp only [a_sSeq, a_sIf, a_tOf, a_eOp, a_eVar, a_eFrz, a_oLst, a_aNil, List.getElem?_cons_succ, List.getElem?_cons_zero, b_ok, List.length_nil, hs0, if_true, l_some, d, o_bool, s_ok, Bool.false_eq_true, if_false, a_sNil, q_nx, a_sSet, a_eBE, a_bNew, a_oComp, a_iRange2, a_eC, r1, hsr, wipeS, List.set_cons_succ, List.set_cons_zero, c2, hd, a_sRet, a_iEB, hl, hsa, c1]
end K06
set_option Elab.async false
set_option linter.all false
set_option maxRecDepth 100000
set_option maxHeartbeats 4000000
namespace K06
open PySem PySem.Spec L2 Zp
def slopeR (p : Int) (a : List Int) : List Int := (a.mapIdx fun (k : Nat) (x : Int) => ((k : Int) * x) % p).drop 1
def slopeC (p : Int) (a : List Int) : List Int := trim (slopeR p a)
theorem cut1 (xs : List Int) : cutD (L xs) (some 1) none = L (xs.drop 1) := by
  unfold cutD HT.sIx
  cases xs with
  | nil => rfl
  | cons x xs =>
    simp
    rw [List.take_of_length_le (by simp)]
theorem enumI_len : ∀ (xs : List Int) (k : Nat), (enumI k xs).length = xs.length
  | [], _ => rfl
  | x :: xs, k => by simp [enumI, enumI_len xs]
theorem slopeR_inn {p : Int} {a : List Int} (hp : 0 < p) : Inn p (slopeR p a) := fun x hx => by
  have hx' := List.mem_of_mem_drop hx
  obtain ⟨i, hi, rfl⟩ := List.mem_iff_getElem.mp hx'
  rw [List.getElem_mapIdx]
  exact ⟨Int.emod_nonneg _ (by omega), Int.emod_lt_of_pos _ hp⟩
theorem slopeC_ok {p : Int} {a : List Int} (hp : 0 < p) : Inn p (slopeC p a) ∧ Tr (slopeC p a) ∧ (slopeC p a).length ≤ a.length := by
  refine ⟨fun x hx => slopeR_inn hp x (trim_mem _ _ (Nat.le_refl _) x hx), trim_tr _ _ (Nat.le_refl _), ?_⟩
  refine trim_len _ _ (Nat.le_refl _) _ fun k hk x hx => ?_
  have h := (List.getElem?_eq_some_iff.mp hx).1
  simp [slopeR] at h
  omega
theorem m_mod_slope_eq {p : Int} {a : List Int} (s : PenS) (hp : P5 p) (ha : Inn p a) (la : a.length ≤ 100) : m_mod_slope [.int p, .tup (L a)] s = .ok (.tup (L (slopeC p a))) s := by
  have hr := hp.rng
  have hen : enumD 0 (L a) = enumI 0 a := enumD_L a 0
  have hsz : szB (enumI 0 a).length = true := szB_of (by rw [enumI_len]; omega)
  have c1 := comp_enum (gf := gT [2, 3]) (fe := eOp dMod (eOp dMul (eVar 2) (eVar 3)) (eVar 0)) (ρ := [.val (.int p), .val (.tup (L a)), .no, .no]) (s := s) a (fun (k : Nat) (x : Int) => ((k : Int) * x) % p) 0 fun k x hx => ⟨_, rfl, by
    have hk := (List.getElem?_eq_some_iff.mp hx).1
    have hx' := ha x (List.mem_of_getElem? hx)
    rw [Nat.zero_add]
    simp only [a_eOp, a_eVar, List.set_cons_succ, List.set_cons_zero, List.getElem?_cons_succ, List.getElem?_cons_zero, b_ok, o_mulI (mulOk_sm (i := (k : Int)) (j := x) (by omega) (by omega) (by omega) (by omega)), l_some, o_modI (show 0 < p by omega)]⟩
  have t := m_trimmed_eq (d := .lst (L (slopeR p a))) (b := false) (xs := slopeR p a) s rfl (by simp [slopeR]; omega)
  rw [m_mod_slope, m_run]
  simp only [List.map_cons, List.map_nil, List.length_cons, List.length_nil, List.cons_append, List.nil_append, Nat.reduceAdd, Nat.reduceSub, List.replicate, b_mod_slope]
  simp only [a_sRet, a_eCallD, a_aCons, a_aNil, a_eSlice, a_bNew, a_oComp, a_iEnE, a_eVar, List.getElem?_cons_succ, List.getElem?_cons_zero, b_ok, hen, hsz, if_true, wipeS, List.set_cons_succ, List.set_cons_zero, c1, a_oSome, a_eC, o_intOf, Option.map_some, l_some, a_oNone, Bool.false_eq_true, if_false, cut1, List.append_nil, List.length_cons, List.length_nil, Nat.reduceAdd]
  rw [show (L (List.drop 1 (List.mapIdx (fun (k : Nat) (x : Int) => ((k : Int) * x) % p) a))) = L (slopeR p a) from rfl, t]
  rfl
theorem m_slope_eq {p : Int} {a : List Int} (s : PenS) (hp : P5 p) (ha : Inn p a) (la : a.length ≤ 100) : m_l_law_m_slope [.int p, .lst (L a)] s = .ok (.lst (L (slopeC p a))) s := by
  have hr := hp.rng
  have hen : enumD 0 (L a) = enumI 0 a := enumD_L a 0
  have hsz : szB (enumI 0 a).length = true := szB_of (by rw [enumI_len]; omega)
  have c1 := comp_enum (gf := gT [2, 3]) (fe := eOp dMod (eUn dInt (eOp dMul (eVar 2) (eVar 3))) (eVar 0)) (ρ := [.val (.int p), .val (.lst (L a)), .no, .no]) (s := s) a (fun (k : Nat) (x : Int) => ((k : Int) * x) % p) 0 fun k x hx => ⟨_, rfl, by
    have hk := (List.getElem?_eq_some_iff.mp hx).1
    have hx' := ha x (List.mem_of_getElem? hx)
    rw [Nat.zero_add]
    simp only [a_eOp, a_eUn, a_eVar, List.set_cons_succ, List.set_cons_zero, List.getElem?_cons_succ, List.getElem?_cons_zero, b_ok, o_mulI (mulOk_sm (i := (k : Int)) (j := x) (by omega) (by omega) (by omega) (by omega)), l_some, o_intI, o_modI (show 0 < p by omega)]⟩
  have t := m_cut_eq (d := .lst (L (slopeR p a))) (b := false) (xs := slopeR p a) s rfl (by simp [slopeR]; omega)
  rw [m_l_law_m_slope, m_run]
  simp only [List.map_cons, List.map_nil, List.length_cons, List.length_nil, List.cons_append, List.nil_append, Nat.reduceAdd, Nat.reduceSub, List.replicate, b_l_law_m_slope]
  simp only [a_sRet, a_eCallD, a_aCons, a_aNil, a_eSlice, a_bNew, a_oComp, a_iEnE, a_eVar, List.getElem?_cons_succ, List.getElem?_cons_zero, b_ok, hen, hsz, if_true, wipeS, List.set_cons_succ, List.set_cons_zero, c1, a_oSome, a_eC, o_intOf, Option.map_some, l_some, a_oNone, Bool.false_eq_true, if_false, cut1, List.append_nil, List.length_cons, List.length_nil, Nat.reduceAdd]
  rw [show (L (List.drop 1 (List.mapIdx (fun (k : Nat) (x : Int) => ((k : Int) * x) % p) a))) = L (slopeR p a) from rfl, t]
  rfl
end K06
set_option Elab.async false
set_option linter.all false
set_option maxRecDepth 100000
set_option maxHeartbeats 4000000
namespace K06
open PySem PySem.Spec L2 Zp
theorem is_int (s : PenS) (i : Int) : m_is_integer [.int i] s = .ok (.bl true) s := by kernel_rfl
theorem is_int_non (s : PenS) : m_is_integer [.non] s = .ok (.bl false) s := by kernel_rfl
theorem is_int_bl (s : PenS) (b : Bool) : m_is_integer [.bl b] s = .ok (.bl false) s := by kernel_rfl
theorem is_row_l (s : PenS) (xs : List D) : m_is_row [.lst xs] s = .ok (.bl true) s := by kernel_rfl
theorem is_row_t (s : PenS) (xs : List D) : m_is_row [.tup xs] s = .ok (.bl true) s := by kernel_rfl
theorem is_row_non (s : PenS) : m_is_row [.non] s = .ok (.bl false) s := by kernel_rfl
theorem is_row_int (s : PenS) (i : Int) : m_is_row [.int i] s = .ok (.bl false) s := by kernel_rfl
end K06
set_option Elab.async false
set_option linter.all false
set_option maxRecDepth 100000
set_option maxHeartbeats 4000000
namespace K06
open PySem PySem.Spec L2 Zp
def innB (p : Int) (xs : List Int) : Bool := xs.all fun x => decide (0 ≤ x) && decide (x < p)
theorem innB_ok {p : Int} {xs : List Int} : innB p xs = true ↔ Inn p xs := by
  unfold innB Inn
  simp [List.all_eq_true]
theorem bls_map (f : Int → Bool) : ∀ xs : List Int, blsOf (xs.map fun x => D.bl (f x)) = some (xs.map f)
  | [] => rfl
  | x :: xs => by
    show (blsOf (xs.map fun x => D.bl (f x))).map (f x :: ·) = _
    rw [bls_map f xs]
    rfl
theorem comp_bls {gf : GF} {fe : EF} {ρ : List Sv} {s : PenS} (f : Int → Bool) : ∀ xs : List Int, (∀ x ∈ xs, ∃ ρ1, gf (.int x) ρ = some ρ1 ∧ fe ρ1 s = .ok (.bl (f x)) s) → compGo gf tYesF fe ρ (L xs) s = .ok (xs.map fun x => D.bl (f x)) s
  | [], _ => rfl
  | x :: xs, h => by
    obtain ⟨ρ1, h1, h2⟩ := h x List.mem_cons_self
    have ih := comp_bls (gf := gf) (fe := fe) (ρ := ρ) (s := s) f xs fun y hy => h y (List.mem_cons_of_mem _ hy)
    show compGo gf tYesF fe ρ (D.int x :: L xs) s = _
    unfold compGo
    rw [h1]
    simp only [a_tYesF, x_ok, b_ok, if_true, h2, ih]
    rfl
/-- what is_mod_row says of a row of ints -/
def rowB (p : Int) (xs : List Int) : Bool := innB p xs && (decide (xs = []) || !decide (xs.getLastD 0 = 0))
theorem m_is_mod_row_eq {p : Int} {d : D} {b : Bool} {xs : List Int} (s : PenS) (hd : d = (if b = true then .tup (L xs) else .lst (L xs))) (lx : xs.length ≤ 61) : m_is_mod_row [.int p, d, .int 60] s = .ok (.bl (rowB p xs)) s := by
  have hrow : m_is_row [d] s = .ok (.bl true) s := by
    subst hd
    cases b
    · exact is_row_l s _
    · exact is_row_t s _
  have hq : seqOf d = some (b, L xs) := by subst hd; cases b <;> rfl
  have hie : ∀ ρ : List Sv, iEB (eVar 1) (.val (.int p) :: .val d :: ρ) s = .ok (L xs) s := fun ρ => by subst hd; cases b <;> rfl
  have hl : (L xs).length = xs.length := by simp
  have d1 : decide ((60 : Int) + 1 < (xs.length : Int)) = false := decide_eq_false (by omega)
  have hsz : szB xs.length = true := szB_of (by omega)
  have c1 := comp_bls (gf := gN 3) (fe := eAndV (eCallD 1 m_is_integer [] (aCons (eVar 3) aNil)) (eChain dLe dLt (eC (.int 0)) (eVar 3) (eVar 0))) (ρ := [.val (.int p), .val d, .val (.int 60), .no]) (s := s) (fun x => decide (0 ≤ x) && decide (x < p)) xs fun x hx => ⟨_, rfl, by
    by_cases h0 : 0 ≤ x
    · simp [a_eAndV, is_int, h0]
    · simp [a_eAndV, is_int, h0]⟩
  have hall : dAll (false, xs.map fun x => D.bl (decide (0 ≤ x) && decide (x < p))) = some (.bl (innB p xs)) := by
    show (blsOf _).map _ = _
    rw [bls_map]
    show some (D.bl _) = _
    congr 2
    unfold innB
    rw [List.all_map]
    rfl
  rw [m_is_mod_row, m_run]
  simp only [List.map_cons, List.map_nil, List.length_cons, List.length_nil, List.cons_append, List.nil_append, Nat.reduceAdd, Nat.reduceSub, List.replicate, b_is_mod_row]
  simp only [a_sSeq, a_sIf, a_tOrF, a_tNotF, a_tOf, a_eCallD, a_aCons, a_aNil, a_eVar, List.getElem?_cons_succ, List.getElem?_cons_zero, b_ok, List.append_nil, List.length_cons, List.length_nil, Nat.reduceAdd, if_true, hrow, o_bool, l_some, Bool.not_true, Bool.false_eq_true, if_false, a_eOp, a_eB, a_bOf, hq, o_len, hl, a_eC, o_addI, o_gtI, d1, s_ok, a_sNil, q_nx, a_bNew, a_oComp, hie, hsz, wipeS, List.set_cons_succ, List.set_cons_zero, c1, hall]
  by_cases hi : innB p xs = true
  · rcases snoc_cases xs with rfl | ⟨ys, z, rfl⟩
    · simp [hi, rowB, hq]
    · have e1 : dIx (b, L (ys ++ [z])) (.int (-1)) = some (.int z) := dIx_last b ys z
      have d2 : decide ((((ys ++ [z]).length : Nat) : Int) = 0) = false := decide_eq_false (by simp; omega)
      simp only [hi, Bool.not_true, Bool.false_eq_true, if_false, q_nx, a_sRet, a_eOrV, a_eOp, a_eB, a_bOf, a_eVar, List.getElem?_cons_succ, List.getElem?_cons_zero, b_ok, hq, l_some, o_len, hl, a_eC, dEq_int, d2, a_eBE, a_eUn, o_negI, e1, dNe_int, s_ok]
      simp [rowB, hi]
  · have hi' : innB p xs = false := by simpa using hi
    simp [hi', rowB]
end K06
set_option Elab.async false
set_option linter.all false
set_option maxRecDepth 100000
set_option maxHeartbeats 4000000
namespace K06
open PySem PySem.Spec L2 Zp
/-- the code of a row over a prime of the five -/
def codeC (p : Int) (xs : List Int) : D := if rowB p xs = false then .str "row" else if ¬ (2 ≤ xs.length ∧ xs.length ≤ 9) then .str "degree" else if shLen p xs (slopeC p xs) = 1 then .non else .str "double"
theorem rowB_tr {p : Int} {xs : List Int} (h : rowB p xs = true) : Inn p xs ∧ Tr xs := by
  unfold rowB at h
  simp only [Bool.and_eq_true, Bool.or_eq_true, decide_eq_true_eq] at h
  refine ⟨innB_ok.mp h.1, ?_⟩
  rcases snoc_cases xs with rfl | ⟨ys, z, rfl⟩
  · exact .inl rfl
  · refine .inr ⟨ys, z, rfl, ?_⟩
    rcases h.2 with h | h
    · simp at h
    · simpa using h
theorem m_curve_breach_eq {p : Int} {d : D} {b : Bool} {xs : List Int} (s : PenS) (hp : P5 p) (hd : d = (if b = true then .tup (L xs) else .lst (L xs))) (lx : xs.length ≤ 61) : m_curve_breach [.int p, d] s = .ok (codeC p xs) s := by
  have hr := hp.rng
  have hq : seqOf d = some (b, L xs) := by subst hd; cases b <;> rfl
  have hl : (L xs).length = xs.length := by simp
  have hin : dIn true (.int p) (true, [.int 3, .int 5, .int 7, .int 11, .int 13, .int 17, .int 19, .int 23, .int 29, .int 31]) = some (.bl false) := by
    rcases hp with rfl | rfl | rfl | rfl | rfl <;> rfl
  have e1 := m_is_mod_row_eq (p := p) s hd lx
  rw [m_curve_breach, m_run]
  simp only [List.map_cons, List.map_nil, List.length_cons, List.length_nil, List.cons_append, List.nil_append, Nat.reduceAdd, Nat.reduceSub, List.replicate, b_curve_breach, d_PRIMES, d_MOST_DEGREE]
  simp only [a_sSeq, a_sIf, a_tOrF, a_tNotF, a_tOf, a_eCallD, a_aCons, a_aNil, a_eVar, List.getElem?_cons_succ, List.getElem?_cons_zero, b_ok, List.append_nil, List.length_cons, List.length_nil, Nat.reduceAdd, if_true, is_int, o_bool, l_some, Bool.not_true, Bool.false_eq_true, if_false, a_eEB, a_bOf, a_eC, o_seqT, hin, s_ok, a_sNil, q_nx, List.cons_append, List.nil_append, e1]
  unfold codeC
  cases hb : rowB p xs with
  | false => simp
  | true =>
    obtain ⟨i1, i2⟩ := rowB_tr hb
    simp only [Bool.not_true, Bool.false_eq_true, if_false, q_nx, a_sSeq, a_sIf, a_tNotF, a_tOf, a_eChain, a_eC, b_ok, a_eB, a_bOf, a_eVar, List.getElem?_cons_succ, List.getElem?_cons_zero, hq, l_some, o_len, hl, o_leI]
    by_cases h2 : 2 ≤ xs.length
    · have d2 : decide ((2 : Int) ≤ (xs.length : Int)) = true := decide_eq_true (by omega)
      by_cases h9 : xs.length ≤ 9
      · have d9 : decide ((xs.length : Int) ≤ 8 + 1) = true := decide_eq_true (by omega)
        obtain ⟨s1, s2, s3⟩ := slopeC_ok (p := p) (a := xs) (by omega)
        have e2 := m_mod_slope_eq (p := p) (a := xs) s hp i1 (by omega)
        obtain ⟨gs, g1, g2⟩ := m_shared_eq (p := p) (a := xs) (b := slopeC p xs) s hp i1 i2 (by intro z; subst z; simp at h2) (by omega) s1 s2 (by omega)
        have hlg : (L gs).length = gs.length := by simp
        simp only [d2, chain_t, a_eOp, a_eC, b_ok, l_some, o_addI, o_leI, d9, o_bool, Bool.not_true, Bool.false_eq_true, if_false, s_ok, q_nx, a_sRet, a_eIf, a_tOf, a_eB, a_bOf, a_eCallD, a_aCons, a_aNil, a_eVar, List.getElem?_cons_succ, List.getElem?_cons_zero, hq, o_tupOf, List.append_nil, List.length_cons, List.length_nil, Nat.reduceAdd, if_true, e2, g2, o_seqT, o_len, hlg, dEq_int, g1]
        by_cases h1 : shLen p xs (slopeC p xs) = 1
        · simp [h1, h2, h9, hq, e2, g2, g1]
        · have : ¬ ((shLen p xs (slopeC p xs) : Int) = 1) := by omega
          simp [h1, h2, h9, this, hq, e2, g2, g1]
      · have d9 : decide ((xs.length : Int) ≤ 8 + 1) = false := decide_eq_false (by omega)
        simp only [d2, chain_t, a_eOp, a_eC, b_ok, l_some, o_addI, o_leI, d9, o_bool, Bool.not_false, if_true, s_ok, q_ret, a_sRet]
        simp [h9]
    · have d2 : decide ((2 : Int) ≤ (xs.length : Int)) = false := decide_eq_false (by omega)
      simp only [d2, chain_f, b_ok, l_some, o_bool, Bool.not_false, if_true, s_ok, q_ret, a_sRet, a_eC]
      simp [h2]
end K06
set_option Elab.async false
set_option linter.all false
set_option maxRecDepth 100000
set_option maxHeartbeats 4000000
namespace K06
open PySem PySem.Spec L2 Zp
theorem filter_nil {p : Int} {xs : List Int} : ((xs.filter fun x => !(decide (0 ≤ x) && decide (x < p))) = []) ↔ innB p xs = true := by
  unfold innB
  rw [List.filter_eq_nil_iff, List.all_eq_true]
  constructor
  · intro h x hx
    have := h x hx
    simpa using this
  · intro h x hx
    have := h x hx
    simp [this]
theorem why_comp {p : Int} {xs : List Int} {d : D} {s : PenS} : compGo (gN 2) (tOrF (tNotF (tOf (eUn (isB "int") (eVar 2)))) (tOrF (tOf (eUn (isB "bool") (eVar 2))) (tNotF (tOf (eChain dLe dLt (eC (.int 0)) (eVar 2) (eVar 0)))))) (eVar 2) [.val (.int p), .val d, .no] (L xs) s
    = .ok (L (xs.filter fun x => !(decide (0 ≤ x) && decide (x < p)))) s := by
  have i1 : ∀ x : Int, isB "int" (.int x) = some (.bl true) := fun x => by kernel_rfl
  have i2 : ∀ x : Int, isB "bool" (.int x) = some (.bl false) := fun x => by kernel_rfl
  have e := comp_ints (gf := gN 2) (ft := tOrF (tNotF (tOf (eUn (isB "int") (eVar 2)))) (tOrF (tOf (eUn (isB "bool") (eVar 2))) (tNotF (tOf (eChain dLe dLt (eC (.int 0)) (eVar 2) (eVar 0)))))) (fe := eVar 2) (ρ := [.val (.int p), .val d, .no]) (s := s) (fun x => !(decide (0 ≤ x) && decide (x < p))) id xs fun x hx => ⟨_, rfl, by
    by_cases h0 : 0 ≤ x
    · simp [i1, i2, h0]
    · simp [i1, i2, h0], fun _ => rfl⟩
  rw [List.map_id] at e
  exact e
theorem codeC_row {p : Int} {xs : List Int} (h : rowB p xs = false) : codeC p xs = .str "row" := if_pos h
theorem codeC_deg {p : Int} {xs : List Int} (h : rowB p xs = true) (h2 : ¬ (2 ≤ xs.length ∧ xs.length ≤ 9)) : codeC p xs = .str "degree" := by
  unfold codeC
  rw [h, if_neg (by simp), if_pos h2]
theorem codeC_non {p : Int} {xs : List Int} (h : rowB p xs = true) (h2 : 2 ≤ xs.length ∧ xs.length ≤ 9) (h3 : shLen p xs (slopeC p xs) = 1) : codeC p xs = .non := by
  unfold codeC
  rw [h, if_neg (by simp), if_neg (fun q => q h2), if_pos h3]
theorem codeC_dbl {p : Int} {xs : List Int} (h : rowB p xs = true) (h2 : 2 ≤ xs.length ∧ xs.length ≤ 9) (h3 : ¬ shLen p xs (slopeC p xs) = 1) : codeC p xs = .str "double" := by
  unfold codeC
  rw [h, if_neg (by simp), if_neg (fun q => q h2), if_neg h3]
theorem m_why_eq {p : Int} {xs : List Int} (s : PenS) (hp : P5 p) (lx : xs.length ≤ 61) : m_l_law_why [.int p, .lst (L xs)] s = .ok (codeC p xs) s := by
  have hr := hp.rng
  have i1 : ∀ x : Int, isB "int" (.int x) = some (.bl true) := fun x => by kernel_rfl
  have i2 : ∀ x : Int, isB "bool" (.int x) = some (.bl false) := fun x => by kernel_rfl
  have i3 : isB2 "list" "tuple" (.lst (L xs)) = some (.bl true) := by kernel_rfl
  have hl : (L xs).length = xs.length := by simp
  have hs10 : szB 10 = true := rfl
  have hs0 : szB 0 = true := rfl
  have hsz : szB xs.length = true := szB_of (by omega)
  have hin : dIn true (.int p) (false, [.int 3, .int 5, .int 7, .int 11, .int 13, .int 17, .int 19, .int 23, .int 29, .int 31]) = some (.bl false) := by
    rcases hp with rfl | rfl | rfl | rfl | rfl <;> rfl
  have c1 := why_comp (p := p) (xs := xs) (d := .lst (L xs)) (s := s)
  have d0 := dNe_nil (a := xs.filter fun x => !(decide (0 ≤ x) && decide (x < p)))
  rw [m_l_law_why, m_run]
  simp only [List.map_cons, List.map_nil, List.length_cons, List.length_nil, List.cons_append, List.nil_append, Nat.reduceAdd, Nat.reduceSub, List.replicate, b_l_law_why]
  simp only [a_sSeq, a_sIf, a_tOrF, a_tNotF, a_tOf, a_eUn, a_eVar, List.getElem?_cons_succ, List.getElem?_cons_zero, b_ok, i1, i2, i3, l_some, o_bool, Bool.not_true, Bool.false_eq_true, if_false, a_eEB, a_bNew, a_oLst, a_aCons, a_aNil, a_eC, List.length_cons, List.length_nil, Nat.reduceAdd, hs10, if_true, hin, s_ok, a_sNil, q_nx, a_eOp, a_eFrz, a_oComp, a_iEB, hl, hsz, wipeS, List.set_cons_succ, List.set_cons_zero, c1, hs0, d0]
  cases hi : innB p xs with
  | false =>
    have h1 : decide ((xs.filter fun x => !(decide (0 ≤ x) && decide (x < p))) = []) = false := decide_eq_false fun z => by rw [filter_nil.mp z] at hi; cases hi
    rw [codeC_row (by simp [rowB, hi])]
    simp only [h1, Bool.not_false, if_true, s_ok, q_ret, a_sRet, a_eC, b_ok]
  | true =>
    have h1 : decide ((xs.filter fun x => !(decide (0 ≤ x) && decide (x < p))) = []) = true := decide_eq_true (filter_nil.mpr hi)
    have hinn := innB_ok.mp hi
    rcases snoc_cases xs with rfl | ⟨ys, z, rfl⟩
    · rw [codeC_deg (by simp [rowB, hi]) (by simp)]
      simp
    · have e1 : dIx (false, L (ys ++ [z])) (.int (-1)) = some (.int z) := dIx_last false ys z
      have hlb : (ys ++ [z]).length = ys.length + 1 := by simp
      have dg : decide ((0 : Int) < ((ys ++ [z]).length : Int)) = true := decide_eq_true (by omega)
      simp only [h1, Bool.not_true, Bool.false_eq_true, if_false, s_ok, q_nx, a_sNil, a_sSeq, a_sIf, a_tAndF, a_tOf, a_eOp, a_eB, a_bOf, a_eVar, List.getElem?_cons_succ, List.getElem?_cons_zero, b_ok, o_seqL, l_some, o_len, hl, a_eC, o_gtI, dg, o_bool, if_true, a_eBE, a_eUn, o_negI, e1, dEq_int]
      by_cases hz : z = 0
      · subst hz
        rw [codeC_row (by simp [rowB])]
        simp
      · have dz : decide (z = 0) = false := decide_eq_false hz
        have hrow : rowB p (ys ++ [z]) = true := by simp [rowB, hi, hz]
        obtain ⟨j1, j2⟩ := rowB_tr hrow
        simp only [dz, Bool.false_eq_true, if_false, s_ok, q_nx, a_sNil, a_sSeq, a_sIf, a_tNotF, a_tOf, a_eChain, a_eC, b_ok, a_eB, a_bOf, a_eVar, List.getElem?_cons_succ, List.getElem?_cons_zero, o_seqL, l_some, o_len, hl, o_leI]
        by_cases h2 : 2 ≤ (ys ++ [z]).length
        · have d2 : decide ((2 : Int) ≤ ((ys ++ [z]).length : Int)) = true := decide_eq_true (by omega)
          by_cases h9 : (ys ++ [z]).length ≤ 9
          · have d9 : decide (((ys ++ [z]).length : Int) ≤ 9) = true := decide_eq_true (by omega)
            obtain ⟨s1, s2, s3⟩ := slopeC_ok (p := p) (a := ys ++ [z]) (by omega)
            have e2 := m_slope_eq (p := p) (a := ys ++ [z]) s hp j1 (by omega)
            obtain ⟨gs, g1, g2⟩ := m_common_eq (p := p) (a := ys ++ [z]) (b := slopeC p (ys ++ [z])) s hp j1 j2 (by simp) (by omega) s1 s2 (by omega)
            have hlg : (L gs).length = gs.length := by simp
            simp only [d2, chain_t, d9, b_ok, l_some, o_bool, Bool.not_true, Bool.false_eq_true, if_false, s_ok, q_nx, a_sRet, a_eIf, a_tOf, a_eOp, a_eB, a_bOf, a_eCallD, a_aCons, a_aNil, a_eVar, List.getElem?_cons_succ, List.getElem?_cons_zero, List.append_nil, List.length_cons, List.length_nil, Nat.reduceAdd, if_true, e2, g2, o_seqL, o_len, hlg, a_eC, dEq_int, g1]
            have hh : 2 ≤ (ys ++ [z]).length ∧ (ys ++ [z]).length ≤ 9 := ⟨h2, h9⟩
            by_cases hq : shLen p (ys ++ [z]) (slopeC p (ys ++ [z])) = 1
            · rw [codeC_non hrow hh hq]
              simp [hq]
            · have : ¬ ((shLen p (ys ++ [z]) (slopeC p (ys ++ [z])) : Int) = 1) := by omega
              rw [codeC_dbl hrow hh hq]
              simp [hq, this]
          · have d9 : decide (((ys ++ [z]).length : Int) ≤ 9) = false := decide_eq_false (by omega)
            simp only [d2, chain_t, d9, b_ok, l_some, o_bool, Bool.not_false, if_true, s_ok, q_ret, a_sRet, a_eC]
            rw [codeC_deg hrow (fun q => h9 q.2)]
        · have d2 : decide ((2 : Int) ≤ ((ys ++ [z]).length : Int)) = false := decide_eq_false (by omega)
          simp only [d2, chain_f, b_ok, l_some, o_bool, Bool.not_false, if_true, s_ok, q_ret, a_sRet, a_eC]
          rw [codeC_deg hrow (fun q => h2 q.1)]
end K06
set_option Elab.async false
set_option linter.all false
set_option maxRecDepth 100000
set_option maxHeartbeats 4000000
namespace K06
open PySem PySem.Spec L2 Zp
/-- a row times u -/
def Sc (p u : Int) (xs : List Int) : List Int := xs.map fun x => (u * x) % p
theorem Sc_len {p u : Int} {xs : List Int} : (Sc p u xs).length = xs.length := by simp [Sc]
theorem Sc_getD {p u : Int} {xs : List Int} {k : Nat} : (Sc p u xs).getD k 0 = (u * xs.getD k 0) % p := by
  unfold Sc
  rw [List.getD_eq_getElem?_getD, List.getElem?_map, List.getD_eq_getElem?_getD]
  cases xs[k]? <;> simp
theorem Sc_inn {p u : Int} {xs : List Int} (hp : 0 < p) : Inn p (Sc p u xs) := fun x hx => by
  obtain ⟨y, _, rfl⟩ := List.mem_map.mp hx
  exact ⟨Int.emod_nonneg _ (by omega), Int.emod_lt_of_pos _ hp⟩
theorem Sc_snoc {p u z : Int} {ys : List Int} : Sc p u (ys ++ [z]) = Sc p u ys ++ [(u * z) % p] := by simp [Sc]
theorem unit_zero {p u x : Int} (hp : P5 p) (h1 : 0 < u) (h2 : u < p) (h3 : 0 ≤ x) (h4 : x < p) : (u * x) % p = 0 ↔ x = 0 := by
  have hr := hp.rng
  obtain ⟨_, _, i3⟩ := invT_ok (p := p) (a := u) hp h1 h2
  constructor
  · intro h
    have c1 : Cg p (u * x) 0 := Cg.md.symm.trans (Cg.of_eq h)
    have c2 : Cg p (invT p u * u) 1 := Cg.md.symm.trans (Cg.of_eq i3)
    have c3 : Cg p x 0 := ((Cg.of_eq (b := 1 * x) (by grind)).trans ((c2.symm.mul Cg.rfl).trans (Cg.of_eq (b := invT p u * (u * x)) (by grind)))).trans ((Cg.rfl.mul c1).trans (Cg.of_eq (by grind)))
    have := c3.out
    rw [Int.emod_eq_of_lt h3 h4] at this
    simpa using this
  · rintro rfl
    simp
theorem stepR_Sc {p u v z back back' : Int} {ys rest : List Int} {k : Nat} (h1 : (back * z) % p = 1) (h2 : (back' * ((v * z) % p)) % p = 1) : stepR p back' (Sc p v (ys ++ [z])) k (Sc p u rest) = Sc p u (stepR p back (ys ++ [z]) k rest) := by
  apply List.ext_getElem?
  intro i
  unfold stepR
  rw [List.getElem?_mapIdx]
  rw [show ∀ l : List Int, (Sc p u l)[i]? = (l[i]?).map fun x => (u * x) % p from fun l => by simp [Sc]]
  rw [show ∀ l : List Int, (Sc p u l)[i]? = (l[i]?).map fun x => (u * x) % p from fun l => by simp [Sc]]
  rw [List.getElem?_mapIdx]
  cases rest[i]? with
  | none => rfl
  | some x =>
    simp only [Option.map_some, Sc_len, Sc_getD]
    by_cases h : k ≤ i ∧ i < k + (ys ++ [z]).length
    · rw [if_pos h, if_pos h, mm h1 h2]
    · rw [if_neg h, if_neg h]
theorem divR_Sc {p u v z back back' : Int} {ys : List Int} (h1 : (back * z) % p = 1) (h2 : (back' * ((v * z) % p)) % p = 1) : ∀ (m : Nat) (rest : List Int), divR p back' (Sc p v (ys ++ [z])) m (Sc p u rest) = Sc p u (divR p back (ys ++ [z]) m rest)
  | 0, rest => rfl
  | m + 1, rest => by
    show divR p back' _ m (stepR p back' _ m _) = Sc p u (divR p back _ m (stepR p back _ m rest))
    rw [stepR_Sc h1 h2, divR_Sc h1 h2 m]
theorem trim_Sc {p u : Int} (hp : P5 p) (h1 : 0 < u) (h2 : u < p) : ∀ (n : Nat) (xs : List Int), xs.length ≤ n → Inn p xs → trim (Sc p u xs) = Sc p u (trim xs)
  | n, xs, hn, hi => by
    rcases snoc_cases xs with rfl | ⟨ys, z, rfl⟩
    · rfl
    · have hz := hi z (by simp)
      rw [Sc_snoc, trim_snoc, trim_snoc]
      by_cases h : z = 0
      · rw [if_pos h, if_pos ((unit_zero hp h1 h2 hz.1 hz.2).mpr h)]
        match n with
        | 0 => simp at hn
        | n + 1 => exact trim_Sc hp h1 h2 n ys (by simp at hn; omega) fun x hx => hi x (List.mem_append_left _ hx)
      · rw [if_neg h, if_neg fun q => h ((unit_zero hp h1 h2 hz.1 hz.2).mp q), Sc_snoc]
theorem Sc_tr {p u : Int} {xs : List Int} (hp : P5 p) (h1 : 0 < u) (h2 : u < p) (hi : Inn p xs) (ht : Tr xs) : Tr (Sc p u xs) := by
  rcases ht with rfl | ⟨ys, z, rfl, hz⟩
  · exact .inl rfl
  · have hz' := hi z (by simp)
    exact .inr ⟨_, _, Sc_snoc, fun q => hz ((unit_zero hp h1 h2 hz'.1 hz'.2).mp q)⟩
theorem remC_Sc {p u v z : Int} {a ys : List Int} (hp : P5 p) (h1 : 0 < u) (h2 : u < p) (h3 : 0 < v) (h4 : v < p) (ha : Inn p a) (hz : 0 < z) (hz2 : z < p) : remC p (Sc p u a) (Sc p v ys) ((v * z) % p) = Sc p u (remC p a ys z) := by
  have hr := hp.rng
  obtain ⟨_, _, i3⟩ := invT_ok (p := p) (a := z) hp hz hz2
  have n0 : (v * z) % p ≠ 0 := fun q => by have := (unit_zero hp h3 h4 (by omega) hz2).mp q; omega
  have n1 : 0 ≤ (v * z) % p := Int.emod_nonneg _ (by omega)
  have n2 : (v * z) % p < p := Int.emod_lt_of_pos _ (by omega)
  obtain ⟨_, _, j3⟩ := invT_ok (p := p) (a := (v * z) % p) hp (by omega) n2
  unfold remC
  rw [← Sc_snoc, Sc_len, Sc_len, divR_Sc i3 j3]
  exact trim_Sc hp h1 h2 _ _ (Nat.le_refl _) (divR_inn (by omega) _ _ ha)
theorem gcdC_Sc {p : Int} (hp : P5 p) : ∀ (n : Nat) (a b : List Int) (u v : Int), 0 < u → u < p → 0 < v → v < p → Inn p a → Inn p b → Tr b → (gcdC p n (Sc p u a) (Sc p v b)).length = (gcdC p n a b).length
  | 0, a, b, u, v, _, _, _, _, _, _, _ => Sc_len
  | n + 1, a, b, u, v, h1, h2, h3, h4, ha, hb, ht => by
    rcases ht with rfl | ⟨ys, z, rfl, hz⟩
    · show (Sc p u a).length = a.length
      exact Sc_len
    · have hz' := hb z (by simp)
      obtain ⟨r1, r2, _⟩ := remC_ok (p := p) (a := a) (ys := ys) (z := z) hp ha (by omega) (by omega)
      rw [Sc_snoc, gcdC_snoc, gcdC_snoc, ← Sc_snoc, remC_Sc hp h1 h2 h3 h4 ha (by omega) hz'.2]
      exact gcdC_Sc hp n _ _ v u h3 h4 h1 h2 hb r2 r1
theorem slopeC_Sc {p u : Int} {a : List Int} (hp : P5 p) (h1 : 0 < u) (h2 : u < p) : slopeC p (Sc p u a) = Sc p u (slopeC p a) := by
  have hr := hp.rng
  have e : slopeR p (Sc p u a) = Sc p u (slopeR p a) := by
    unfold slopeR Sc
    rw [List.map_drop]
    congr 1
    apply List.ext_getElem?
    intro i
    rw [List.getElem?_mapIdx, List.getElem?_map, List.getElem?_map, List.getElem?_mapIdx]
    cases a[i]? with
    | none => rfl
    | some x =>
      simp only [Option.map_some, Option.some.injEq]
      apply Cg.out
      exact (Cg.rfl.mul Cg.md).trans ((Cg.of_eq (by grind)).trans (Cg.rfl.mul Cg.md.symm))
  unfold slopeC
  rw [e]
  exact trim_Sc hp h1 h2 _ _ (Nat.le_refl _) (slopeR_inn (by omega))
theorem shLen_Sc {p u : Int} {a : List Int} (hp : P5 p) (h1 : 0 < u) (h2 : u < p) (ha : Inn p a) : shLen p (Sc p u a) (slopeC p (Sc p u a)) = shLen p a (slopeC p a) := by
  have hr := hp.rng
  obtain ⟨s1, s2, _⟩ := slopeC_ok (p := p) (a := a) (by omega)
  rw [slopeC_Sc hp h1 h2]
  exact gcdC_Sc hp 1000 _ _ u u h1 h2 h1 h2 ha s1 s2
/-! ### values of rows times u, and roots -/
theorem valC_Sc_aux {p u x : Int} : ∀ (ys : List Int) (m n : Int), m = (u * n) % p → (ys.map fun c => (u * c) % p).foldl (valF p x) m = (u * ys.foldl (valF p x) n) % p
  | [], m, n, h => h
  | c :: ys, m, n, h => by
    refine valC_Sc_aux ys _ _ ?_
    unfold valF
    subst h
    apply Cg.out
    refine ((Cg.md.mul Cg.rfl).add Cg.md).trans ((Cg.of_eq ?_).trans (Cg.rfl.mul Cg.md.symm))
    grind
theorem valC_Sc {p u x : Int} {xs : List Int} : valC p (Sc p u xs) x = (u * valC p xs x) % p := by
  unfold valC Sc
  rw [← List.map_reverse]
  exact valC_Sc_aux _ 0 0 (by simp)
/-- roots of a value -/
def rtsC (p v : Int) : List Int := (rangeI 0 p).filter fun y => (y * y) % p == v
/-- the least number without a root -/
def nsq (p : Int) : Int := if p = 3 then 2 else if p = 5 then 2 else if p = 7 then 3 else if p = 11 then 2 else 2
theorem nsq_rng {p : Int} (hp : P5 p) : 0 < nsq p ∧ nsq p < p := by
  rcases hp with rfl | rfl | rfl | rfl | rfl <;> decide
theorem rts_two {p v : Int} (hp : P5 p) (h1 : 0 ≤ v) (h2 : v < p) : (rtsC p v).length + (rtsC p ((nsq p * v) % p)).length = 2 := by
  have m : v ∈ rangeI 0 p := mem_rangeI.mpr ⟨h1, h2⟩
  have a3 : ∀ v ∈ rangeI 0 3, (rtsC 3 v).length + (rtsC 3 ((nsq 3 * v) % 3)).length = 2 := by decide +kernel
  have a5 : ∀ v ∈ rangeI 0 5, (rtsC 5 v).length + (rtsC 5 ((nsq 5 * v) % 5)).length = 2 := by decide +kernel
  have a7 : ∀ v ∈ rangeI 0 7, (rtsC 7 v).length + (rtsC 7 ((nsq 7 * v) % 7)).length = 2 := by decide +kernel
  have a11 : ∀ v ∈ rangeI 0 11, (rtsC 11 v).length + (rtsC 11 ((nsq 11 * v) % 11)).length = 2 := by decide +kernel
  have a13 : ∀ v ∈ rangeI 0 13, (rtsC 13 v).length + (rtsC 13 ((nsq 13 * v) % 13)).length = 2 := by decide +kernel
  rcases hp with rfl | rfl | rfl | rfl | rfl
  · exact a3 v m
  · exact a5 v m
  · exact a7 v m
  · exact a11 v m
  · exact a13 v m
/-- points by trial -/
def ptsC (p : Int) (xs : List Int) (rs : List Int) : List D := (rs.map fun x => (rtsC p (valC p xs x)).map fun y => D.tup [.int x, .int y]).flatten
theorem pts_two {p : Int} {xs : List Int} (hp : P5 p) : ∀ rs : List Int, (ptsC p (Sc p (nsq p) xs) rs).length + (ptsC p xs rs).length = 2 * rs.length
  | [] => rfl
  | r :: rs => by
    have hr := hp.rng
    have ih := pts_two (xs := xs) hp rs
    obtain ⟨v1, v2⟩ := valC_rng (p := p) (x := r) (xs := xs) (by omega)
    have h := rts_two hp v1 v2
    unfold ptsC at ih ⊢
    simp only [List.map_cons, List.flatten_cons, List.length_append, List.length_map, List.length_cons, valC_Sc] at ih ⊢
    omega
theorem rangeI_len {lo hi : Int} : (rangeI lo hi).length = (hi - lo).toNat := by simp [rangeI]
end K06
set_option Elab.async false
set_option linter.all false
set_option maxRecDepth 100000
set_option maxHeartbeats 4000000
namespace K06
open PySem PySem.Spec L2 Zp
/-! ### the curve as data -/
def curC (p : Int) (xs : List Int) : D := .obj 0 [.int p, .tup (L xs), .int ((xs.length : Int) - 1), .int (((xs.length : Int) - 1 - 1) / 2), .int (xs.getLastD 0)]
theorem init_exc {n d : D} {w : Str} {s : PenS} (h : m_curve_breach [n, d] s = .ok (.str w) s) : m_Curve___init [n, d] s = .exc 2 [.str w] s := by
  unfold m_Curve___init runI
  simp only [List.map_cons, List.map_nil, List.length_cons, List.length_nil, List.cons_append, List.nil_append, Nat.reduceAdd, Nat.reduceSub, List.replicate, b_Curve___init]
  simp only [a_sSeq, a_sSet, a_eCallD, a_aCons, a_aNil, a_eVar, List.getElem?_cons_succ, List.getElem?_cons_zero, b_ok, List.append_nil, List.length_cons, List.length_nil, Nat.reduceAdd, if_true, h, s_ok, q_nx, List.set_cons_succ, List.set_cons_zero, a_sIf, a_tOf, a_eOp, a_eC, dNotN, l_some, o_bool, a_sRaise, q_exc]
theorem init_ok {p : Int} {d : D} {b : Bool} {xs : List Int} {s : PenS} (h : m_curve_breach [.int p, d] s = .ok .non s) (hd : seqOf d = some (b, L xs)) (h0 : xs ≠ []) : m_Curve___init [.int p, d] s = .ok (curC p xs) s := by
  obtain ⟨ys, z, rfl⟩ := (snoc_cases xs).resolve_left h0
  have hl : (L (ys ++ [z])).length = (ys ++ [z]).length := by simp
  have e1 : dIx (b, L (ys ++ [z])) (.int (-1)) = some (.int z) := dIx_last b ys z
  have hz : (ys ++ [z]).getLastD 0 = z := by simp
  have d2 : ∀ i : Int, dDiv (.int i) (.int 2) = some (.int (i / 2)) := fun i => o_divI (by decide) (by decide)
  unfold m_Curve___init runI
  simp only [List.map_cons, List.map_nil, List.length_cons, List.length_nil, List.cons_append, List.nil_append, Nat.reduceAdd, Nat.reduceSub, List.replicate, b_Curve___init]
  rw [a_sSeq, a_sSet]
  simp only [a_eCallD, a_aCons, a_aNil, a_eVar, List.getElem?_cons_succ, List.getElem?_cons_zero, b_ok, List.append_nil, List.length_cons, List.length_nil, Nat.reduceAdd, if_true, h, s_ok, q_nx, List.set_cons_succ, List.set_cons_zero]
  rw [a_sSeq, a_sIf]
  simp only [a_tOf, a_eOp, a_eC, a_eVar, List.getElem?_cons_succ, List.getElem?_cons_zero, b_ok, dNotN, l_some, o_bool, s_ok, Bool.false_eq_true, if_false, a_sNil, q_nx]
  have f1 : ∀ ρ, eVar 1 (Sv.ins 0 [] :: .val (.int p) :: ρ) s = .ok (.int p) s := fun _ => rfl
  rw [a_sSeq, fld_set (f1 _) (fs' := [("p", .int p)]) rfl (by simp), q_nx]
  have f2 : ∀ x y ρ, eB dTupOf (bOf (eVar 2)) (x :: y :: .val d :: ρ) s = .ok (.tup (L (ys ++ [z]))) s := fun _ _ _ => by
    simp only [a_eB, a_bOf, a_eVar, List.getElem?_cons_succ, List.getElem?_cons_zero, b_ok, hd, l_some, o_tupOf]
  rw [a_sSeq, fld_set (f2 _ _ _) (fs' := [("p", .int p), ("f", .tup (L (ys ++ [z])))]) rfl (by simp), q_nx]
  have f3 : ∀ x y ρ, eOp dSub (eB dLen (bOf (eVar 2))) (eC (.int 1)) (x :: y :: .val d :: ρ) s = .ok (.int (((ys ++ [z]).length : Int) - 1)) s := fun _ _ _ => by
    simp only [a_eOp, a_eC, a_eB, a_bOf, a_eVar, List.getElem?_cons_succ, List.getElem?_cons_zero, b_ok, hd, l_some, o_len, hl, o_subI]
  rw [a_sSeq, fld_set (f3 _ _ _) (fs' := [("p", .int p), ("f", .tup (L (ys ++ [z]))), ("degree", .int (((ys ++ [z]).length : Int) - 1))]) rfl (by simp), q_nx]
  have f4 : ∀ ρ, eOp dDiv (eOp dSub (eFldS 0 0 "degree") (eC (.int 1))) (eC (.int 2)) (Sv.ins 0 [("p", .int p), ("f", .tup (L (ys ++ [z]))), ("degree", .int (((ys ++ [z]).length : Int) - 1))] :: ρ) s = .ok (.int ((((ys ++ [z]).length : Int) - 1 - 1) / 2)) s := fun ρ => by
    have q : eFldS 0 0 "degree" (Sv.ins 0 [("p", .int p), ("f", .tup (L (ys ++ [z]))), ("degree", .int (((ys ++ [z]).length : Int) - 1))] :: ρ) s = .ok (.int (((ys ++ [z]).length : Int) - 1)) s := rfl
    simp only [a_eOp, q, a_eC, b_ok, l_some, o_subI, d2]
  rw [a_sSeq, fld_set (f4 _) (fs' := [("p", .int p), ("f", .tup (L (ys ++ [z]))), ("degree", .int (((ys ++ [z]).length : Int) - 1)), ("genus", .int ((((ys ++ [z]).length : Int) - 1 - 1) / 2))]) rfl (by simp), q_nx]
  have f5 : ∀ x y ρ, eBE dIx (bOf (eVar 2)) (eUn dNeg (eC (.int 1))) (x :: y :: .val d :: ρ) s = .ok (.int z) s := fun _ _ _ => by
    simp only [a_eBE, a_eUn, o_negI, a_eC, a_bOf, a_eVar, List.getElem?_cons_succ, List.getElem?_cons_zero, b_ok, hd, l_some, e1]
  rw [fld_set (f5 _ _ _) (fs' := [("p", .int p), ("f", .tup (L (ys ++ [z]))), ("degree", .int (((ys ++ [z]).length : Int) - 1)), ("genus", .int ((((ys ++ [z]).length : Int) - 1 - 1) / 2)), ("lead", .int z)]) rfl (by simp)]
  unfold curC
  rw [hz]
  rfl
end K06
set_option Elab.async false
set_option linter.all false
set_option maxRecDepth 100000
set_option maxHeartbeats 4000000
namespace K06
open PySem PySem.Spec L2 Zp
theorem need_ok {p : Int} {xs : List Int} {s : PenS} : m_need_curve [curC p xs] s = .ok .non s := by kernel_rfl
theorem fld_p {p : Int} {xs : List Int} : fldD 0 0 (curC p xs) = some (.int p) := rfl
theorem fld_f {p : Int} {xs : List Int} : fldD 0 1 (curC p xs) = some (.tup (L xs)) := rfl
theorem fld_d {p : Int} {xs : List Int} : fldD 0 2 (curC p xs) = some (.int ((xs.length : Int) - 1)) := rfl
theorem fld_g {p : Int} {xs : List Int} : fldD 0 3 (curC p xs) = some (.int (((xs.length : Int) - 1 - 1) / 2)) := rfl
theorem fld_l {p : Int} {xs : List Int} : fldD 0 4 (curC p xs) = some (.int (xs.getLastD 0)) := rfl
theorem rg_p {p : Int} (hp : P5 p) : rg2 (.int 0) (.int p) = some (L (rangeI 0 p)) := by
  have hr := hp.rng
  exact rg2_of (rgB_of (by omega) (by omega)) (rgB_of (by omega) (by omega))
theorem rg_len {p : Int} : (L (rangeI 0 p)).length = (rangeI 0 p).length := by simp
theorem rg_sz {p : Int} (hp : P5 p) : szB (L (rangeI 0 p)).length = true := by
  have hr := hp.rng
  rw [rg_len, rangeI_len]
  exact szB_of (by omega)
theorem m_square_roots_eq {p v : Int} (s : PenS) (hp : P5 p) (h1 : 0 ≤ v) (h2 : v < p) : m_square_roots [.int p, .int v] s = .ok (.lst (L (rtsC p v))) s := by
  have hr := hp.rng
  have hv : v % p = v := Int.emod_eq_of_lt h1 h2
  have c := comp_ints (gf := gN 2) (ft := tOf (eOp dEq (eOp dMod (eOp dMul (eVar 2) (eVar 2)) (eVar 0)) (eOp dMod (eVar 1) (eVar 0)))) (fe := eVar 2) (ρ := [.val (.int p), .val (.int v), .no]) (s := s) (fun y => (y * y) % p == v) id (rangeI 0 p) fun y hy => ⟨_, rfl, by
    have := mem_rangeI.mp hy
    simp [o_mulI (mulOk_sm (i := y) (j := y) (by omega) (by omega) (by omega) (by omega)), o_modI (show 0 < p by omega), hv]
    rfl, fun _ => rfl⟩
  rw [List.map_id] at c
  rw [m_square_roots, m_run]
  simp only [List.map_cons, List.map_nil, List.length_cons, List.length_nil, List.cons_append, List.nil_append, Nat.reduceAdd, Nat.reduceSub, List.replicate, b_square_roots]
  simp only [a_sRet, a_eFrz, a_oComp, a_iRange1, a_eVar, List.getElem?_cons_succ, List.getElem?_cons_zero, b_ok, rg_p hp, l_some, rg_sz hp, if_true, wipeS, List.set_cons_succ, List.set_cons_zero, c, s_ok]
  rfl
/-- a curve's values along the line -/
def valsC (p : Int) (xs : List Int) : List Int := (rangeI 0 p).map (valC p xs)
theorem m_line_of_eq {p : Int} {xs : List Int} (s : PenS) (hp : P5 p) : m_line_of [curC p xs] s = .ok (.lst (L (valsC p xs))) s := by
  have hr := hp.rng
  have c := comp_map (gf := gN 1) (fe := eCallD 3 m_mod_value [] (aCons (eUn (fldD 0 0) (eVar 0)) (aCons (eUn (fldD 0 1) (eVar 0)) (aCons (eVar 1) aNil)))) (ρ := [.val (curC p xs), .no]) (s := s) (valC p xs) (rangeI 0 p) fun x hx => ⟨_, rfl, by
    have h := mem_rangeI.mp hx
    have e := m_mod_value_eq (p := p) (x := x) (xs := xs) s hp h.1 h.2
    simp only [a_eCallD, a_aCons, a_aNil, a_eUn, a_eVar, List.set_cons_succ, List.set_cons_zero, List.getElem?_cons_succ, List.getElem?_cons_zero, b_ok, fld_p, fld_f, l_some, List.append_nil, List.length_cons, List.length_nil, Nat.reduceAdd, if_true, e]⟩
  rw [m_line_of, m_run]
  simp only [List.map_cons, List.map_nil, List.length_cons, List.length_nil, List.cons_append, List.nil_append, Nat.reduceAdd, Nat.reduceSub, List.replicate, b_line_of]
  simp only [a_sRet, a_eFrz, a_oComp, a_iRange1, a_eUn, a_eVar, List.getElem?_cons_succ, List.getElem?_cons_zero, b_ok, fld_p, rg_p hp, l_some, rg_sz hp, if_true, wipeS, List.set_cons_succ, List.set_cons_zero, c, s_ok]
  rfl
theorem m_line_values_eq {p : Int} {xs : List Int} (s : PenS) (hp : P5 p) : m_line_values [curC p xs] s = .ok (.tup (L (valsC p xs))) s := by
  rw [m_line_values, m_run]
  simp only [List.map_cons, List.map_nil, List.length_cons, List.length_nil, List.cons_append, List.nil_append, Nat.reduceAdd, Nat.reduceSub, List.replicate, b_line_values]
  simp only [a_sSeq, a_sDrop, a_sRet, a_eB, a_bOf, a_eCallD, a_aCons, a_aNil, a_eVar, List.getElem?_cons_succ, List.getElem?_cons_zero, b_ok, List.append_nil, List.length_cons, List.length_nil, Nat.reduceAdd, if_true, need_ok, s_ok, q_nx, m_line_of_eq s hp, o_seqL, l_some, o_tupOf]
/-! ### points -/
def tw (x : Int) (ys : List Int) : List D := ys.map fun y => D.tup [.int x, .int y]
theorem comp_tw {gf : GF} {fe : EF} {ρ : List Sv} {s : PenS} (x : Int) : ∀ ys : List Int, (∀ y ∈ ys, ∃ ρ1, gf (.int y) ρ = some ρ1 ∧ fe ρ1 s = .ok (.tup [.int x, .int y]) s) → compGo gf tYesF fe ρ (L ys) s = .ok (tw x ys) s
  | [], _ => rfl
  | y :: ys, h => by
    obtain ⟨ρ1, h1, h2⟩ := h y List.mem_cons_self
    have ih := comp_tw (gf := gf) (fe := fe) (ρ := ρ) (s := s) x ys fun z hz => h z (List.mem_cons_of_mem _ hz)
    show compGo gf tYesF fe ρ (D.int y :: L ys) s = _
    unfold compGo
    rw [h1]
    simp only [a_tYesF, x_ok, b_ok, if_true, h2, ih]
    rfl
def ptsE (p : Int) : Nat → List Int → List D
  | _, [] => []
  | k, v :: vs => tw k (rtsC p v) ++ ptsE p (k + 1) vs
theorem rts_len {p v : Int} (hp : P5 p) : (rtsC p v).length ≤ 13 := by
  have hr := hp.rng
  unfold rtsC
  exact Nat.le_trans (List.length_filter_le _ _) (by rw [rangeI_len]; omega)
theorem tw_len {x : Int} {ys : List Int} : (tw x ys).length = ys.length := by simp [tw]
theorem rts_inn {p v : Int} : Inn p (rtsC p v) := fun x hx => mem_rangeI.mp (List.mem_filter.mp hx).1
theorem points_loop {p : Int} {C : D} {s : PenS} (hp : P5 p) (hC : fldD 0 0 C = some (.int p)) : ∀ (vs : List Int) (k : Nat) (acc : List D) (a b : Sv), Inn p vs → acc.length + 13 * vs.length ≤ 16777216 →
    ∃ a' b', forGo (gT [2, 3]) (sSet 1 (eOp dAdd (eVar 1) (eFrz (oComp [4] (iEB (eCallD 2 m_square_roots [] (aCons (eUn (fldD 0 0) (eVar 0)) (aCons (eVar 3) aNil)))) (gN 4) tYesF (eTup (aCons (eVar 2) (aCons (eVar 4) aNil))))))) (enumI k vs) [.val C, .val (.lst acc), a, b, .no] s
      = .nx [.val C, .val (.lst (acc ++ ptsE p k vs)), a', b', .no] s
  | [], k, acc, a, b, _, _ => ⟨a, b, by rw [ptsE, List.append_nil]; rfl⟩
  | v :: vs, k, acc, a, b, hi, hl => by
    simp only [List.length_cons] at hl
    have hv := hi v List.mem_cons_self
    have r13 := rts_len (p := p) (v := v) hp
    have e := m_square_roots_eq (p := p) (v := v) s hp hv.1 hv.2
    have hs : szB (L (rtsC p v)).length = true := szB_of (by rw [List.length_map]; omega)
    have hs2 : szB 2 = true := rfl
    have c := comp_tw (gf := gN 4) (fe := eTup (aCons (eVar 2) (aCons (eVar 4) aNil))) (ρ := [.val C, .val (.lst acc), .val (.int (k : Nat)), .val (.int v), .no]) (s := s) k (rtsC p v) fun y hy => ⟨_, rfl, by
      simp only [a_eTup, a_aCons, a_aNil, a_eVar, List.set_cons_succ, List.set_cons_zero, List.getElem?_cons_succ, List.getElem?_cons_zero, b_ok, List.length_cons, List.length_nil, Nat.reduceAdd, hs2, if_true, l_some]⟩
    have ad : dAdd (.lst acc) (.lst (tw k (rtsC p v))) = some (.lst (acc ++ tw k (rtsC p v))) := by
      show (if _ then _ else _) = _
      rw [if_pos (szB_of (by rw [tw_len]; omega))]
    obtain ⟨a', b', ih⟩ := points_loop (C := C) (s := s) hp hC vs (k + 1) (acc ++ tw k (rtsC p v)) (.val (.int (k : Nat))) (.val (.int v)) (fun z hz => hi z (List.mem_cons_of_mem _ hz)) (by rw [List.length_append, tw_len]; omega)
    refine ⟨a', b', ?_⟩
    rw [ptsE, ← List.append_assoc, ← ih]
    have en : enumI k (v :: vs) = .tup [.int k, .int v] :: enumI (k + 1) vs := rfl
    rw [en]
    conv => lhs; unfold forGo
    simp only [gT, gNs, List.set_cons_succ, List.set_cons_zero, a_sSet, a_eOp, a_eFrz, a_oComp, a_iEB, a_eCallD, a_aCons, a_aNil, a_eUn, a_eVar, List.getElem?_cons_succ, List.getElem?_cons_zero, b_ok, hC, l_some, List.append_nil, List.length_cons, List.length_nil, Nat.reduceAdd, if_true, e, hs, wipeS, c, ad, s_ok]
theorem ptsE_eq {p : Int} {xs : List Int} : ∀ (n k : Nat), (p - k).toNat = n → ptsE p k ((rangeI k p).map (valC p xs)) = ptsC p xs (rangeI k p)
  | 0, k, h => by rw [rangeI_nil (by omega)]; rfl
  | n + 1, k, h => by
    rw [rangeI_cons (by omega)]
    have ih := ptsE_eq (p := p) (xs := xs) n (k + 1) (by omega)
    simp only [List.map_cons, ptsE, ptsC, List.flatten_cons]
    have e : ((k : Int) + 1) = ((k + 1 : Nat) : Int) := by omega
    rw [e, ih]
    rfl
theorem valsC_inn {p : Int} {xs : List Int} (hp : P5 p) : Inn p (valsC p xs) := fun x hx => by
  have hr := hp.rng
  obtain ⟨y, _, rfl⟩ := List.mem_map.mp hx
  exact valC_rng (by omega)
theorem valsC_len {p : Int} {xs : List Int} : (valsC p xs).length = p.toNat := by simp [valsC, rangeI_len]
theorem m_points_eq {p : Int} {xs : List Int} (s : PenS) (hp : P5 p) : m_points [curC p xs] s = .ok (.tup (ptsC p xs (rangeI 0 p))) s := by
  have hr := hp.rng
  obtain ⟨a', b', e⟩ := points_loop (p := p) (C := curC p xs) (s := s) hp rfl (valsC p xs) 0 [] .no .no (valsC_inn hp) (by rw [valsC_len]; simp; omega)
  have e2 : ptsE p 0 (valsC p xs) = ptsC p xs (rangeI 0 p) := ptsE_eq p.toNat 0 (by omega)
  rw [List.nil_append, e2] at e
  have en : enumD 0 (L (valsC p xs)) = enumI 0 (valsC p xs) := enumD_L _ _
  rw [m_points, m_run]
  simp only [List.map_cons, List.map_nil, List.length_cons, List.length_nil, List.cons_append, List.nil_append, Nat.reduceAdd, Nat.reduceSub, List.replicate, b_points]
  have hs0 : szB 0 = true := rfl
  simp only [a_sSeq, a_sDrop, a_eCallD, a_aCons, a_aNil, a_eVar, List.getElem?_cons_succ, List.getElem?_cons_zero, b_ok, List.append_nil, List.length_cons, List.length_nil, Nat.reduceAdd, if_true, need_ok, s_ok, q_nx, a_sSet, a_eFrz, a_oLst, hs0, l_some, List.set_cons_succ, List.set_cons_zero]
  rw [a_sFor]
  simp only [a_iEnE, a_eCallD, a_aCons, a_aNil, a_eVar, List.getElem?_cons_succ, List.getElem?_cons_zero, b_ok, List.append_nil, List.length_cons, List.length_nil, Nat.reduceAdd, if_true, m_line_of_eq s hp, en, s_ok]
  rw [e]
  simp only [q_nx, a_sRet, a_eB, a_bOf, a_eVar, List.getElem?_cons_succ, List.getElem?_cons_zero, b_ok, o_seqL, l_some, o_tupOf, s_ok]
end K06
set_option Elab.async false
set_option linter.all false
set_option maxRecDepth 100000
set_option maxHeartbeats 4000000
namespace K06
open PySem PySem.Spec L2 Zp
/-- a row that makes a curve -/
structure Good (p : Int) (xs : List Int) : Prop where
  inn : Inn p xs
  tr : Tr xs
  lo : 2 ≤ xs.length
  hi : xs.length ≤ 9
  one : shLen p xs (slopeC p xs) = 1
theorem rowB_of {p : Int} {xs : List Int} (h : Inn p xs) (t : Tr xs) : rowB p xs = true := by
  unfold rowB
  rw [innB_ok.mpr h]
  rcases t with rfl | ⟨ys, z, rfl, hz⟩
  · simp
  · simp [hz]
theorem Good.non {p : Int} {xs : List Int} (g : Good p xs) : codeC p xs = .non := codeC_non (rowB_of g.inn g.tr) ⟨g.lo, g.hi⟩ g.one
theorem Good.sc {p u : Int} {xs : List Int} (g : Good p xs) (hp : P5 p) (h1 : 0 < u) (h2 : u < p) : Good p (Sc p u xs) :=
  ⟨Sc_inn (by omega), Sc_tr hp h1 h2 g.inn g.tr, by rw [Sc_len]; exact g.lo, by rw [Sc_len]; exact g.hi, by rw [shLen_Sc hp h1 h2 g.inn]; exact g.one⟩
theorem Good.ne {p : Int} {xs : List Int} (g : Good p xs) : xs ≠ [] := fun h => by have := g.lo; subst h; simp at this
theorem init_good {p : Int} {d : D} {b : Bool} {xs : List Int} (s : PenS) (hp : P5 p) (g : Good p xs) (hd : d = (if b = true then .tup (L xs) else .lst (L xs))) : m_Curve___init [.int p, d] s = .ok (curC p xs) s := by
  have e := m_curve_breach_eq (p := p) s hp hd (by have := g.hi; omega)
  rw [g.non] at e
  exact init_ok (b := b) e (by subst hd; cases b <;> rfl) g.ne
theorem m_nsq_eq {p : Int} (s : PenS) (hp : P5 p) : m_least_no_square [.int p] s = .ok (.int (nsq p)) s := by
  rcases hp with rfl | rfl | rfl | rfl | rfl <;> kernel_rfl
theorem m_scaled_eq {p u : Int} {xs : List Int} (s : PenS) (hp : P5 p) (h1 : 0 < u) (h2 : u < p) (hi : Inn p xs) (ht : Tr xs) (lx : xs.length ≤ 100) : m_mod_scaled [.int p, .tup (L xs), .int u] s = .ok (.tup (L (Sc p u xs))) s := by
  have hr := hp.rng
  have hs : szB (L xs).length = true := szB_of (by rw [List.length_map]; omega)
  have c := comp_map (gf := gN 3) (fe := eOp dMod (eOp dMul (eVar 3) (eVar 2)) (eVar 0)) (ρ := [.val (.int p), .val (.tup (L xs)), .val (.int u), .no]) (s := s) (fun x => (u * x) % p) xs fun x hx => ⟨_, rfl, by
    have := hi x hx
    simp [o_mulI (mulOk_sm (i := x) (j := u) (by omega) (by omega) (by omega) (by omega)), o_modI (show 0 < p by omega), Int.mul_comm x u]⟩
  have t := m_trimmed_eq (d := .lst (L (Sc p u xs))) (b := false) (xs := Sc p u xs) s rfl (by rw [Sc_len]; omega)
  have e : trim (Sc p u xs) = Sc p u xs := by
    rcases Sc_tr hp h1 h2 hi ht with h | ⟨ys, z, h, hz⟩
    · rw [h]; rfl
    · rw [h, trim_snoc, if_neg hz]
  rw [e] at t
  rw [m_mod_scaled, m_run]
  simp only [List.map_cons, List.map_nil, List.length_cons, List.length_nil, List.cons_append, List.nil_append, Nat.reduceAdd, Nat.reduceSub, List.replicate, b_mod_scaled]
  simp only [a_sRet, a_eCallD, a_aCons, a_aNil, a_eFrz, a_oComp, a_iEB, a_eVar, List.getElem?_cons_succ, List.getElem?_cons_zero, b_ok, hs, if_true, wipeS, List.set_cons_succ, List.set_cons_zero, c]
  have t' : m_trimmed [.lst (L (xs.map fun x => (u * x) % p))] s = .ok (.tup (L (Sc p u xs))) s := t
  simp only [List.append_nil, List.length_cons, List.length_nil, Nat.reduceAdd, if_true, t', s_ok]
theorem m_flipped_eq {p : Int} {xs : List Int} (s : PenS) (hp : P5 p) (g : Good p xs) : m_flipped [curC p xs] s = .ok (curC p (Sc p (nsq p) xs)) s := by
  obtain ⟨n1, n2⟩ := nsq_rng hp
  have e1 := m_scaled_eq (p := p) (u := nsq p) (xs := xs) s hp n1 n2 g.inn g.tr (by have := g.hi; omega)
  have e2 := init_good (d := .tup (L (Sc p (nsq p) xs))) (b := true) s hp (g.sc hp n1 n2) rfl
  rw [m_flipped, m_run]
  simp only [List.map_cons, List.map_nil, List.length_cons, List.length_nil, List.cons_append, List.nil_append, Nat.reduceAdd, Nat.reduceSub, List.replicate, b_flipped]
  simp only [a_sSeq, a_sDrop, a_sRet, a_eCall, a_eCallD, a_aCons, a_aNil, a_eUn, a_eVar, List.getElem?_cons_succ, List.getElem?_cons_zero, b_ok, List.append_nil, List.length_cons, List.length_nil, Nat.reduceAdd, if_true, need_ok, s_ok, q_nx, fld_p, fld_f, l_some, m_nsq_eq s hp, e1, e2]
/-! ### equality -/
theorem sh_pair {p : Int} {xs : List Int} : shapedD (.tup [.int p, .tup (L xs)]) = true := nice_shaped (k := 2) (by simp only [niceD, niceDs, Bool.true_and, Bool.and_true]; exact nice_L 0 xs) (by decide)
theorem dEq_pair {p : Int} {xs ys : List Int} : dEq (.tup [.int p, .tup (L xs)]) (.tup [.int p, .tup (L ys)]) = some (.bl (decide (xs = ys))) := by
  rw [dEq_of sh_pair sh_pair]
  simp [toP, toPs, PyData.eqv, PyData.eqvAll, eqv_L]
theorem isi_cur {p : Int} {xs : List Int} : dIsC os_Curve (curC p xs) = some (.bl true) := rfl
theorem m_eq_eq {p : Int} {xs ys : List Int} (s : PenS) : m_Curve___eq [curC p xs, curC p ys] s = .ok (.bl (decide (xs = ys))) s := by
  have hs2 : szB 2 = true := rfl
  rw [m_Curve___eq, m_run]
  simp only [List.map_cons, List.map_nil, List.length_cons, List.length_nil, List.cons_append, List.nil_append, Nat.reduceAdd, Nat.reduceSub, List.replicate, b_Curve___eq]
  simp only [a_sRet, a_eAndV, a_eUn, a_eVar, List.getElem?_cons_succ, List.getElem?_cons_zero, b_ok, isi_cur, l_some, a_eOp, a_eTup, a_aCons, a_aNil, fld_p, fld_f, List.length_cons, List.length_nil, Nat.reduceAdd, hs2, if_true, dEq_pair, s_ok]
theorem m_eq_lst {p : Int} {xs : List Int} {d : D} (s : PenS) (hd : dIsC os_Curve d = some (.bl false)) : m_Curve___eq [curC p xs, d] s = .ok (.bl false) s := by
  rw [m_Curve___eq, m_run]
  simp only [List.map_cons, List.map_nil, List.length_cons, List.length_nil, List.cons_append, List.nil_append, Nat.reduceAdd, Nat.reduceSub, List.replicate, b_Curve___eq]
  simp only [a_sRet, a_eAndV, a_eUn, a_eVar, List.getElem?_cons_succ, List.getElem?_cons_zero, b_ok, hd, l_some, s_ok]
/-! ### values that make no curve -/
theorem br_2 {f : D} (s : PenS) : m_curve_breach [.int 2, f] s = .ok (.str "prime") s := by kernel_rfl
theorem br_9 {f : D} (s : PenS) : m_curve_breach [.int 9, f] s = .ok (.str "prime") s := by kernel_rfl
theorem br_non {f : D} (s : PenS) : m_curve_breach [.non, f] s = .ok (.str "prime") s := by kernel_rfl
theorem br_bl {f : D} {b : Bool} (s : PenS) : m_curve_breach [.bl b, f] s = .ok (.str "prime") s := by kernel_rfl
theorem br_pnon {p : Int} (s : PenS) (hp : P5 p) : m_curve_breach [.int p, .non] s = .ok (.str "row") s := by
  rcases hp with rfl | rfl | rfl | rfl | rfl <;> kernel_rfl
theorem br_pint {p i : Int} (s : PenS) (hp : P5 p) : m_curve_breach [.int p, .int i] s = .ok (.str "row") s := by
  rcases hp with rfl | rfl | rfl | rfl | rfl <;> kernel_rfl
theorem wh_2 {f : D} (s : PenS) : m_l_law_why [.int 2, f] s = .ok (.str "prime") s := by kernel_rfl
theorem wh_9 {f : D} (s : PenS) : m_l_law_why [.int 9, f] s = .ok (.str "prime") s := by kernel_rfl
theorem wh_non {f : D} (s : PenS) : m_l_law_why [.non, f] s = .ok (.str "prime") s := by kernel_rfl
theorem wh_bl {f : D} {b : Bool} (s : PenS) : m_l_law_why [.bl b, f] s = .ok (.str "prime") s := by kernel_rfl
theorem wh_pnon {p : Int} (s : PenS) (hp : P5 p) : m_l_law_why [.int p, .non] s = .ok (.str "row") s := by
  rcases hp with rfl | rfl | rfl | rfl | rfl <;> kernel_rfl
theorem wh_pint {p i : Int} (s : PenS) (hp : P5 p) : m_l_law_why [.int p, .int i] s = .ok (.str "row") s := by
  rcases hp with rfl | rfl | rfl | rfl | rfl <;> kernel_rfl
theorem codeC_word {p : Int} {xs : List Int} : codeC p xs = .non ∨ ∃ x, codeC p xs = .str x ∧ PyData.strOk x = true := by
  unfold codeC
  split
  · exact .inr ⟨_, rfl, by decide +kernel⟩
  · split
    · exact .inr ⟨_, rfl, by decide +kernel⟩
    · split
      · exact .inl rfl
      · exact .inr ⟨_, rfl, by decide +kernel⟩
end K06
set_option Elab.async false
set_option linter.all false
set_option maxRecDepth 100000
set_option maxHeartbeats 4000000
namespace K06
open PySem PySem.Spec L2 Zp
/-! ### products: only of what kind they are -/
theorem wt_inner {p v : Int} {i0 : Nat} {A B : Sv} {s : PenS} (hp : P5 p) (hv : 0 ≤ v ∧ v < p) : ∀ (cs : List Int) (i : Nat) (r : List Int) (x y : Sv), Inn p cs → i0 + i + cs.length ≤ r.length →
    ∃ r' x' y', r'.length = r.length ∧ forGo (gT [5, 6]) (sIx 2 (eOp dAdd (eVar 3) (eVar 5)) (eOp dAdd (eBE dIx (bOwn 2) (eOp dAdd (eVar 3) (eVar 5))) (eOp dMul (eVar 4) (eVar 6)))) (enumI i cs) [A, B, .own (L r), .val (.int i0), .val (.int v), x, y] s
      = .nx [A, B, .own (L r'), .val (.int i0), .val (.int v), x', y'] s
  | [], i, r, x, y, _, _ => ⟨r, x, y, rfl, rfl⟩
  | c :: cs, i, r, x, y, h2, h3 => by
    simp only [List.length_cons] at h3
    have hr := hp.rng
    have hk : i0 + i < r.length := by omega
    have hc := h2 c List.mem_cons_self
    have e3 : ((i0 : Int) + (i : Int)) = ((i0 + i : Nat) : Int) := by omega
    have e1 : dIx (false, L r) (.int ((i0 : Int) + (i : Int))) = some (.int r[i0 + i]) := by rw [e3]; exact dIx_at false r (i0 + i) hk
    have e2 : ixN (L r).length ((i0 : Int) + (i : Int)) = some (i0 + i) := by rw [e3]; exact ixN_at (by simpa using hk)
    have e4 : mulOk v c = true := mulOk_sm (by omega) (by omega) (by omega) (by omega)
    generalize r[i0 + i] = z at e1
    have e6 : (L r).set (i0 + i) (.int (z + v * c)) = L (r.set (i0 + i) (z + v * c)) := by rw [L, L, List.map_set]
    obtain ⟨r', x', y', el, e⟩ := wt_inner (A := A) (B := B) (s := s) (i0 := i0) hp hv cs (i + 1) (r.set (i0 + i) (z + v * c)) (.val (.int i)) (.val (.int c)) (fun z hz => h2 z (List.mem_cons_of_mem _ hz)) (by simp; omega)
    refine ⟨r', x', y', by simpa using el, ?_⟩
    have en : enumI i (c :: cs) = .tup [.int i, .int c] :: enumI (i + 1) cs := rfl
    rw [en, ← e]
    conv => lhs; unfold forGo
    simp only [gT, gNs, List.set_cons_succ, List.set_cons_zero, a_sIx, a_eOp, a_eBE, a_bOwn, a_eVar, List.getElem?_cons_succ, List.getElem?_cons_zero, b_ok, l_some, o_addI, e1, o_mulI e4, s_ok, sIxK, e2, e6]
theorem wt_outer {p : Int} {A : Sv} {b : List Int} {s : PenS} (hp : P5 p) (hb : Inn p b) : ∀ (cs : List Int) (i : Nat) (r : List Int) (u v x y : Sv), Inn p cs → i + cs.length + b.length ≤ r.length + 1 → 
    ∃ r' u' v' x' y', r'.length = r.length ∧ forGo (gT [3, 4]) (sFor (iEnE (eVar 1)) (gT [5, 6]) (sIx 2 (eOp dAdd (eVar 3) (eVar 5)) (eOp dAdd (eBE dIx (bOwn 2) (eOp dAdd (eVar 3) (eVar 5))) (eOp dMul (eVar 4) (eVar 6))))) (enumI i cs) [A, .val (.lst (L b)), .own (L r), u, v, x, y] s
      = .nx [A, .val (.lst (L b)), .own (L r'), u', v', x', y'] s
  | [], i, r, u, v, x, y, _, _ => ⟨r, u, v, x, y, rfl, rfl⟩
  | c :: cs, i, r, u, v, x, y, h2, h3 => by
    simp only [List.length_cons] at h3
    have hc := h2 c List.mem_cons_self
    obtain ⟨r1, x1, y1, l1, e1⟩ := wt_inner (p := p) (v := c) (i0 := i) (A := A) (B := .val (.lst (L b))) (s := s) hp hc b 0 r x y hb (by omega)
    obtain ⟨r', u', v', x', y', el, e⟩ := wt_outer (A := A) (s := s) hp hb cs (i + 1) r1 (.val (.int i)) (.val (.int c)) x1 y1 (fun z hz => h2 z (List.mem_cons_of_mem _ hz)) (by omega)
    refine ⟨r', u', v', x', y', by omega, ?_⟩
    have en : enumI i (c :: cs) = .tup [.int i, .int c] :: enumI (i + 1) cs := rfl
    have e7 : enumD 0 (L b) = enumI 0 b := enumD_L b 0
    rw [en, ← e]
    conv => lhs; unfold forGo
    simp only [gT, gNs, List.set_cons_succ, List.set_cons_zero]
    rw [a_sFor]
    simp only [a_iEnE, a_eVar, List.getElem?_cons_succ, List.getElem?_cons_zero, b_ok, e7, s_ok]
    simp only [e1]
theorem m_w_times_eq {p : Int} {a b : List Int} (s : PenS) (hp : P5 p) (ha : Inn p a) (hb : Inn p b) (la : a.length ≤ 100) (lb : b.length ≤ 100) : ∃ r : List Int, r.length ≤ a.length + b.length ∧ m_l_law_w_times [.lst (L a), .lst (L b)] s = .ok (.lst (L r)) s := by
  have hs0 : szB 0 = true := rfl
  have n1 : dEq (.lst (L a)) (.lst []) = some (.bl (decide (a = []))) := dEq_lst (b := [])
  have n2 : dEq (.lst (L b)) (.lst []) = some (.bl (decide (b = []))) := dEq_lst (b := [])
  rw [m_l_law_w_times, m_run]
  simp only [List.map_cons, List.map_nil, List.length_cons, List.length_nil, List.cons_append, List.nil_append, Nat.reduceAdd, Nat.reduceSub, List.replicate, b_l_law_w_times]
  rw [a_sSeq, a_sIf]
  simp only [a_tOrF, a_tOf, a_eOp, a_eFrz, a_oLst, a_aNil, a_eVar, List.getElem?_cons_succ, List.getElem?_cons_zero, b_ok, List.length_nil, hs0, if_true, l_some, n1, n2, o_bool]
  by_cases h1 : a = []
  · exact ⟨[], Nat.zero_le _, by simp [h1, hs0]⟩
  · by_cases h2 : b = []
    · exact ⟨[], Nat.zero_le _, by simp [h1, h2, hs0]⟩
    · have p1 := List.length_pos_iff.mpr h1
      have p2 := List.length_pos_iff.mpr h2
      simp only [h1, h2, decide_false, Bool.false_eq_true, if_false, s_ok, a_sNil, q_nx]
      obtain ⟨r', u', v', x', y', el, e⟩ := wt_outer (p := p) (A := .val (.lst (L a))) (b := b) (s := s) hp hb a 0 (List.replicate (a.length + b.length - 1) 0) .no .no .no .no ha (by simp; omega)
      have hla : (L a).length = a.length := by simp
      have hlb : (L b).length = b.length := by simp
      have e5 := rep0 (k := a.length + b.length - 1) (by omega)
      have e6 : (((a.length + b.length - 1 : Nat)) : Int) = (a.length : Int) + (b.length : Int) - 1 := by omega
      rw [e6] at e5
      have hfb : (eOp dSub (eOp dAdd (eB dLen (bOf (eVar 0))) (eB dLen (bOf (eVar 1)))) (eC (.int 1))) [.val (.lst (L a)), .val (.lst (L b)), .no, .no, .no, .no, .no] s = .ok (.int ((a.length : Int) + (b.length : Int) - 1)) s := by
        simp only [a_eOp, a_eC, a_eB, a_bOf, a_eVar, List.getElem?_cons_succ, List.getElem?_cons_zero, b_ok, o_seqL, l_some, o_len, hla, hlb, o_subI, o_addI]
      have hrep : oRep (oLst (aCons (eC (.int 0)) aNil)) (eOp dSub (eOp dAdd (eB dLen (bOf (eVar 0))) (eB dLen (bOf (eVar 1)))) (eC (.int 1))) [.val (.lst (L a)), .val (.lst (L b)), .no, .no, .no, .no, .no] s = .ok (L (List.replicate (a.length + b.length - 1) 0)) s := by
        rw [a_oRep, lst1, b_ok, hfb, b_ok, e5, l_some]
      have e7 : enumD 0 (L a) = enumI 0 a := enumD_L a 0
      rw [a_sSeq, a_sSetO, hrep, s_ok, q_nx]
      simp only [List.set_cons_succ, List.set_cons_zero]
      rw [a_sSeq, a_sFor]
      simp only [a_iEnE, a_eVar, List.getElem?_cons_succ, List.getElem?_cons_zero, b_ok, e7, s_ok]
      rw [e]
      have lr : r'.length < 1000 := by rw [el]; simp; omega
      have t := m_cut_eq (d := .lst (L r')) (b := false) (xs := r') s rfl lr
      refine ⟨trim r', ?_, ?_⟩
      · have := trim_len _ r' (Nat.le_refl _) r'.length (fun k hk x hx => absurd (List.getElem?_eq_some_iff.mp hx).1 (by omega))
        rw [el] at this
        simp at this
        omega
      · simp only [q_nx, a_sFrz, frz, List.getElem?_cons_succ, List.getElem?_cons_zero, List.set_cons_succ, List.set_cons_zero, a_sRet, a_eCallD, a_aCons, a_aNil, a_eVar, b_ok, List.append_nil, List.length_cons, List.length_nil, Nat.reduceAdd, if_true, t, s_ok]
theorem trim_le (xs : List Int) : (trim xs).length ≤ xs.length := trim_len _ xs (Nat.le_refl _) xs.length (fun k hk x hx => absurd (List.getElem?_eq_some_iff.mp hx).1 (by omega))
theorem m_times_eq {p : Int} {a b : List Int} (s : PenS) (hp : P5 p) (ha : Inn p a) (hb : Inn p b) (la : a.length ≤ 100) (lb : b.length ≤ 100) : ∃ r : List Int, Inn p r ∧ Tr r ∧ r.length ≤ a.length + b.length ∧ m_l_law_m_times [.int p, .lst (L a), .lst (L b)] s = .ok (.lst (L r)) s := by
  have hr := hp.rng
  obtain ⟨r, l, e⟩ := m_w_times_eq (p := p) (a := a) (b := b) s hp ha hb la lb
  have hs : szB (L r).length = true := szB_of (by rw [List.length_map]; omega)
  have c := comp_map (gf := gN 3) (fe := eOp dMod (eUn dInt (eVar 3)) (eVar 0)) (ρ := [.val (.int p), .val (.lst (L a)), .val (.lst (L b)), .no]) (s := s) (fun x => x % p) r fun x hx => ⟨_, rfl, by simp [o_modI (show 0 < p by omega)]⟩
  have t := m_cut_eq (d := .lst (L (r.map fun x => x % p))) (b := false) (xs := r.map fun x => x % p) s rfl (by simp; omega)
  refine ⟨trim (r.map fun x => x % p), fun x hx => ?_, trim_tr _ _ (Nat.le_refl _), ?_, ?_⟩
  · obtain ⟨y, _, rfl⟩ := List.mem_map.mp (trim_mem _ _ (Nat.le_refl _) x hx)
    exact ⟨Int.emod_nonneg _ (by omega), Int.emod_lt_of_pos _ (by omega)⟩
  · have := trim_le (r.map fun x => x % p)
    rw [List.length_map] at this
    omega
  · rw [m_l_law_m_times, m_run]
    simp only [List.map_cons, List.map_nil, List.length_cons, List.length_nil, List.cons_append, List.nil_append, Nat.reduceAdd, Nat.reduceSub, List.replicate, b_l_law_m_times]
    simp only [a_sRet, a_eCallD, a_aCons, a_aNil, a_eFrz, a_oComp, a_iEB, a_oB, a_bOf, a_eVar, List.getElem?_cons_succ, List.getElem?_cons_zero, b_ok, o_seqL, l_some, o_listOf, List.append_nil, List.length_cons, List.length_nil, Nat.reduceAdd, if_true, e, hs, wipeS, List.set_cons_succ, List.set_cons_zero, c, t, s_ok]
end K06
set_option Elab.async false
set_option linter.all false
set_option maxRecDepth 100000
set_option maxHeartbeats 4000000
namespace K06
open PySem PySem.Spec L2 Zp
/-! ### the pen's words -/
theorem m_draw_eq {n : Nat} {s : PenS} {many : Int} (h : PJ n s) (hn : n ≤ 1000000) (hm : 0 < many) (hm2 : many < 1073741824) : ∃ v s', m_l_law_draw [.pen, .int many] s = .ok (.int v) s' ∧ 0 ≤ v ∧ v < many ∧ PJ (n + 1) s' := draw_eq h hn hm hm2
theorem m_pick_eq {n : Nat} {s : PenS} {xs : List D} (h : PJ n s) (hn : n ≤ 1000000) (h0 : xs ≠ []) (hl : xs.length < 1000000) : ∃ x ∈ xs, ∃ s', m_l_law_pick [.pen, .lst xs] s = .ok x s' ∧ PJ (n + 1) s' := by
  have lp := List.length_pos_iff.mpr h0
  obtain ⟨v, s', e, h1, h2, j⟩ := m_draw_eq (many := (xs.length : Int)) h hn (by omega) (by omega)
  have hv : (v.toNat : Int) = v := by omega
  have hx0 : dIx (false, xs) (.int (v.toNat : Nat)) = some (xs[v.toNat]'(by omega)) := dIx_nat false xs v.toNat (by omega)
  have hx : dIx (false, xs) (.int v) = some (xs[v.toNat]'(by omega)) := (congrArg (fun i => dIx (false, xs) (.int i)) hv.symm).trans hx0
  refine ⟨xs[v.toNat]'(by omega), List.getElem_mem _, s', ?_, j⟩
  rw [m_l_law_pick, m_run]
  simp only [List.map_cons, List.map_nil, List.length_cons, List.length_nil, List.cons_append, List.nil_append, Nat.reduceAdd, Nat.reduceSub, List.replicate, b_l_law_pick]
  simp only [a_sRet, a_eBE, a_bOf, a_eCallD, a_aCons, a_aNil, a_eB, a_eVar, List.getElem?_cons_succ, List.getElem?_cons_zero, b_ok, o_seqL, l_some, o_len, List.append_nil, List.length_cons, List.length_nil, Nat.reduceAdd, if_true, e, hx, s_ok]
theorem m_listed_eq {n : Nat} {s : PenS} {xs : List Int} (h : PJ n s) (hn : n ≤ 1000000) : ∃ (b : Bool) (s' : PenS), m_l_law_listed [.pen, .lst (L xs)] s = .ok (if b = true then .tup (L xs) else .lst (L xs)) s' ∧ PJ (n + 1) s' := by
  obtain ⟨v, s', e, h1, h2, j⟩ := m_draw_eq (many := 2) h hn (by decide) (by decide)
  refine ⟨!decide (v = 0), s', ?_, j⟩
  rw [m_l_law_listed, m_run]
  simp only [List.map_cons, List.map_nil, List.length_cons, List.length_nil, List.cons_append, List.nil_append, Nat.reduceAdd, Nat.reduceSub, List.replicate, b_l_law_listed]
  simp only [a_sRet, a_eIf, a_tOf, a_eOp, a_eCallD, a_aCons, a_aNil, a_eC, a_eVar, List.getElem?_cons_succ, List.getElem?_cons_zero, b_ok, l_some, List.append_nil, List.length_cons, List.length_nil, Nat.reduceAdd, if_true, e, dEq_int, o_bool]
  by_cases hv : v = 0
  · simp [hv]
  · simp [hv]
/-- a row drawn, with a last number of its own -/
theorem tr_of {z : Int} {ys : List Int} (hz : z ≠ 0) : Tr (ys ++ [z]) := .inr ⟨ys, z, rfl, hz⟩
theorem good11 {p : Int} (hp : P5 p) : Good p [1, 1] := by
  have hr := hp.rng
  refine ⟨fun x hx => ?_, .inr ⟨[1], 1, rfl, by decide⟩, by decide, by decide, ?_⟩
  · simp at hx; subst hx; omega
  · rcases hp with rfl | rfl | rfl | rfl | rfl <;> decide +kernel
theorem row_draw {p dg : Int} {n : Nat} {s : PenS} {a b c d e : Sv} (hp : P5 p) (h : PJ n s) (hn : n + 100 ≤ 1000000) (hd0 : 0 ≤ dg) (hd : dg ≤ 10) : ∃ ys s', (ys.length : Int) = dg ∧ Inn p ys ∧ PJ (n + 10) s' ∧ oComp [6] (iRange1 (eVar 5)) (gN 6) tYesF (eCallD 2 m_l_law_draw [] (aCons (eVar 0) (aCons (eVar 3) aNil))) [.val .pen, a, b, .val (.int p), c, .val (.int dg), d, e] s = .ok (L ys) s' := by
  have hr := hp.rng
  have hl : (L (rangeI 0 dg)).length = dg.toNat := by rw [List.length_map, rangeI_len]; omega
  obtain ⟨ys, s', e1, l, q, j⟩ := comp_drawsN (gf := gN 6) (fe := eCallD 2 m_l_law_draw [] (aCons (eVar 0) (aCons (eVar 3) aNil))) (ρ := [.val .pen, a, b, .val (.int p), c, .val (.int dg), .no, e]) (fun x => 0 ≤ x ∧ x < p) (fun y m t ht hm => by
    obtain ⟨v, t', e, h1, h2, j⟩ := m_draw_eq (many := p) ht hm (by omega) (by omega)
    refine ⟨_, rfl, v, t', ?_, ⟨h1, h2⟩, j⟩
    simp only [a_eCallD, a_aCons, a_aNil, a_eVar, List.set_cons_succ, List.set_cons_zero, List.getElem?_cons_succ, List.getElem?_cons_zero, b_ok, List.append_nil, List.length_cons, List.length_nil, Nat.reduceAdd, if_true, e]) (L (rangeI 0 dg)) n s h (by rw [hl]; omega)
  rw [hl] at l j
  refine ⟨ys, s', by omega, q, j.mono (by omega), ?_⟩
  have hrg : rg2 (.int 0) (.int dg) = some (L (rangeI 0 dg)) := rg2_of (rgB_of (by omega) (by omega)) (rgB_of (by omega) (by omega))
  have hs : szB (L (rangeI 0 dg)).length = true := by rw [hl]; exact szB_of (by omega)
  have hi : iRange1 (eVar 5) [.val .pen, a, b, .val (.int p), c, .val (.int dg), d, e] s = .ok (L (rangeI 0 dg)) s := by
    simp only [a_iRange1, a_eVar, List.getElem?_cons_succ, List.getElem?_cons_zero, b_ok, hrg, l_some]
  rw [oComp_of hi hs (ρ' := [.val .pen, a, b, .val (.int p), c, .val (.int dg), .no, e]) rfl]
  exact e1
end K06
set_option Elab.async false
set_option linter.all false
set_option maxRecDepth 100000
set_option maxHeartbeats 4000000
namespace K06
open PySem PySem.Spec L2 Zp
def lapB : SF := (sSeq (sSet 5 (eOp dAdd (eC (.int 1)) (eCallD 2 m_l_law_draw [] (aCons (eVar 0) (aCons (eVar 2) aNil))))) (sSeq (sSet 7 (eOp dAdd (eFrz (oComp [6] (iRange1 (eVar 5)) (gN 6) tYesF (eCallD 2 m_l_law_draw [] (aCons (eVar 0) (aCons (eVar 3) aNil))))) (eFrz (oLst (aCons (eOp dAdd (eC (.int 1)) (eCallD 2 m_l_law_draw [] (aCons (eVar 0) (aCons (eOp dSub (eVar 3) (eC (.int 1))) aNil)))) aNil))))) (sIf (tOf (eOp dEq (eB dLen (bOf (eCallD 3 m_l_law_m_common [] (aCons (eVar 3) (aCons (eVar 7) (aCons (eCallD 2 m_l_law_m_slope [] (aCons (eVar 3) (aCons (eVar 7) aNil))) aNil)))))) (eC (.int 1)))) (sRet (eTup (aCons (eVar 3) (aCons (eVar 7) aNil)))) sNil)))
theorem lap_eq {p : Int} {n : Nat} {s : PenS} {A l d k f : Sv} (hp : P5 p) (h : PJ n s) (hn : n + 200 ≤ 1000000) : ∃ (xs : List Int) (d' : Sv) (s' : PenS), PJ (n + 20) s' ∧
    ((Good p xs ∧ lapB [.val .pen, A, .val (.int 8), .val (.int p), l, d, k, f] s = .ret (.tup [.int p, .lst (L xs)]) s') ∨ lapB [.val .pen, A, .val (.int 8), .val (.int p), l, d, k, f] s = .nx [.val .pen, A, .val (.int 8), .val (.int p), l, d', k, .val (.lst (L xs))] s') := by
  have hr := hp.rng
  obtain ⟨v, s1, e1, v1, v2, j1⟩ := m_draw_eq (many := 8) h (by omega) (by decide) (by decide)
  obtain ⟨ys, s2, ly, iy, j2, e2⟩ := row_draw (p := p) (dg := 1 + v) (n := n + 1) (s := s1) (a := A) (b := .val (.int 8)) (c := l) (d := k) (e := f) hp j1 (by omega) (by omega) (by omega)
  obtain ⟨z, s3, e3, z1, z2, j3⟩ := m_draw_eq (many := p - 1) j2 (by omega) (by omega) (by omega)
  have hz : (1 + z) ≠ 0 := by omega
  have inn : Inn p (ys ++ [1 + z]) := fun x hx => by
    rcases List.mem_append.mp hx with hx | hx
    · exact iy x hx
    · simp at hx; omega
  have tr : Tr (ys ++ [1 + z]) := tr_of hz
  have hlb : (ys ++ [1 + z]).length = ys.length + 1 := by simp
  have ad : dAdd (.lst (L ys)) (.lst [.int (1 + z)]) = some (.lst (L (ys ++ [1 + z]))) := by
    show (if _ then _ else _) = _
    rw [if_pos (szB_of (by rw [List.length_map]; simp; omega))]
    simp
  have hs1 : szB 1 = true := rfl
  have hs2 : szB 2 = true := rfl
  obtain ⟨q1, q2, q3⟩ := slopeC_ok (p := p) (a := ys ++ [1 + z]) (by omega)
  have es := m_slope_eq (p := p) (a := ys ++ [1 + z]) s3 hp inn (by omega)
  obtain ⟨gs, g1, ec⟩ := m_common_eq (p := p) (a := ys ++ [1 + z]) (b := slopeC p (ys ++ [1 + z])) s3 hp inn tr (by simp) (by omega) q1 q2 (by omega)
  have hlg : (L gs).length = gs.length := by simp
  refine ⟨ys ++ [1 + z], .val (.int (1 + v)), s3, j3.mono (by omega), ?_⟩
  unfold lapB
  rw [a_sSeq, a_sSet]
  simp only [a_eOp, a_eC, a_eCallD, a_aCons, a_aNil, a_eVar, List.getElem?_cons_succ, List.getElem?_cons_zero, b_ok, l_some, List.append_nil, List.length_cons, List.length_nil, Nat.reduceAdd, if_true, e1, o_addI, s_ok, q_nx, List.set_cons_succ, List.set_cons_zero]
  rw [a_sSeq, a_sSet]
  simp only [a_eOp, a_eFrz, e2, b_ok, a_oLst, a_eC, a_eCallD, a_aCons, a_aNil, a_eVar, List.getElem?_cons_succ, List.getElem?_cons_zero, l_some, List.append_nil, List.length_cons, List.length_nil, Nat.reduceAdd, if_true, o_subI, e3, o_addI, hs1, ad, s_ok, q_nx, List.set_cons_succ, List.set_cons_zero]
  rw [a_sIf]
  simp only [a_tOf, a_eOp, a_eB, a_bOf, a_eC, a_eCallD, a_aCons, a_aNil, a_eVar, List.getElem?_cons_succ, List.getElem?_cons_zero, b_ok, l_some, List.append_nil, List.length_cons, List.length_nil, Nat.reduceAdd, if_true, es, ec, o_seqL, o_len, hlg, g1, dEq_int, o_bool, s_ok]
  by_cases h1 : shLen p (ys ++ [1 + z]) (slopeC p (ys ++ [1 + z])) = 1
  · refine .inl ⟨⟨inn, tr, by omega, by omega, h1⟩, ?_⟩
    rw [h1]
    simp only [Int.cast_ofNat_Int, decide_true, if_true, a_sRet, a_eTup, a_aCons, a_aNil, a_eVar, List.getElem?_cons_succ, List.getElem?_cons_zero, b_ok, List.length_cons, List.length_nil, Nat.reduceAdd, hs2, l_some, s_ok]
  · refine .inr ?_
    have : ¬ ((shLen p (ys ++ [1 + z]) (slopeC p (ys ++ [1 + z])) : Int) = 1) := by omega
    simp only [this, decide_false, Bool.false_eq_true, if_false, a_sNil]
theorem laps {p : Int} {A : Sv} (hp : P5 p) : ∀ (ds : List D) (n : Nat) (s : PenS) (l d k f : Sv), PJ n s → n + 20 * ds.length + 200 ≤ 1000000 → ∃ s', PJ (n + 20 * ds.length) s' ∧
    ((∃ xs, Good p xs ∧ forGo (gN 4) lapB ds [.val .pen, A, .val (.int 8), .val (.int p), l, d, k, f] s = .ret (.tup [.int p, .lst (L xs)]) s') ∨ ∃ l' d' f', forGo (gN 4) lapB ds [.val .pen, A, .val (.int 8), .val (.int p), l, d, k, f] s = .nx [.val .pen, A, .val (.int 8), .val (.int p), l', d', k, f'] s')
  | [], n, s, l, d, k, f, h, _ => ⟨s, h, .inr ⟨l, d, f, rfl⟩⟩
  | x :: ds, n, s, l, d, k, f, h, hn => by
    have hl : (x :: ds).length = ds.length + 1 := rfl
    obtain ⟨xs, d', s1, j1, e⟩ := lap_eq (A := A) (l := .val x) (d := d) (k := k) (f := f) hp h (by omega)
    rcases e with ⟨g, e⟩ | e
    · refine ⟨s1, j1.mono (by omega), .inl ⟨xs, g, ?_⟩⟩
      conv => lhs; unfold forGo
      simp only [gN, List.set_cons_succ, List.set_cons_zero, e]
    · obtain ⟨s', j, r⟩ := laps (A := A) hp ds (n + 20) s1 (.val x) d' k (.val (.lst (L xs))) j1 (by omega)
      refine ⟨s', j.mono (by omega), ?_⟩
      rcases r with ⟨ws, g, r⟩ | ⟨l', d2, f', r⟩
      · refine .inl ⟨ws, g, ?_⟩
        conv => lhs; unfold forGo
        simp only [gN, List.set_cons_succ, List.set_cons_zero, e]
        exact r
      · refine .inr ⟨l', d2, f', ?_⟩
        conv => lhs; unfold forGo
        simp only [gN, List.set_cons_succ, List.set_cons_zero, e]
        exact r
theorem m_curve_eq {n : Nat} {s : PenS} (h : PJ n s) (hn : n + 2000 ≤ 1000000) : ∃ p xs s', P5 p ∧ Good p xs ∧ PJ (n + 1000) s' ∧ m_l_law_curve [.pen, .lst [.int 3, .int 5, .int 7, .int 11, .int 13], .int 8] s = .ok (.tup [.int p, .lst (L xs)]) s' := by
  obtain ⟨x, hx, s1, e1, j1⟩ := m_pick_eq (xs := [.int 3, .int 5, .int 7, .int 11, .int 13]) h (by omega) (by simp) (by simp)
  have hx' : ∃ p, P5 p ∧ x = .int p := by
    simp only [List.mem_cons, List.not_mem_nil, or_false] at hx
    rcases hx with rfl | rfl | rfl | rfl | rfl
    · exact ⟨3, .inl rfl, rfl⟩
    · exact ⟨5, .inr (.inl rfl), rfl⟩
    · exact ⟨7, .inr (.inr (.inl rfl)), rfl⟩
    · exact ⟨11, .inr (.inr (.inr (.inl rfl))), rfl⟩
    · exact ⟨13, .inr (.inr (.inr (.inr rfl))), rfl⟩
  obtain ⟨p, hp, rfl⟩ := hx'
  have hs2 : szB 2 = true := rfl
  have h40 : rg2 (.int 0) (.int 40) = some (L (rangeI 0 40)) := rg2_of (by decide +kernel) (by decide +kernel)
  have hl40 : (L (rangeI 0 40)).length = 40 := by rw [List.length_map, rangeI_len]; rfl
  obtain ⟨s2, j2, e⟩ := laps (p := p) (A := .val (.lst [.int 3, .int 5, .int 7, .int 11, .int 13])) hp (L (rangeI 0 40)) (n + 1) s1 .no .no .no .no j1 (by rw [hl40]; omega)
  rw [hl40] at j2
  have hb : b_l_law_curve = sSeq (sSet 3 (eCallD 2 m_l_law_pick [] (aCons (eVar 0) (aCons (eVar 1) aNil)))) (sSeq (sFor (iRange1 (eC (.int 40))) (gN 4) lapB) (sRet (eTup (aCons (eVar 3) (aCons (eFrz (oLst (aCons (eC (.int 1)) (aCons (eC (.int 1)) aNil)))) aNil))))) := rfl
  generalize L (rangeI 0 40) = rr at h40 e
  rcases e with ⟨xs, g, e⟩ | ⟨l', d', f', e⟩
  · refine ⟨p, xs, s2, hp, g, j2.mono (by omega), ?_⟩
    rw [m_l_law_curve, m_run, hb]
    simp only [List.map_cons, List.map_nil, List.length_cons, List.length_nil, List.cons_append, List.nil_append, Nat.reduceAdd, Nat.reduceSub, List.replicate]
    rw [a_sSeq, a_sSet]
    simp only [a_eCallD, a_aCons, a_aNil, a_eVar, List.getElem?_cons_succ, List.getElem?_cons_zero, b_ok, List.append_nil, List.length_cons, List.length_nil, Nat.reduceAdd, if_true, e1, s_ok, q_nx, List.set_cons_succ, List.set_cons_zero]
    rw [a_sSeq, a_sFor]
    simp only [a_iRange1, a_eC, b_ok, h40, l_some, s_ok]
    rw [e]
    simp only [q_ret]
  · refine ⟨p, [1, 1], s2, hp, good11 hp, j2.mono (by omega), ?_⟩
    rw [m_l_law_curve, m_run, hb]
    simp only [List.map_cons, List.map_nil, List.length_cons, List.length_nil, List.cons_append, List.nil_append, Nat.reduceAdd, Nat.reduceSub, List.replicate]
    rw [a_sSeq, a_sSet]
    simp only [a_eCallD, a_aCons, a_aNil, a_eVar, List.getElem?_cons_succ, List.getElem?_cons_zero, b_ok, List.append_nil, List.length_cons, List.length_nil, Nat.reduceAdd, if_true, e1, s_ok, q_nx, List.set_cons_succ, List.set_cons_zero]
    rw [a_sSeq, a_sFor]
    simp only [a_iRange1, a_eC, b_ok, h40, l_some, s_ok]
    rw [e]
    simp only [q_nx, a_sRet, a_eTup, a_aCons, a_aNil, a_eFrz, a_oLst, a_eC, a_eVar, List.getElem?_cons_succ, List.getElem?_cons_zero, b_ok, List.length_cons, List.length_nil, Nat.reduceAdd, hs2, if_true, l_some, s_ok]
end K06
set_option Elab.async false
set_option linter.all false
set_option maxRecDepth 100000
set_option maxHeartbeats 4000000
namespace K06
open PySem PySem.Spec L2 Zp
def q1 : SF := (sAsg (eCallD 3 m_l_law_curve [] (aCons (eVar 1) (aCons (eFrz (oLst (aCons (eC (.int 3)) (aCons (eC (.int 5)) (aCons (eC (.int 7)) (aCons (eC (.int 11)) (aCons (eC (.int 13)) aNil))))))) (aCons (eC (.int 8)) aNil)))) (gT [3, 4]))
def q2 : SF := (sPar2 5 6 (vVal (eCall 2 m_Curve___init (aCons (eVar 3) (aCons (eCallD 2 m_l_law_listed [] (aCons (eVar 1) (aCons (eVar 4) aNil))) aNil)))) (vVal (eOp dSub (eB dLen (bOf (eVar 4))) (eC (.int 1)))))
def q3 : SF := (sIf (tOrF (tOf (eOp dNe (eTup (aCons (eUn (fldD 0 0) (eVar 5)) (aCons (eUn (fldD 0 1) (eVar 5)) (aCons (eUn (fldD 0 2) (eVar 5)) (aCons (eUn (fldD 0 4) (eVar 5)) aNil))))) (eTup (aCons (eVar 3) (aCons (eB dTupOf (bOf (eVar 4))) (aCons (eVar 6) (aCons (eBE dIx (bOf (eVar 4)) (eUn dNeg (eC (.int 1)))) aNil))))))) (tOf (eOp dNe (eUn (fldD 0 3) (eVar 5)) (eOp dDiv (eOp dSub (eVar 6) (eC (.int 1))) (eC (.int 2)))))) (sRet (eC (.bl false))) sNil)
def q4 : SF := (sIf (tOrF (tOf (eNeO 0 m_Curve___eq (eVar 5) (eCall 2 m_Curve___init (aCons (eVar 3) (aCons (eB dTupOf (bOf (eVar 4))) aNil))))) (tOrF (tOf (eEqO 0 m_Curve___eq (eVar 5) (eVar 4))) (tOf (eOp dNe (eEqO 0 m_Curve___eq (eVar 5) (eCall 2 m_Curve___init (aCons (eVar 3) (aCons (eFrz (oLst (aCons (eC (.int 1)) (aCons (eC (.int 1)) aNil)))) aNil)))) (eOp dEq (eFrz (oB dListOf (bOf (eVar 4)))) (eFrz (oLst (aCons (eC (.int 1)) (aCons (eC (.int 1)) aNil))))))))) (sRet (eC (.bl false))) sNil)
def q5 : SF := (sSet 8 (eFrz (oComp [7] (iRange1 (eVar 3)) (gN 7) tYesF (eCallD 3 m_l_law_m_at [] (aCons (eVar 3) (aCons (eVar 4) (aCons (eVar 7) aNil)))))))
def q6 : SF := (sSet 9 (eFrz (oLst aNil)))
def q7 : SF := (sFor (iRange1 (eVar 3)) (gN 7) (sSet 9 (eOp dAdd (eVar 9) (eFrz (oComp [10] (iRange1 (eVar 3)) (gN 10) (tOf (eOp dEq (eOp dMod (eUn dInt (eOp dSub (eOp dMul (eVar 10) (eVar 10)) (eBE dIx (bOf (eVar 8)) (eVar 7)))) (eVar 3)) (eC (.int 0)))) (eTup (aCons (eVar 7) (aCons (eVar 10) aNil))))))))
def q8 : SF := (sIf (tOrF (tOf (eOp dNe (eCallD 1 m_points [] (aCons (eVar 5) aNil)) (eB dTupOf (bOf (eVar 9))))) (tOf (eOp dNe (eCallD 1 m_line_values [] (aCons (eVar 5) aNil)) (eB dTupOf (bOf (eVar 8)))))) (sRet (eC (.bl false))) sNil)
def q9 : SF := (sSet 11 (eFrz (oComp [7] (iRange1 (eVar 3)) (gN 7) tYesF (eOp dMod (eUn dInt (eOp dMul (eVar 7) (eVar 7))) (eVar 3)))))
def q10 : SF := (sSet 12 (eBE dIx (bNew (oComp [12] (iRange2 (eC (.int 2)) (eVar 3)) (gN 12) (tOf (eEB (dIn true) (eVar 12) (bOf (eVar 11)))) (eVar 12))) (eC (.int 0))))
def q11 : SF := (sIf (tOrF (tOf (eNeO 0 m_Curve___eq (eCallD 1 m_flipped [] (aCons (eVar 5) aNil)) (eCall 2 m_Curve___init (aCons (eVar 3) (aCons (eFrz (oComp [13] (iEB (eVar 4)) (gN 13) tYesF (eOp dMod (eUn dInt (eOp dMul (eVar 12) (eVar 13))) (eVar 3)))) aNil))))) (tOf (eOp dNe (eOp dAdd (eB dLen (bOf (eCallD 1 m_points [] (aCons (eCallD 1 m_flipped [] (aCons (eVar 5) aNil)) aNil)))) (eB dLen (bOf (eVar 9)))) (eOp dMul (eC (.int 2)) (eVar 3))))) (sRet (eC (.bl false))) sNil)
def q12 : SF := (sSet 15 (eOp dAdd (eFrz (oComp [14] (iRange1 (eOp dAdd (eC (.int 1)) (eCallD 2 m_l_law_draw [] (aCons (eVar 1) (aCons (eC (.int 3)) aNil))))) (gN 14) tYesF (eCallD 2 m_l_law_draw [] (aCons (eVar 1) (aCons (eVar 3) aNil))))) (eFrz (oLst (aCons (eC (.int 1)) aNil)))))
def q13 : SF := (sSet 16 (eCallD 3 m_l_law_m_times [] (aCons (eVar 3) (aCons (eCallD 3 m_l_law_m_times [] (aCons (eVar 3) (aCons (eVar 15) (aCons (eVar 15) aNil)))) (aCons (eVar 4) aNil)))))
def q14 : SF := (sSet 17 (eFrz (oLst (aCons (eTup (aCons (eVar 3) (aCons (eVar 16) aNil))) (aCons (eTup (aCons (eVar 3) (aCons (eC .non) aNil))) (aCons (eTup (aCons (eVar 3) (aCons (eC (.int 3)) aNil))) (aCons (eTup (aCons (eVar 3) (aCons (eFrz (oLst (aCons (eVar 3) aNil))) aNil))) (aCons (eTup (aCons (eVar 3) (aCons (eOp dAdd (eVar 4) (eFrz (oLst (aCons (eC (.int 0)) aNil)))) aNil))) (aCons (eTup (aCons (eVar 3) (aCons (eFrz (oLst (aCons (eC (.int 1)) aNil))) aNil))) (aCons (eTup (aCons (eVar 3) (aCons (eFrz (oLst aNil)) aNil))) (aCons (eTup (aCons (eC (.int 2)) (aCons (eVar 4) aNil))) (aCons (eTup (aCons (eC (.int 9)) (aCons (eVar 4) aNil))) (aCons (eTup (aCons (eC .non) (aCons (eC .non) aNil))) (aCons (eTup (aCons (eC (.bl true)) (aCons (eVar 4) aNil))) (aCons (eTup (aCons (eVar 3) (aCons (eOp dMul (eFrz (oLst (aCons (eC (.int 1)) aNil))) (eC (.int 10))) aNil))) (aCons (eTup (aCons (eVar 3) (aCons (eFrz (oLst (aCons (eUn dNeg (eC (.int 1))) (aCons (eC (.int 1)) aNil)))) aNil))) aNil))))))))))))))))
def q15 : SF := (sAsg (eCallD 2 m_l_law_pick [] (aCons (eVar 1) (aCons (eVar 17) aNil))) (gT [18, 19]))
def q16 : SF := (sSet 20 (eCallD 2 m_l_law_why [] (aCons (eVar 18) (aCons (eVar 19) aNil))))
def q17 : SF := (sIf (tAndF (tOf (eOp dNotN (eVar 20) (eC .non))) (tOf (eOp dNe (eCompl "ok" ex_law xs_l_law_complaint (eCall 2 m_Curve___init (aCons (eVar 18) (aCons (eVar 19) aNil)))) (eTup (aCons (eC (.str "curve")) (aCons (eVar 20) aNil)))))) (sRet (eC (.bl false))) sNil)
def e1 : SF := (sSet 21 (eCallD 2 m_l_law_pick [] (aCons (eVar 1) (aCons (eFrz (oLst (aCons (eC .non) (aCons (eC (.int 3)) (aCons (eTup (aCons (eC (.int 3)) (aCons (eTup (aCons (eC (.int 1)) (aCons (eC (.int 1)) aNil))) aNil))) aNil))))) aNil))))
def e2 : SF := (sSetO 22 (oLst (aCons (eCompl "ok" ex_law xs_l_law_complaint (eCallD 1 m_points [] (aCons (eVar 21) aNil))) aNil)))
def e3 : SF := (sApp 22 (eCompl "ok" ex_law xs_l_law_complaint (eCallD 1 m_line_values [] (aCons (eVar 21) aNil))))
def e4 : SF := (sApp 22 (eCompl "ok" ex_law xs_l_law_complaint (eCallD 1 m_flipped [] (aCons (eVar 21) aNil))))
def e5 : SF := (sFrz 22 (sRet (eOp dEq (eVar 22) (eOp dMul (eFrz (oLst (aCons (eTup (aCons (eC (.str "item")) (aCons (eUn dRepr (eVar 21)) aNil))) aNil))) (eC (.int 3))))))
def lapL : SF := sSeq q1 (sSeq q2 (sSeq q3 (sSeq q4 (sSeq q5 (sSeq q6 (sSeq q7 (sSeq q8 (sSeq q9 (sSeq q10 (sSeq q11 (sSeq q12 (sSeq q13 (sSeq q14 (sSeq q15 (sSeq q16 (q17))))))))))))))))
theorem law_is : b_law = sSeq (sFor (iRange1 (eC (.int 3))) (gN 2) lapL) (sSeq e1 (sSeq e2 (sSeq e3 (sSeq e4 e5)))) := rfl
variable {v0 v1 v2 v3 v4 v5 v6 v7 v8 v9 v10 v11 v12 v13 v14 v15 v16 v17 v18 v19 v20 v21 v22 : Sv}
theorem q1_eq {n : Nat} {s : PenS} (h : PJ n s) (hn : n + 2000 ≤ 1000000) : ∃ p xs s', P5 p ∧ Good p xs ∧ PJ (n + 1000) s' ∧ q1 [v0, .val .pen, v2, v3, v4, v5, v6, v7, v8, v9, v10, v11, v12, v13, v14, v15, v16, v17, v18, v19, v20, v21, v22] s = .nx [v0, .val .pen, v2, .val (.int p), .val (.lst (L xs)), v5, v6, v7, v8, v9, v10, v11, v12, v13, v14, v15, v16, v17, v18, v19, v20, v21, v22] s' := by
  obtain ⟨p, xs, s', hp, g, j, e⟩ := m_curve_eq h hn
  refine ⟨p, xs, s', hp, g, j, ?_⟩
  have hs5 : szB 5 = true := rfl
  unfold q1
  simp only [a_sAsg, a_eCallD, a_eFrz, a_oLst, a_eC, a_eVar, a_aCons, a_aNil, List.append_nil, List.length_cons, List.length_nil, Nat.reduceAdd, if_true, List.getElem?_cons_succ, List.getElem?_cons_zero, b_ok, l_some, s_ok, hs5, e, gT, gNs, List.set_cons_succ, List.set_cons_zero]
theorem q2_eq {n : Nat} {s : PenS} {p : Int} {xs : List Int} (hp : P5 p) (g : Good p xs) (h : PJ n s) (hn : n + 2000 ≤ 1000000) : ∃ s', PJ (n + 1) s' ∧ q2 [v0, .val .pen, v2, .val (.int p), .val (.lst (L xs)), v5, v6, v7, v8, v9, v10, v11, v12, v13, v14, v15, v16, v17, v18, v19, v20, v21, v22] s = .nx [v0, .val .pen, v2, .val (.int p), .val (.lst (L xs)), .val (curC p xs), .val (.int ((xs.length : Int) - 1)), v7, v8, v9, v10, v11, v12, v13, v14, v15, v16, v17, v18, v19, v20, v21, v22] s' := by
  obtain ⟨b, s', e, j⟩ := m_listed_eq (xs := xs) h (by omega)
  refine ⟨s', j, ?_⟩
  have ei := init_good (b := b) s' hp g rfl
  have hl : (L xs).length = xs.length := by simp
  unfold q2
  simp only [a_sPar2, a_vVal, a_eCall, a_eCallD, a_eVar, a_eOp, a_eB, a_bOf, a_eC, a_aCons, a_aNil, List.append_nil, List.length_cons, List.length_nil, Nat.reduceAdd, if_true, List.getElem?_cons_succ, List.getElem?_cons_zero, b_ok, l_some, s_ok, e, ei, o_seqL, o_len, hl, o_subI, List.set_cons_succ, List.set_cons_zero]
theorem sh4 {p d l : Int} {xs : List Int} : shapedD (.tup [.int p, .tup (L xs), .int d, .int l]) = true := nice_shaped (k := 2) (by simp only [niceD, niceDs, Bool.true_and, Bool.and_true]; exact nice_L 0 xs) (by decide)
theorem last_ix {b : Bool} {xs : List Int} (h : xs ≠ []) : dIx (b, L xs) (.int (-1)) = some (.int (xs.getLastD 0)) := by
  obtain ⟨ys, z, rfl⟩ := (snoc_cases xs).resolve_left h
  rw [show (ys ++ [z]).getLastD 0 = z by simp]
  exact dIx_last b ys z
theorem q3_eq {s : PenS} {p : Int} {xs : List Int} (h0 : xs ≠ []) : q3 [v0, .val .pen, v2, .val (.int p), .val (.lst (L xs)), .val (curC p xs), .val (.int ((xs.length : Int) - 1)), v7, v8, v9, v10, v11, v12, v13, v14, v15, v16, v17, v18, v19, v20, v21, v22] s = .nx [v0, .val .pen, v2, .val (.int p), .val (.lst (L xs)), .val (curC p xs), .val (.int ((xs.length : Int) - 1)), v7, v8, v9, v10, v11, v12, v13, v14, v15, v16, v17, v18, v19, v20, v21, v22] s := by
  have hs4 : szB 4 = true := rfl
  have d2 : ∀ i : Int, dDiv (.int i) (.int 2) = some (.int (i / 2)) := fun i => o_divI (by decide) (by decide)
  have dn : dNe (.tup [.int p, .tup (L xs), .int ((xs.length : Int) - 1), .int (xs.getLastD 0)]) (.tup [.int p, .tup (L xs), .int ((xs.length : Int) - 1), .int (xs.getLastD 0)]) = some (.bl false) := dNe_refl sh4
  unfold q3
  simp only [a_sIf, a_tOrF, a_tOf, a_eOp, a_eTup, a_eUn, a_eVar, a_eB, a_eBE, a_bOf, a_eC, a_aCons, a_aNil, List.append_nil, List.length_cons, List.length_nil, Nat.reduceAdd, if_true, List.getElem?_cons_succ, List.getElem?_cons_zero, b_ok, l_some, s_ok, fld_p, fld_f, fld_d, fld_g, fld_l, hs4, o_seqL, o_tupOf, o_negI, last_ix h0, dn, o_bool, Bool.false_eq_true, if_false, o_subI, d2, dNe_int, decide_true, Bool.not_true, a_sNil]
theorem sh_bl {b : Bool} : shapedD (.bl b) = true := nice_shaped (k := 0) (by simp [niceD]) (by decide)
theorem dNe_bl {a : Bool} : dNe (.bl a) (.bl a) = some (.bl false) := dNe_refl sh_bl
theorem q4_eq {s : PenS} {p : Int} {xs : List Int} (hp : P5 p) (g : Good p xs) : q4 [v0, .val .pen, v2, .val (.int p), .val (.lst (L xs)), .val (curC p xs), .val (.int ((xs.length : Int) - 1)), v7, v8, v9, v10, v11, v12, v13, v14, v15, v16, v17, v18, v19, v20, v21, v22] s = .nx [v0, .val .pen, v2, .val (.int p), .val (.lst (L xs)), .val (curC p xs), .val (.int ((xs.length : Int) - 1)), v7, v8, v9, v10, v11, v12, v13, v14, v15, v16, v17, v18, v19, v20, v21, v22] s := by
  have hs2 : szB 2 = true := rfl
  have e1 := init_good (d := .tup (L xs)) (b := true) s hp g rfl
  have e2 : m_Curve___init [.int p, .lst [.int 1, .int 1]] s = .ok (curC p [1, 1]) s := init_good (d := .lst (L [1, 1])) (b := false) s hp (good11 hp) rfl
  have c1 : ∀ ys, isC 0 (curC p ys) = true := fun _ => rfl
  have c2 : ∀ ys, notP 0 (curC p ys) = true := fun _ => rfl
  have c3 : notP 0 (.lst (L xs)) = true := rfl
  have e3 := m_eq_lst (p := p) (xs := xs) (d := .lst (L xs)) s rfl
  have d1 : dEq (.lst (L xs)) (.lst [.int 1, .int 1]) = some (.bl (decide (xs = [1, 1]))) := dEq_lst (b := [1, 1])
  unfold q4
  simp only [a_sIf, a_tOrF, a_tOf, a_eNeO, a_eEqO, a_eCall, a_eVar, a_eB, a_bOf, a_eOp, a_eFrz, a_oLst, a_oB, a_eC, a_aCons, a_aNil, List.append_nil, List.length_cons, List.length_nil, Nat.reduceAdd, if_true, List.getElem?_cons_succ, List.getElem?_cons_zero, b_ok, l_some, s_ok, o_seqL, o_tupOf, o_listOf, e1, e2, c1, c2, c3, Bool.and_self, m_eq_eq, e3, x_ok, bK, decide_true, Bool.not_true, o_bool, Bool.false_eq_true, if_false, id, hs2, d1, dNe_bl, a_sNil]
theorem q5_eq {s : PenS} {p : Int} {xs : List Int} (hp : P5 p) : q5 [v0, .val .pen, v2, .val (.int p), .val (.lst (L xs)), .val (curC p xs), .val (.int ((xs.length : Int) - 1)), v7, v8, v9, v10, v11, v12, v13, v14, v15, v16, v17, v18, v19, v20, v21, v22] s = .nx [v0, .val .pen, v2, .val (.int p), .val (.lst (L xs)), .val (curC p xs), .val (.int ((xs.length : Int) - 1)), v7, .val (.lst (L (valsC p xs))), v9, v10, v11, v12, v13, v14, v15, v16, v17, v18, v19, v20, v21, v22] s := by
  have c := comp_map (gf := gN 7) (fe := eCallD 3 m_l_law_m_at [] (aCons (eVar 3) (aCons (eVar 4) (aCons (eVar 7) aNil)))) (ρ := [v0, .val .pen, v2, .val (.int p), .val (.lst (L xs)), .val (curC p xs), .val (.int ((xs.length : Int) - 1)), .no, v8, v9, v10, v11, v12, v13, v14, v15, v16, v17, v18, v19, v20, v21, v22]) (s := s) (valC p xs) (rangeI 0 p) fun x hx => ⟨_, rfl, by
    have h := mem_rangeI.mp hx
    have e := m_at_eq (p := p) (x := x) (xs := xs) s hp h.1 h.2
    simp only [a_eCallD, a_eVar, a_aCons, a_aNil, List.append_nil, List.length_cons, List.length_nil, Nat.reduceAdd, if_true, List.getElem?_cons_succ, List.getElem?_cons_zero, b_ok, l_some, s_ok, List.set_cons_succ, List.set_cons_zero, e]⟩
  have hi : iRange1 (eVar 3) [v0, .val .pen, v2, .val (.int p), .val (.lst (L xs)), .val (curC p xs), .val (.int ((xs.length : Int) - 1)), v7, v8, v9, v10, v11, v12, v13, v14, v15, v16, v17, v18, v19, v20, v21, v22] s = .ok (L (rangeI 0 p)) s := by
    simp only [a_iRange1, a_eVar, List.getElem?_cons_succ, List.getElem?_cons_zero, b_ok, l_some, s_ok, rg_p hp]
  unfold q5
  rw [a_sSet, a_eFrz, oComp_of hi (rg_sz hp) (ρ' := [v0, .val .pen, v2, .val (.int p), .val (.lst (L xs)), .val (curC p xs), .val (.int ((xs.length : Int) - 1)), .no, v8, v9, v10, v11, v12, v13, v14, v15, v16, v17, v18, v19, v20, v21, v22]) rfl, c]
  simp only [List.getElem?_cons_succ, List.getElem?_cons_zero, b_ok, l_some, s_ok, List.set_cons_succ, List.set_cons_zero]
  rfl
theorem q6_eq {s : PenS} : q6 [v0, v1, v2, v3, v4, v5, v6, v7, v8, v9, v10, v11, v12, v13, v14, v15, v16, v17, v18, v19, v20, v21, v22] s = .nx [v0, v1, v2, v3, v4, v5, v6, v7, v8, .val (.lst []), v10, v11, v12, v13, v14, v15, v16, v17, v18, v19, v20, v21, v22] s := by
  have hs0 : szB 0 = true := rfl
  unfold q6
  simp only [a_sSet, a_eFrz, a_oLst, a_aNil, List.getElem?_cons_succ, List.getElem?_cons_zero, b_ok, l_some, s_ok, List.length_nil, hs0, if_true, List.set_cons_succ, List.set_cons_zero]
end K06
set_option Elab.async false
set_option linter.all false
set_option maxRecDepth 100000
set_option maxHeartbeats 4000000
namespace K06
open PySem PySem.Spec L2 Zp
variable {v0 v1 v2 v3 v4 v5 v6 v7 v8 v9 v10 v11 v12 v13 v14 v15 v16 v17 v18 v19 v20 v21 v22 : Sv}
def dueB : SF := (sSet 9 (eOp dAdd (eVar 9) (eFrz (oComp [10] (iRange1 (eVar 3)) (gN 10) (tOf (eOp dEq (eOp dMod (eUn dInt (eOp dSub (eOp dMul (eVar 10) (eVar 10)) (eBE dIx (bOf (eVar 8)) (eVar 7)))) (eVar 3)) (eC (.int 0)))) (eTup (aCons (eVar 7) (aCons (eVar 10) aNil)))))))
theorem q7_is : q7 = sFor (iRange1 (eVar 3)) (gN 7) dueB := rfl
theorem comp_twf {gf : GF} {ft : TF} {fe : EF} {ρ : List Sv} {s : PenS} (x : Int) (t : Int → Bool) : ∀ ys : List Int, (∀ y ∈ ys, ∃ ρ1, gf (.int y) ρ = some ρ1 ∧ ft ρ1 s = .ok (t y) s ∧ fe ρ1 s = .ok (.tup [.int x, .int y]) s) → compGo gf ft fe ρ (L ys) s = .ok (tw x (ys.filter t)) s
  | [], _ => rfl
  | y :: ys, h => by
    obtain ⟨ρ1, h1, h2, h3⟩ := h y List.mem_cons_self
    have ih := comp_twf (gf := gf) (ft := ft) (fe := fe) (ρ := ρ) (s := s) x t ys fun z hz => h z (List.mem_cons_of_mem _ hz)
    show compGo gf ft fe ρ (D.int y :: L ys) s = _
    unfold compGo
    rw [h1]
    simp only [h2, x_ok, b_ok]
    by_cases ht : t y = true
    · rw [if_pos ht, h3, List.filter_cons_of_pos ht]
      simp only [x_ok, b_ok, ih]
      rfl
    · rw [if_neg ht, ih, List.filter_cons_of_neg ht]
theorem valsC_ix {p k : Int} {xs : List Int} (h1 : 0 ≤ k) (h2 : k < p) : dIx (false, L (valsC p xs)) (.int k) = some (.int (valC p xs k)) := by
  have hk : k = ((k.toNat : Nat) : Int) := by omega
  have hl : k.toNat < (valsC p xs).length := by rw [valsC_len]; omega
  have e := dIx_at false (valsC p xs) k.toNat hl
  rw [← hk] at e
  rw [e]
  congr 2
  unfold valsC rangeI
  simp
  rw [Int.max_eq_left h1]
theorem due_lap {s : PenS} {p k : Int} {xs : List Int} {acc : List D} (hp : P5 p) (h1 : 0 ≤ k) (h2 : k < p) (ha : acc.length ≤ 10000) : dueB [v0, .val .pen, v2, .val (.int p), .val (.lst (L xs)), .val (curC p xs), .val (.int ((xs.length : Int) - 1)), .val (.int k), .val (.lst (L (valsC p xs))), .val (.lst acc), v10, v11, v12, v13, v14, v15, v16, v17, v18, v19, v20, v21, v22] s = .nx [v0, .val .pen, v2, .val (.int p), .val (.lst (L xs)), .val (curC p xs), .val (.int ((xs.length : Int) - 1)), .val (.int k), .val (.lst (L (valsC p xs))), .val (.lst (acc ++ tw k (rtsC p (valC p xs k)))), v10, v11, v12, v13, v14, v15, v16, v17, v18, v19, v20, v21, v22] s := by
  have hr := hp.rng
  have hs2 : szB 2 = true := rfl
  obtain ⟨w1, w2⟩ := valC_rng (p := p) (x := k) (xs := xs) (by omega)
  have hx := valsC_ix (xs := xs) h1 h2
  have c := comp_twf (gf := gN 10) (ft := (tOf (eOp dEq (eOp dMod (eUn dInt (eOp dSub (eOp dMul (eVar 10) (eVar 10)) (eBE dIx (bOf (eVar 8)) (eVar 7)))) (eVar 3)) (eC (.int 0))))) (fe := (eTup (aCons (eVar 7) (aCons (eVar 10) aNil)))) (ρ := [v0, .val .pen, v2, .val (.int p), .val (.lst (L xs)), .val (curC p xs), .val (.int ((xs.length : Int) - 1)), .val (.int k), .val (.lst (L (valsC p xs))), .val (.lst acc), .no, v11, v12, v13, v14, v15, v16, v17, v18, v19, v20, v21, v22]) (s := s) k (fun y => (y * y) % p == valC p xs k) (rangeI 0 p) fun y hy => ⟨_, rfl, by
    have := mem_rangeI.mp hy
    have d : decide ((y * y - valC p xs k) % p = 0) = ((y * y) % p == valC p xs k) := by
      have z : (y * y - valC p xs k) % p = 0 ↔ (y * y) % p = valC p xs k := by
        rw [← Int.emod_eq_emod_iff_emod_sub_eq_zero, Int.emod_eq_of_lt w1 w2]
      by_cases q : (y * y) % p = valC p xs k
      · rw [decide_eq_true (z.mpr q), beq_iff_eq.mpr q]
      · rw [decide_eq_false (fun h => q (z.mp h)), beq_eq_false_iff_ne.mpr q]
    simp only [a_tOf, a_eOp, a_eUn, a_eBE, a_bOf, a_eVar, a_eC, List.getElem?_cons_succ, List.getElem?_cons_zero, b_ok, l_some, s_ok, List.set_cons_succ, List.set_cons_zero, o_seqL, hx, o_mulI (mulOk_sm (i := y) (j := y) (by omega) (by omega) (by omega) (by omega)), o_subI, o_intI, o_modI (show 0 < p by omega), dEq_int, o_bool, d], by
    simp only [a_eTup, a_eVar, a_aCons, a_aNil, List.append_nil, List.length_cons, List.length_nil, Nat.reduceAdd, if_true, List.getElem?_cons_succ, List.getElem?_cons_zero, b_ok, l_some, s_ok, List.set_cons_succ, List.set_cons_zero, hs2]⟩
  have hi : iRange1 (eVar 3) [v0, .val .pen, v2, .val (.int p), .val (.lst (L xs)), .val (curC p xs), .val (.int ((xs.length : Int) - 1)), .val (.int k), .val (.lst (L (valsC p xs))), .val (.lst acc), v10, v11, v12, v13, v14, v15, v16, v17, v18, v19, v20, v21, v22] s = .ok (L (rangeI 0 p)) s := by
    simp only [a_iRange1, a_eVar, List.getElem?_cons_succ, List.getElem?_cons_zero, b_ok, l_some, s_ok, rg_p hp]
  have ad : dAdd (.lst acc) (.lst (tw k (rtsC p (valC p xs k)))) = some (.lst (acc ++ tw k (rtsC p (valC p xs k)))) := by
    have := rts_len (p := p) (v := valC p xs k) hp
    show (if _ then _ else _) = _
    rw [if_pos (szB_of (by rw [tw_len]; omega))]
  unfold dueB
  have co := (oComp_of (gf := gN 10) (ft := (tOf (eOp dEq (eOp dMod (eUn dInt (eOp dSub (eOp dMul (eVar 10) (eVar 10)) (eBE dIx (bOf (eVar 8)) (eVar 7)))) (eVar 3)) (eC (.int 0))))) (fe := (eTup (aCons (eVar 7) (aCons (eVar 10) aNil)))) (vs := [10]) hi (rg_sz hp) (ρ' := [v0, .val .pen, v2, .val (.int p), .val (.lst (L xs)), .val (curC p xs), .val (.int ((xs.length : Int) - 1)), .val (.int k), .val (.lst (L (valsC p xs))), .val (.lst acc), .no, v11, v12, v13, v14, v15, v16, v17, v18, v19, v20, v21, v22]) rfl).trans c
  have c' : tw k ((rangeI 0 p).filter fun y => (y * y) % p == valC p xs k) = tw k (rtsC p (valC p xs k)) := rfl
  simp only [a_sSet, a_eOp, a_eFrz, co, a_eVar, List.getElem?_cons_succ, List.getElem?_cons_zero, b_ok, l_some, s_ok, c', ad, List.set_cons_succ, List.set_cons_zero]
theorem due_loop {s : PenS} {p : Int} {xs : List Int} (hp : P5 p) : ∀ (n : Nat) (k : Int) (acc : List D) (v7 : Sv), 0 ≤ k → (p - k).toNat = n → acc.length + 13 * n ≤ 10000 → ∃ a7, forGo (gN 7) dueB (L (rangeI k p)) [v0, .val .pen, v2, .val (.int p), .val (.lst (L xs)), .val (curC p xs), .val (.int ((xs.length : Int) - 1)), v7, .val (.lst (L (valsC p xs))), .val (.lst acc), v10, v11, v12, v13, v14, v15, v16, v17, v18, v19, v20, v21, v22] s = .nx [v0, .val .pen, v2, .val (.int p), .val (.lst (L xs)), .val (curC p xs), .val (.int ((xs.length : Int) - 1)), a7, .val (.lst (L (valsC p xs))), .val (.lst (acc ++ ptsC p xs (rangeI k p))), v10, v11, v12, v13, v14, v15, v16, v17, v18, v19, v20, v21, v22] s
  | 0, k, acc, v7, h0, h, _ => ⟨v7, by rw [rangeI_nil (by omega), ptsC]; simp; rfl⟩
  | n + 1, k, acc, v7, h0, h, ha => by
    have r13 := rts_len (p := p) (v := valC p xs k) hp
    have e := due_lap (v0 := v0) (v2 := v2) (v10 := v10) (v11 := v11) (v12 := v12) (v13 := v13) (v14 := v14) (v15 := v15) (v16 := v16) (v17 := v17) (v18 := v18) (v19 := v19) (v20 := v20) (v21 := v21) (v22 := v22) (s := s) (xs := xs) (acc := acc) hp h0 (by omega) (by omega)
    obtain ⟨a7, ih⟩ := due_loop (s := s) (xs := xs) hp n (k + 1) (acc ++ tw k (rtsC p (valC p xs k))) (.val (.int k)) (by omega) (by omega) (by rw [List.length_append, tw_len]; omega)
    refine ⟨a7, ?_⟩
    have e2 : acc ++ ptsC p xs (k :: rangeI (k + 1) p) = acc ++ tw k (rtsC p (valC p xs k)) ++ ptsC p xs (rangeI (k + 1) p) := by
      rw [List.append_assoc]
      rfl
    rw [rangeI_cons (by omega), e2, ← ih]
    show forGo (gN 7) dueB (D.int k :: L (rangeI (k + 1) p)) _ s = _
    conv => lhs; unfold forGo
    simp only [gN, List.set_cons_succ, List.set_cons_zero, e]
theorem q7_eq {s : PenS} {p : Int} {xs : List Int} (hp : P5 p) : ∃ a7, q7 [v0, .val .pen, v2, .val (.int p), .val (.lst (L xs)), .val (curC p xs), .val (.int ((xs.length : Int) - 1)), v7, .val (.lst (L (valsC p xs))), .val (.lst []), v10, v11, v12, v13, v14, v15, v16, v17, v18, v19, v20, v21, v22] s = .nx [v0, .val .pen, v2, .val (.int p), .val (.lst (L xs)), .val (curC p xs), .val (.int ((xs.length : Int) - 1)), a7, .val (.lst (L (valsC p xs))), .val (.lst (ptsC p xs (rangeI 0 p))), v10, v11, v12, v13, v14, v15, v16, v17, v18, v19, v20, v21, v22] s := by
  have hr := hp.rng
  obtain ⟨a7, e⟩ := due_loop (v0 := v0) (v2 := v2) (v10 := v10) (v11 := v11) (v12 := v12) (v13 := v13) (v14 := v14) (v15 := v15) (v16 := v16) (v17 := v17) (v18 := v18) (v19 := v19) (v20 := v20) (v21 := v21) (v22 := v22) (s := s) (xs := xs) hp p.toNat 0 [] v7 (Int.le_refl _) (by omega) (by simp; omega)
  refine ⟨a7, ?_⟩
  rw [q7_is, a_sFor]
  simp only [a_iRange1, a_eVar, List.getElem?_cons_succ, List.getElem?_cons_zero, b_ok, l_some, s_ok, rg_p hp]
  rw [e, List.nil_append]
theorem nice_tw (x : Int) : ∀ ys : List Int, niceDs 1 (tw x ys) = true
  | [] => rfl
  | y :: ys => by
    show niceDs 1 (D.tup [.int x, .int y] :: tw x ys) = true
    simp only [niceDs, niceD, Bool.true_and, Bool.and_true]
    exact nice_tw x ys
theorem nices_app {k : Nat} : ∀ xs ys : List D, niceDs k xs = true → niceDs k ys = true → niceDs k (xs ++ ys) = true
  | [], ys, _, h => h
  | x :: xs, ys, h, h2 => by
    have h' : niceD k x = true ∧ niceDs k xs = true := by simpa [niceDs] using h
    show niceDs k (x :: (xs ++ ys)) = true
    simp only [niceDs, h'.1, Bool.true_and]
    exact nices_app xs ys h'.2 h2
theorem nice_pts {p : Int} {xs : List Int} : ∀ rs : List Int, niceDs 1 (ptsC p xs rs) = true
  | [] => rfl
  | r :: rs => by
    show niceDs 1 (tw r (rtsC p (valC p xs r)) ++ ptsC p xs rs) = true
    exact nices_app _ _ (nice_tw _ _) (nice_pts rs)
theorem sh_pts {p : Int} {xs rs : List Int} : shapedD (.tup (ptsC p xs rs)) = true := nice_shaped (k := 2) (by simp only [niceD]; exact nice_pts rs) (by decide)
theorem q8_eq {s : PenS} {p : Int} {xs : List Int} (hp : P5 p) : q8 [v0, .val .pen, v2, .val (.int p), .val (.lst (L xs)), .val (curC p xs), .val (.int ((xs.length : Int) - 1)), v7, .val (.lst (L (valsC p xs))), .val (.lst (ptsC p xs (rangeI 0 p))), v10, v11, v12, v13, v14, v15, v16, v17, v18, v19, v20, v21, v22] s = .nx [v0, .val .pen, v2, .val (.int p), .val (.lst (L xs)), .val (curC p xs), .val (.int ((xs.length : Int) - 1)), v7, .val (.lst (L (valsC p xs))), .val (.lst (ptsC p xs (rangeI 0 p))), v10, v11, v12, v13, v14, v15, v16, v17, v18, v19, v20, v21, v22] s := by
  have n1 : dNe (.tup (ptsC p xs (rangeI 0 p))) (.tup (ptsC p xs (rangeI 0 p))) = some (.bl false) := dNe_refl sh_pts
  have n2 : dNe (.tup (L (valsC p xs))) (.tup (L (valsC p xs))) = some (.bl false) := dNe_refl sh_tup
  unfold q8
  simp only [a_sIf, a_tOrF, a_tOf, a_eOp, a_eCallD, a_eVar, a_eB, a_bOf, a_aCons, a_aNil, List.append_nil, List.length_cons, List.length_nil, Nat.reduceAdd, if_true, List.getElem?_cons_succ, List.getElem?_cons_zero, b_ok, l_some, s_ok, m_points_eq s hp, m_line_values_eq s hp, o_seqL, o_tupOf, n1, n2, o_bool, Bool.false_eq_true, if_false, a_sNil]
def sqsC (p : Int) : List Int := (rangeI 0 p).map fun x => (x * x) % p
theorem q9_eq {s : PenS} {p : Int} {xs : List Int} (hp : P5 p) : q9 [v0, .val .pen, v2, .val (.int p), .val (.lst (L xs)), .val (curC p xs), .val (.int ((xs.length : Int) - 1)), v7, .val (.lst (L (valsC p xs))), .val (.lst (ptsC p xs (rangeI 0 p))), v10, v11, v12, v13, v14, v15, v16, v17, v18, v19, v20, v21, v22] s = .nx [v0, .val .pen, v2, .val (.int p), .val (.lst (L xs)), .val (curC p xs), .val (.int ((xs.length : Int) - 1)), v7, .val (.lst (L (valsC p xs))), .val (.lst (ptsC p xs (rangeI 0 p))), v10, .val (.lst (L (sqsC p))), v12, v13, v14, v15, v16, v17, v18, v19, v20, v21, v22] s := by
  have hr := hp.rng
  have c := comp_map (gf := gN 7) (fe := eOp dMod (eUn dInt (eOp dMul (eVar 7) (eVar 7))) (eVar 3)) (ρ := [v0, .val .pen, v2, .val (.int p), .val (.lst (L xs)), .val (curC p xs), .val (.int ((xs.length : Int) - 1)), .no, .val (.lst (L (valsC p xs))), .val (.lst (ptsC p xs (rangeI 0 p))), v10, v11, v12, v13, v14, v15, v16, v17, v18, v19, v20, v21, v22]) (s := s) (fun x => (x * x) % p) (rangeI 0 p) fun y hy => ⟨_, rfl, by
    have := mem_rangeI.mp hy
    simp only [a_eOp, a_eUn, a_eVar, List.getElem?_cons_succ, List.getElem?_cons_zero, b_ok, l_some, s_ok, List.set_cons_succ, List.set_cons_zero, o_mulI (mulOk_sm (i := y) (j := y) (by omega) (by omega) (by omega) (by omega)), o_intI, o_modI (show 0 < p by omega)]⟩
  have hi : iRange1 (eVar 3) [v0, .val .pen, v2, .val (.int p), .val (.lst (L xs)), .val (curC p xs), .val (.int ((xs.length : Int) - 1)), v7, .val (.lst (L (valsC p xs))), .val (.lst (ptsC p xs (rangeI 0 p))), v10, v11, v12, v13, v14, v15, v16, v17, v18, v19, v20, v21, v22] s = .ok (L (rangeI 0 p)) s := by
    simp only [a_iRange1, a_eVar, List.getElem?_cons_succ, List.getElem?_cons_zero, b_ok, l_some, s_ok, rg_p hp]
  unfold q9
  rw [a_sSet, a_eFrz, oComp_of hi (rg_sz hp) (ρ' := [v0, .val .pen, v2, .val (.int p), .val (.lst (L xs)), .val (curC p xs), .val (.int ((xs.length : Int) - 1)), .no, .val (.lst (L (valsC p xs))), .val (.lst (ptsC p xs (rangeI 0 p))), v10, v11, v12, v13, v14, v15, v16, v17, v18, v19, v20, v21, v22]) rfl, c]
  simp only [List.getElem?_cons_succ, List.getElem?_cons_zero, b_ok, l_some, s_ok, List.set_cons_succ, List.set_cons_zero]
  rfl
theorem q10_eq {s : PenS} {p : Int} {xs : List Int} (hp : P5 p) : q10 [v0, .val .pen, v2, .val (.int p), .val (.lst (L xs)), .val (curC p xs), .val (.int ((xs.length : Int) - 1)), v7, .val (.lst (L (valsC p xs))), .val (.lst (ptsC p xs (rangeI 0 p))), v10, .val (.lst (L (sqsC p))), v12, v13, v14, v15, v16, v17, v18, v19, v20, v21, v22] s = .nx [v0, .val .pen, v2, .val (.int p), .val (.lst (L xs)), .val (curC p xs), .val (.int ((xs.length : Int) - 1)), v7, .val (.lst (L (valsC p xs))), .val (.lst (ptsC p xs (rangeI 0 p))), v10, .val (.lst (L (sqsC p))), .val (.int (nsq p)), v13, v14, v15, v16, v17, v18, v19, v20, v21, v22] s := by
  have key : ∀ v0 v1 v2 v4 v5 v6 v7 v8 v9 v10 v12 v13 v14 v15 v16 v17 v18 v19 v20 v21 v22, q10 [v0, v1, v2, .val (.int p), v4, v5, v6, v7, v8, v9, v10, .val (.lst (L (sqsC p))), v12, v13, v14, v15, v16, v17, v18, v19, v20, v21, v22] s = .nx [v0, v1, v2, .val (.int p), v4, v5, v6, v7, v8, v9, v10, .val (.lst (L (sqsC p))), .val (.int (nsq p)), v13, v14, v15, v16, v17, v18, v19, v20, v21, v22] s := by
    intros
    rcases hp with rfl | rfl | rfl | rfl | rfl <;> kernel_rfl
  exact key v0 (.val .pen) v2 (.val (.lst (L xs))) (.val (curC p xs)) (.val (.int ((xs.length : Int) - 1))) v7 (.val (.lst (L (valsC p xs)))) (.val (.lst (ptsC p xs (rangeI 0 p)))) v10 v12 v13 v14 v15 v16 v17 v18 v19 v20 v21 v22
theorem q11_eq {s : PenS} {p : Int} {xs : List Int} (hp : P5 p) (g : Good p xs) : q11 [v0, .val .pen, v2, .val (.int p), .val (.lst (L xs)), .val (curC p xs), .val (.int ((xs.length : Int) - 1)), v7, .val (.lst (L (valsC p xs))), .val (.lst (ptsC p xs (rangeI 0 p))), v10, .val (.lst (L (sqsC p))), .val (.int (nsq p)), v13, v14, v15, v16, v17, v18, v19, v20, v21, v22] s = .nx [v0, .val .pen, v2, .val (.int p), .val (.lst (L xs)), .val (curC p xs), .val (.int ((xs.length : Int) - 1)), v7, .val (.lst (L (valsC p xs))), .val (.lst (ptsC p xs (rangeI 0 p))), v10, .val (.lst (L (sqsC p))), .val (.int (nsq p)), v13, v14, v15, v16, v17, v18, v19, v20, v21, v22] s := by
  have hr := hp.rng
  obtain ⟨u1, u2⟩ := nsq_rng hp
  have e1 := m_flipped_eq (xs := xs) s hp g
  have e2 := init_good (d := .lst (L (Sc p (nsq p) xs))) (b := false) s hp (g.sc hp u1 u2) rfl
  have e3 := m_points_eq (xs := Sc p (nsq p) xs) s hp
  have c1 : ∀ ys, isC 0 (curC p ys) = true := fun _ => rfl
  have c := comp_map (gf := gN 13) (fe := eOp dMod (eUn dInt (eOp dMul (eVar 12) (eVar 13))) (eVar 3)) (ρ := [v0, .val .pen, v2, .val (.int p), .val (.lst (L xs)), .val (curC p xs), .val (.int ((xs.length : Int) - 1)), v7, .val (.lst (L (valsC p xs))), .val (.lst (ptsC p xs (rangeI 0 p))), v10, .val (.lst (L (sqsC p))), .val (.int (nsq p)), .no, v14, v15, v16, v17, v18, v19, v20, v21, v22]) (s := s) (fun x => (nsq p * x) % p) xs fun y hy => ⟨_, rfl, by
    have := g.inn y hy
    simp only [a_eOp, a_eUn, a_eVar, List.getElem?_cons_succ, List.getElem?_cons_zero, b_ok, l_some, s_ok, List.set_cons_succ, List.set_cons_zero, o_mulI (mulOk_sm (i := nsq p) (j := y) (by omega) (by omega) (by omega) (by omega)), o_intI, o_modI (show 0 < p by omega)]⟩
  have hsx : szB (L xs).length = true := szB_of (by have := g.hi; rw [List.length_map]; omega)
  have hi : iEB (eVar 4) [v0, .val .pen, v2, .val (.int p), .val (.lst (L xs)), .val (curC p xs), .val (.int ((xs.length : Int) - 1)), v7, .val (.lst (L (valsC p xs))), .val (.lst (ptsC p xs (rangeI 0 p))), v10, .val (.lst (L (sqsC p))), .val (.int (nsq p)), v13, v14, v15, v16, v17, v18, v19, v20, v21, v22] s = .ok (L xs) s := by
    simp only [a_iEB, a_eVar, List.getElem?_cons_succ, List.getElem?_cons_zero, b_ok, l_some, s_ok]
  have co := (oComp_of (gf := gN 13) (ft := tYesF) (fe := eOp dMod (eUn dInt (eOp dMul (eVar 12) (eVar 13))) (eVar 3)) (vs := [13]) hi hsx (ρ' := [v0, .val .pen, v2, .val (.int p), .val (.lst (L xs)), .val (curC p xs), .val (.int ((xs.length : Int) - 1)), v7, .val (.lst (L (valsC p xs))), .val (.lst (ptsC p xs (rangeI 0 p))), v10, .val (.lst (L (sqsC p))), .val (.int (nsq p)), .no, v14, v15, v16, v17, v18, v19, v20, v21, v22]) rfl).trans c
  have co' : oComp [13] (iEB (eVar 4)) (gN 13) tYesF (eOp dMod (eUn dInt (eOp dMul (eVar 12) (eVar 13))) (eVar 3)) [v0, .val .pen, v2, .val (.int p), .val (.lst (L xs)), .val (curC p xs), .val (.int ((xs.length : Int) - 1)), v7, .val (.lst (L (valsC p xs))), .val (.lst (ptsC p xs (rangeI 0 p))), v10, .val (.lst (L (sqsC p))), .val (.int (nsq p)), v13, v14, v15, v16, v17, v18, v19, v20, v21, v22] s = .ok (L (Sc p (nsq p) xs)) s := co
  have two := pts_two (p := p) (xs := xs) hp (rangeI 0 p)
  rw [rangeI_len] at two
  have sum : ((ptsC p (Sc p (nsq p) xs) (rangeI 0 p)).length : Int) + ((ptsC p xs (rangeI 0 p)).length : Int) = 2 * p := by omega
  unfold q11
  simp only [a_sIf, a_tOrF, a_tOf, a_eNeO, a_eCall, a_eCallD, a_eVar, a_eFrz, a_eB, a_bOf, a_eOp, a_eC, a_aCons, a_aNil, List.append_nil, List.length_cons, List.length_nil, Nat.reduceAdd, if_true, List.getElem?_cons_succ, List.getElem?_cons_zero, b_ok, l_some, s_ok, e1, co', e2, e3, c1, Bool.and_self, m_eq_eq, x_ok, bK, decide_true, Bool.not_true, o_bool, Bool.false_eq_true, if_false, o_seqT, o_seqL, o_len, o_addI, sum, o_mulI (mulOk_sm (i := 2) (j := p) (by omega) (by omega) (by omega) (by omega)), dNe_int, a_sNil]
end K06
set_option Elab.async false
set_option linter.all false
set_option maxRecDepth 100000
set_option maxHeartbeats 4000000
namespace K06
open PySem PySem.Spec L2 Zp
variable {v0 v1 v2 v3 v4 v5 v6 v7 v8 v9 v10 v11 v12 v13 v14 v15 v16 v17 v18 v19 v20 v21 v22 : Sv}
theorem q12_eq {n : Nat} {s : PenS} {p : Int} {xs : List Int} (hp : P5 p) (h : PJ n s) (hn : n + 100 ≤ 1000000) : ∃ os s', Inn p os ∧ os.length ≤ 4 ∧ PJ (n + 4) s' ∧ q12 [v0, .val .pen, v2, .val (.int p), .val (.lst (L xs)), v5, v6, v7, v8, v9, v10, v11, v12, v13, v14, v15, v16, v17, v18, v19, v20, v21, v22] s = .nx [v0, .val .pen, v2, .val (.int p), .val (.lst (L xs)), v5, v6, v7, v8, v9, v10, v11, v12, v13, v14, .val (.lst (L os)), v16, v17, v18, v19, v20, v21, v22] s' := by
  have hr := hp.rng
  obtain ⟨v, s1, ev, w1, w2, j1⟩ := m_draw_eq (many := 3) h (by omega) (by decide) (by decide)
  have hl : (L (rangeI 0 (1 + v))).length = (1 + v).toNat := by rw [List.length_map, rangeI_len]; omega
  obtain ⟨ys, s2, ec, l, iy, j⟩ := comp_drawsN (gf := gN 14) (fe := (eCallD 2 m_l_law_draw [] (aCons (eVar 1) (aCons (eVar 3) aNil)))) (ρ := [v0, .val .pen, v2, .val (.int p), .val (.lst (L xs)), v5, v6, v7, v8, v9, v10, v11, v12, v13, .no, v15, v16, v17, v18, v19, v20, v21, v22]) (fun x => 0 ≤ x ∧ x < p) (fun y m t ht hm => by
    obtain ⟨z, t', e, h1, h2, j⟩ := m_draw_eq (many := p) ht hm (by omega) (by omega)
    refine ⟨_, rfl, z, t', ?_, ⟨h1, h2⟩, j⟩
    simp only [a_eCallD, a_eVar, List.set_cons_succ, List.set_cons_zero, a_aCons, a_aNil, List.append_nil, List.length_cons, List.length_nil, Nat.reduceAdd, if_true, List.getElem?_cons_succ, List.getElem?_cons_zero, b_ok, l_some, s_ok, e]) (L (rangeI 0 (1 + v))) (n + 1) s1 j1 (by rw [hl]; omega)
  rw [hl] at l j
  have hrg : rg2 (.int 0) (.int (1 + v)) = some (L (rangeI 0 (1 + v))) := rg2_of (rgB_of (by omega) (by omega)) (rgB_of (by omega) (by omega))
  have hs : szB (L (rangeI 0 (1 + v))).length = true := by rw [hl]; exact szB_of (by omega)
  have hi : (iRange1 (eOp dAdd (eC (.int 1)) (eCallD 2 m_l_law_draw [] (aCons (eVar 1) (aCons (eC (.int 3)) aNil))))) [v0, .val .pen, v2, .val (.int p), .val (.lst (L xs)), v5, v6, v7, v8, v9, v10, v11, v12, v13, v14, v15, v16, v17, v18, v19, v20, v21, v22] s = .ok (L (rangeI 0 (1 + v))) s1 := by
    simp only [a_iRange1, a_eOp, a_eC, a_eCallD, a_eVar, a_aCons, a_aNil, List.append_nil, List.length_cons, List.length_nil, Nat.reduceAdd, if_true, List.getElem?_cons_succ, List.getElem?_cons_zero, b_ok, l_some, s_ok, ev, o_addI, hrg]
  have co := (oComp_of (gf := gN 14) (ft := tYesF) (fe := (eCallD 2 m_l_law_draw [] (aCons (eVar 1) (aCons (eVar 3) aNil)))) (vs := [14]) hi hs (ρ' := [v0, .val .pen, v2, .val (.int p), .val (.lst (L xs)), v5, v6, v7, v8, v9, v10, v11, v12, v13, .no, v15, v16, v17, v18, v19, v20, v21, v22]) rfl).trans ec
  have hs1 : szB 1 = true := rfl
  have ad : dAdd (.lst (L ys)) (.lst [.int 1]) = some (.lst (L (ys ++ [1]))) := by
    show (if _ then _ else _) = _
    rw [if_pos (szB_of (by rw [List.length_map]; simp; omega))]
    simp
  refine ⟨ys ++ [1], s2, fun x hx => ?_, by simp; omega, j.mono (by omega), ?_⟩
  · rcases List.mem_append.mp hx with hx | hx
    · exact iy x hx
    · simp at hx; omega
  · unfold q12
    simp only [a_sSet, a_eOp, a_eFrz, co, a_oLst, a_eC, a_aCons, a_aNil, List.append_nil, List.length_cons, List.length_nil, Nat.reduceAdd, if_true, List.getElem?_cons_succ, List.getElem?_cons_zero, b_ok, l_some, s_ok, hs1, ad, List.set_cons_succ, List.set_cons_zero]
theorem q13_eq {s : PenS} {p : Int} {xs os : List Int} (hp : P5 p) (g : Good p xs) (ho : Inn p os) (lo : os.length ≤ 4) : ∃ rs, Inn p rs ∧ rs.length ≤ 20 ∧ q13 [v0, .val .pen, v2, .val (.int p), .val (.lst (L xs)), v5, v6, v7, v8, v9, v10, v11, v12, v13, v14, .val (.lst (L os)), v16, v17, v18, v19, v20, v21, v22] s = .nx [v0, .val .pen, v2, .val (.int p), .val (.lst (L xs)), v5, v6, v7, v8, v9, v10, v11, v12, v13, v14, .val (.lst (L os)), .val (.lst (L rs)), v17, v18, v19, v20, v21, v22] s := by
  obtain ⟨ts, i1, _, l1, e1⟩ := m_times_eq (a := os) (b := os) s hp ho ho (by omega) (by omega)
  obtain ⟨rs, i2, _, l2, e2⟩ := m_times_eq (a := ts) (b := xs) s hp i1 g.inn (by omega) (by have := g.hi; omega)
  refine ⟨rs, i2, by have := g.hi; omega, ?_⟩
  unfold q13
  simp only [a_sSet, a_eCallD, a_eVar, a_aCons, a_aNil, List.append_nil, List.length_cons, List.length_nil, Nat.reduceAdd, if_true, List.getElem?_cons_succ, List.getElem?_cons_zero, b_ok, l_some, s_ok, e1, e2, List.set_cons_succ, List.set_cons_zero]
def someC (p : Int) (xs rs : List Int) : List D := [.tup [.int p, .lst (L rs)], .tup [.int p, .non], .tup [.int p, .int 3], .tup [.int p, .lst (L [p])], .tup [.int p, .lst (L (xs ++ [0]))], .tup [.int p, .lst (L [1])], .tup [.int p, .lst (L [])], .tup [.int 2, .lst (L xs)], .tup [.int 9, .lst (L xs)], .tup [.non, .non], .tup [.bl true, .lst (L xs)], .tup [.int p, .lst (L [1, 1, 1, 1, 1, 1, 1, 1, 1, 1])], .tup [.int p, .lst (L [-1, 1])]]
theorem q14_eq {s : PenS} {p : Int} {xs rs : List Int} (g : Good p xs) : q14 [v0, .val .pen, v2, .val (.int p), .val (.lst (L xs)), v5, v6, v7, v8, v9, v10, v11, v12, v13, v14, v15, .val (.lst (L rs)), v17, v18, v19, v20, v21, v22] s = .nx [v0, .val .pen, v2, .val (.int p), .val (.lst (L xs)), v5, v6, v7, v8, v9, v10, v11, v12, v13, v14, v15, .val (.lst (L rs)), .val (.lst (someC p xs rs)), v18, v19, v20, v21, v22] s := by
  have z0 : szB 0 = true := rfl
  have z1 : szB 1 = true := rfl
  have z2 : szB 2 = true := rfl
  have z13 : szB 13 = true := rfl
  have ad : dAdd (.lst (L xs)) (.lst [.int 0]) = some (.lst (L (xs ++ [0]))) := by
    show (if _ then _ else _) = _
    rw [if_pos (szB_of (by have := g.hi; rw [List.length_map]; simp; omega))]
    simp
  have mu : dMul (.lst [.int 1]) (.int 10) = some (.lst (L [1, 1, 1, 1, 1, 1, 1, 1, 1, 1])) := by kernel_rfl
  unfold q14
  simp only [a_sSet, a_eFrz, a_oLst, a_eTup, a_eOp, a_eUn, o_negI, a_eC, a_eVar, a_aCons, a_aNil, List.append_nil, List.length_cons, List.length_nil, Nat.reduceAdd, if_true, List.getElem?_cons_succ, List.getElem?_cons_zero, b_ok, l_some, s_ok, z0, z1, z2, z13, ad, mu, List.set_cons_succ, List.set_cons_zero]
  rfl
/-- a pair of which both tell the same -/
def Pair (d : D) : Prop := ∃ n bad, d = .tup [n, bad] ∧ ∀ s : PenS, m_l_law_why [n, bad] s = .ok .non s ∨ ∃ x, PyData.strOk x = true ∧ m_l_law_why [n, bad] s = .ok (.str x) s ∧ m_curve_breach [n, bad] s = .ok (.str x) s
theorem pair_row {p : Int} {xs : List Int} (hp : P5 p) (lx : xs.length ≤ 61) : Pair (.tup [.int p, .lst (L xs)]) := by
  refine ⟨_, _, rfl, fun s => ?_⟩
  have e1 := m_why_eq (xs := xs) s hp lx
  have e2 := m_curve_breach_eq (b := false) (xs := xs) s hp rfl lx
  rcases codeC_word (p := p) (xs := xs) with h | ⟨x, h, hx⟩
  · rw [h] at e1
    exact .inl e1
  · rw [h] at e1 e2
    exact .inr ⟨x, hx, e1, e2⟩
theorem pair_prime {n bad : D} (h1 : ∀ s, m_l_law_why [n, bad] s = .ok (.str "prime") s) (h2 : ∀ s, m_curve_breach [n, bad] s = .ok (.str "prime") s) : Pair (.tup [n, bad]) := ⟨_, _, rfl, fun s => .inr ⟨_, by decide +kernel, h1 s, h2 s⟩⟩
theorem some_pair {p : Int} {xs rs : List Int} (hp : P5 p) (g : Good p xs) (lr : rs.length ≤ 20) : ∀ d ∈ someC p xs rs, Pair d := by
  have h9 := g.hi
  intro d hd
  unfold someC at hd
  simp only [List.mem_cons, List.not_mem_nil, or_false] at hd
  rcases hd with rfl | rfl | rfl | rfl | rfl | rfl | rfl | rfl | rfl | rfl | rfl | rfl | rfl
  · exact pair_row hp (by omega)
  · exact ⟨_, _, rfl, fun s => .inr ⟨_, by decide +kernel, wh_pnon s hp, br_pnon s hp⟩⟩
  · exact ⟨_, _, rfl, fun s => .inr ⟨_, by decide +kernel, wh_pint s hp, br_pint s hp⟩⟩
  · exact pair_row hp (by simp)
  · exact pair_row hp (by simp; omega)
  · exact pair_row hp (by simp)
  · exact pair_row hp (by simp)
  · exact pair_prime wh_2 br_2
  · exact pair_prime wh_9 br_9
  · exact pair_prime wh_non br_non
  · exact pair_prime wh_bl br_bl
  · exact pair_row hp (by simp)
  · exact pair_row hp (by simp)
theorem q15_eq {n : Nat} {s : PenS} {p : Int} {xs rs : List Int} (hp : P5 p) (g : Good p xs) (lr : rs.length ≤ 20) (h : PJ n s) (hn : n + 100 ≤ 1000000) : ∃ m b s', Pair (.tup [m, b]) ∧ PJ (n + 1) s' ∧ q15 [v0, .val .pen, v2, v3, v4, v5, v6, v7, v8, v9, v10, v11, v12, v13, v14, v15, v16, .val (.lst (someC p xs rs)), v18, v19, v20, v21, v22] s = .nx [v0, .val .pen, v2, v3, v4, v5, v6, v7, v8, v9, v10, v11, v12, v13, v14, v15, v16, .val (.lst (someC p xs rs)), .val m, .val b, v20, v21, v22] s' := by
  obtain ⟨x, hx, s', e, j⟩ := m_pick_eq (xs := someC p xs rs) h (by omega) (by simp [someC]) (by simp [someC])
  obtain ⟨m, b, rfl, w⟩ := some_pair hp g lr x hx
  refine ⟨m, b, s', ⟨m, b, rfl, w⟩, j, ?_⟩
  unfold q15
  simp only [a_sAsg, a_eCallD, a_eVar, a_aCons, a_aNil, List.append_nil, List.length_cons, List.length_nil, Nat.reduceAdd, if_true, List.getElem?_cons_succ, List.getElem?_cons_zero, b_ok, l_some, s_ok, e, gT, gNs, List.set_cons_succ, List.set_cons_zero]
theorem compl_curve {x : Str} {s : PenS} : complF "ok" ex_law xs_l_law_complaint (.exc 2 [.str x] s) = .ok (.tup [.str "curve", .str x]) s := by kernel_rfl
theorem q16_17 {s : PenS} {m b : D} (w : Pair (.tup [m, b])) : ∃ d, q16 [v0, v1, v2, v3, v4, v5, v6, v7, v8, v9, v10, v11, v12, v13, v14, v15, v16, v17, .val m, .val b, v20, v21, v22] s = .nx [v0, v1, v2, v3, v4, v5, v6, v7, v8, v9, v10, v11, v12, v13, v14, v15, v16, v17, .val m, .val b, .val d, v21, v22] s ∧ q17 [v0, v1, v2, v3, v4, v5, v6, v7, v8, v9, v10, v11, v12, v13, v14, v15, v16, v17, .val m, .val b, .val d, v21, v22] s = .nx [v0, v1, v2, v3, v4, v5, v6, v7, v8, v9, v10, v11, v12, v13, v14, v15, v16, v17, .val m, .val b, .val d, v21, v22] s := by
  obtain ⟨m', b', e, w⟩ := w
  cases e
  rcases w s with h | ⟨x, hx, h1, h2⟩
  · refine ⟨.non, ?_, ?_⟩
    · unfold q16
      simp only [a_sSet, a_eCallD, a_eVar, a_aCons, a_aNil, List.append_nil, List.length_cons, List.length_nil, Nat.reduceAdd, if_true, List.getElem?_cons_succ, List.getElem?_cons_zero, b_ok, l_some, s_ok, h, List.set_cons_succ, List.set_cons_zero]
    · unfold q17
      simp only [a_sIf, a_tAndF, a_tOf, a_eOp, a_eVar, a_eC, List.getElem?_cons_succ, List.getElem?_cons_zero, b_ok, l_some, s_ok, dNotN, o_bool, Bool.false_eq_true, if_false, a_sNil]
  · refine ⟨.str x, ?_, ?_⟩
    · unfold q16
      simp only [a_sSet, a_eCallD, a_eVar, a_aCons, a_aNil, List.append_nil, List.length_cons, List.length_nil, Nat.reduceAdd, if_true, List.getElem?_cons_succ, List.getElem?_cons_zero, b_ok, l_some, s_ok, h1, List.set_cons_succ, List.set_cons_zero]
    · have hs2 : szB 2 = true := rfl
      have dn : dNe (.tup [.str "curve", .str x]) (.tup [.str "curve", .str x]) = some (.bl false) := dNe_refl (nice_shaped (k := 1) (by
        have z : PyData.strOk "curve" = true := by decide +kernel
        simp only [niceD, niceDs, hx, z, Bool.and_self]) (by decide))
      unfold q17
      simp only [a_sIf, a_tAndF, a_tOf, a_eOp, a_eVar, a_eC, List.getElem?_cons_succ, List.getElem?_cons_zero, b_ok, l_some, s_ok, dNotN, o_bool, if_true, a_eCompl, a_eCall, a_aCons, a_aNil, List.append_nil, List.length_cons, List.length_nil, Nat.reduceAdd, if_true, init_exc h2, compl_curve, a_eTup, hs2, dn, Bool.false_eq_true, if_false, a_sNil]
/-! ### the end -/
theorem e1_eq {n : Nat} {s : PenS} (h : PJ n s) (hn : n + 100 ≤ 1000000) : ∃ d s', (d = .non ∨ d = .int 3 ∨ d = .tup [.int 3, .tup [.int 1, .int 1]]) ∧ e1 [v0, .val .pen, v2, v3, v4, v5, v6, v7, v8, v9, v10, v11, v12, v13, v14, v15, v16, v17, v18, v19, v20, v21, v22] s = .nx [v0, .val .pen, v2, v3, v4, v5, v6, v7, v8, v9, v10, v11, v12, v13, v14, v15, v16, v17, v18, v19, v20, .val d, v22] s' := by
  obtain ⟨x, hx, s', e, j⟩ := m_pick_eq (xs := [.non, .int 3, .tup [.int 3, .tup [.int 1, .int 1]]]) h (by omega) (by simp) (by simp)
  simp only [List.mem_cons, List.not_mem_nil, or_false] at hx
  refine ⟨x, s', hx, ?_⟩
  have hs2 : szB 2 = true := rfl
  have hs3 : szB 3 = true := rfl
  unfold e1
  simp only [a_sSet, a_eCallD, a_eFrz, a_oLst, a_eTup, a_eC, a_eVar, a_aCons, a_aNil, List.append_nil, List.length_cons, List.length_nil, Nat.reduceAdd, if_true, List.getElem?_cons_succ, List.getElem?_cons_zero, b_ok, l_some, s_ok, hs2, hs3, e, List.set_cons_succ, List.set_cons_zero]
theorem ends {s : PenS} {d : D} (hd : d = .non ∨ d = .int 3 ∨ d = .tup [.int 3, .tup [.int 1, .int 1]]) : sSeq e2 (sSeq e3 (sSeq e4 e5)) [v0, .val .pen, v2, v3, v4, v5, v6, v7, v8, v9, v10, v11, v12, v13, v14, v15, v16, v17, v18, v19, v20, .val d, v22] s = .ret (.bl true) s := by
  rcases hd with rfl | rfl | rfl <;> kernel_rfl
end K06
set_option Elab.async false
set_option linter.all false
set_option maxRecDepth 100000
set_option maxHeartbeats 4000000
namespace K06
open PySem PySem.Spec L2 Zp
theorem lapL_eq {n : Nat} {s : PenS} {v0 v2 v3 v4 v5 v6 v7 v8 v9 v10 v11 v12 v13 v14 v15 v16 v17 v18 v19 v20 v21 v22 : Sv} (h : PJ n s) (hn : n + 5000 ≤ 1000000) : ∃ w3 w4 w5 w6 w7 w8 w9 w11 w12 w15 w16 w17 w18 w19 w20 s', PJ (n + 2000) s' ∧ lapL [v0, .val .pen, v2, v3, v4, v5, v6, v7, v8, v9, v10, v11, v12, v13, v14, v15, v16, v17, v18, v19, v20, v21, v22] s = .nx [v0, .val .pen, v2, w3, w4, w5, w6, w7, w8, w9, v10, w11, w12, v13, v14, w15, w16, w17, w18, w19, w20, v21, v22] s' := by
  obtain ⟨p, xs, s1, hp, g, j1, e1⟩ := q1_eq (v0 := v0) (v2 := v2) (v3 := v3) (v4 := v4) (v5 := v5) (v6 := v6) (v7 := v7) (v8 := v8) (v9 := v9) (v10 := v10) (v11 := v11) (v12 := v12) (v13 := v13) (v14 := v14) (v15 := v15) (v16 := v16) (v17 := v17) (v18 := v18) (v19 := v19) (v20 := v20) (v21 := v21) (v22 := v22) h (by omega)
  obtain ⟨s2, j2, e2⟩ := q2_eq (v0 := v0) (v2 := v2) (v5 := v5) (v6 := v6) (v7 := v7) (v8 := v8) (v9 := v9) (v10 := v10) (v11 := v11) (v12 := v12) (v13 := v13) (v14 := v14) (v15 := v15) (v16 := v16) (v17 := v17) (v18 := v18) (v19 := v19) (v20 := v20) (v21 := v21) (v22 := v22) hp g j1 (by omega)
  obtain ⟨a7, e7⟩ := q7_eq (v0 := v0) (v2 := v2) (v7 := v7) (v10 := v10) (v11 := v11) (v12 := v12) (v13 := v13) (v14 := v14) (v15 := v15) (v16 := v16) (v17 := v17) (v18 := v18) (v19 := v19) (v20 := v20) (v21 := v21) (v22 := v22) (s := s2) (xs := xs) hp
  obtain ⟨os, s3, io, lo, j3, e12⟩ := q12_eq (v0 := v0) (v2 := v2) (v5 := (.val (curC p xs))) (v6 := (.val (.int ((xs.length : Int) - 1)))) (v7 := a7) (v8 := (.val (.lst (L (valsC p xs))))) (v9 := (.val (.lst (ptsC p xs (rangeI 0 p))))) (v10 := v10) (v11 := (.val (.lst (L (sqsC p))))) (v12 := (.val (.int (nsq p)))) (v13 := v13) (v14 := v14) (v15 := v15) (v16 := v16) (v17 := v17) (v18 := v18) (v19 := v19) (v20 := v20) (v21 := v21) (v22 := v22) (xs := xs) hp j2 (by omega)
  obtain ⟨rs, ir, lr, e13⟩ := q13_eq (v0 := v0) (v2 := v2) (v5 := (.val (curC p xs))) (v6 := (.val (.int ((xs.length : Int) - 1)))) (v7 := a7) (v8 := (.val (.lst (L (valsC p xs))))) (v9 := (.val (.lst (ptsC p xs (rangeI 0 p))))) (v10 := v10) (v11 := (.val (.lst (L (sqsC p))))) (v12 := (.val (.int (nsq p)))) (v13 := v13) (v14 := v14) (v16 := v16) (v17 := v17) (v18 := v18) (v19 := v19) (v20 := v20) (v21 := v21) (v22 := v22) (s := s3) hp g io lo
  obtain ⟨m, b, s4, w, j4, e15⟩ := q15_eq (v0 := v0) (v2 := v2) (v3 := (.val (.int p))) (v4 := (.val (.lst (L xs)))) (v5 := (.val (curC p xs))) (v6 := (.val (.int ((xs.length : Int) - 1)))) (v7 := a7) (v8 := (.val (.lst (L (valsC p xs))))) (v9 := (.val (.lst (ptsC p xs (rangeI 0 p))))) (v10 := v10) (v11 := (.val (.lst (L (sqsC p))))) (v12 := (.val (.int (nsq p)))) (v13 := v13) (v14 := v14) (v15 := (.val (.lst (L os)))) (v16 := (.val (.lst (L rs)))) (v18 := v18) (v19 := v19) (v20 := v20) (v21 := v21) (v22 := v22) (rs := rs) hp g lr j3 (by omega)
  obtain ⟨d, e16, e17⟩ := q16_17 (v0 := v0) (v1 := .val .pen) (v2 := v2) (v3 := (.val (.int p))) (v4 := (.val (.lst (L xs)))) (v5 := (.val (curC p xs))) (v6 := (.val (.int ((xs.length : Int) - 1)))) (v7 := a7) (v8 := (.val (.lst (L (valsC p xs))))) (v9 := (.val (.lst (ptsC p xs (rangeI 0 p))))) (v10 := v10) (v11 := (.val (.lst (L (sqsC p))))) (v12 := (.val (.int (nsq p)))) (v13 := v13) (v14 := v14) (v15 := (.val (.lst (L os)))) (v16 := (.val (.lst (L rs)))) (v17 := (.val (.lst (someC p xs rs)))) (v20 := v20) (v21 := v21) (v22 := v22) (s := s4) w
  refine ⟨.val (.int p), .val (.lst (L xs)), .val (curC p xs), .val (.int ((xs.length : Int) - 1)), a7, .val (.lst (L (valsC p xs))), .val (.lst (ptsC p xs (rangeI 0 p))), .val (.lst (L (sqsC p))), .val (.int (nsq p)), .val (.lst (L os)), .val (.lst (L rs)), .val (.lst (someC p xs rs)), .val m, .val b, .val d, s4, j4.mono (by omega), ?_⟩
  unfold lapL
  rw [a_sSeq, e1, q_nx, a_sSeq, e2, q_nx, a_sSeq, q3_eq g.ne, q_nx, a_sSeq, q4_eq hp g, q_nx, a_sSeq, q5_eq hp, q_nx, a_sSeq, q6_eq, q_nx, a_sSeq, e7, q_nx, a_sSeq, q8_eq hp, q_nx, a_sSeq, q9_eq hp, q_nx, a_sSeq, q10_eq hp, q_nx, a_sSeq, q11_eq hp g, q_nx, a_sSeq, e12, q_nx, a_sSeq, e13, q_nx, a_sSeq, q14_eq g, q_nx, a_sSeq, e15, q_nx, a_sSeq, e16, q_nx, e17]
theorem loopL : ∀ (ds : List D) (n : Nat) (s : PenS) (v0 v2 v3 v4 v5 v6 v7 v8 v9 v10 v11 v12 v13 v14 v15 v16 v17 v18 v19 v20 v21 v22 : Sv), PJ n s → n + 2000 * ds.length + 5000 ≤ 1000000 → ∃ w2 w3 w4 w5 w6 w7 w8 w9 w11 w12 w15 w16 w17 w18 w19 w20 s', PJ (n + 2000 * ds.length) s' ∧ forGo (gN 2) lapL ds [v0, .val .pen, v2, v3, v4, v5, v6, v7, v8, v9, v10, v11, v12, v13, v14, v15, v16, v17, v18, v19, v20, v21, v22] s = .nx [v0, .val .pen, w2, w3, w4, w5, w6, w7, w8, w9, v10, w11, w12, v13, v14, w15, w16, w17, w18, w19, w20, v21, v22] s'
  | [], n, s, v0, v2, v3, v4, v5, v6, v7, v8, v9, v10, v11, v12, v13, v14, v15, v16, v17, v18, v19, v20, v21, v22, h, _ => ⟨_, _, _, _, _, _, _, _, _, _, _, _, _, _, _, _, s, h, rfl⟩
  | x :: ds, n, s, v0, v2, v3, v4, v5, v6, v7, v8, v9, v10, v11, v12, v13, v14, v15, v16, v17, v18, v19, v20, v21, v22, h, hn => by
    have hl : (x :: ds).length = ds.length + 1 := rfl
    obtain ⟨w3, w4, w5, w6, w7, w8, w9, w11, w12, w15, w16, w17, w18, w19, w20, s1, j1, e1⟩ := lapL_eq (v0 := v0) (v2 := .val x) (v3 := v3) (v4 := v4) (v5 := v5) (v6 := v6) (v7 := v7) (v8 := v8) (v9 := v9) (v10 := v10) (v11 := v11) (v12 := v12) (v13 := v13) (v14 := v14) (v15 := v15) (v16 := v16) (v17 := v17) (v18 := v18) (v19 := v19) (v20 := v20) (v21 := v21) (v22 := v22) h (by omega)
    obtain ⟨x2, x3, x4, x5, x6, x7, x8, x9, x11, x12, x15, x16, x17, x18, x19, x20, s2, j2, e2⟩ := loopL ds (n + 2000) s1 v0 (.val x) w3 w4 w5 w6 w7 w8 w9 v10 w11 w12 v13 v14 w15 w16 w17 w18 w19 w20 v21 v22 j1 (by omega)
    refine ⟨x2, x3, x4, x5, x6, x7, x8, x9, x11, x12, x15, x16, x17, x18, x19, x20, s2, j2.mono (by omega), ?_⟩
    conv => lhs; unfold forGo
    simp only [gN, List.set_cons_succ, List.set_cons_zero, e1]
    exact e2
theorem math : ∀ ns : List Int, ns.length ≤ 63 → (∀ z ∈ ns, Builtin.Int.intBits z ≤ 1048576) → ∃ s', b_law (.no :: .val .pen :: List.replicate (N_law.length - 2) .no) (penOf ns) = .ret (.bl true) s' := by
  intro ns _ _
  have h3 : rg2 (.int 0) (.int 3) = some (L (rangeI 0 3)) := rg2_of (by decide +kernel) (by decide +kernel)
  have hl3 : (L (rangeI 0 3)).length = 3 := by rw [List.length_map, rangeI_len]; rfl
  obtain ⟨x2, x3, x4, x5, x6, x7, x8, x9, x11, x12, x15, x16, x17, x18, x19, x20, s1, j1, e⟩ := loopL (L (rangeI 0 3)) 0 (penOf ns) .no .no .no .no .no .no .no .no .no .no .no .no .no .no .no .no .no .no .no .no .no .no (pj_penOf ns) (by rw [hl3]; decide)
  rw [hl3] at j1
  generalize L (rangeI 0 3) = rr at h3 e
  obtain ⟨d, s2, hd, e1⟩ := e1_eq (v0 := .no) (v2 := x2) (v3 := x3) (v4 := x4) (v5 := x5) (v6 := x6) (v7 := x7) (v8 := x8) (v9 := x9) (v10 := .no) (v11 := x11) (v12 := x12) (v13 := .no) (v14 := .no) (v15 := x15) (v16 := x16) (v17 := x17) (v18 := x18) (v19 := x19) (v20 := x20) (v21 := .no) (v22 := .no) j1 (by decide)
  refine ⟨s2, ?_⟩
  have hn : List.replicate (N_law.length - 2) Sv.no = [.no, .no, .no, .no, .no, .no, .no, .no, .no, .no, .no, .no, .no, .no, .no, .no, .no, .no, .no, .no, .no] := rfl
  rw [hn, law_is, a_sSeq, a_sFor]
  simp only [a_iRange1, a_eC, b_ok, h3, l_some, s_ok]
  rw [e, q_nx, a_sSeq, e1, q_nx]
  exact ends hd
end K06
set_option Elab.async false
set_option linter.all false
set_option maxRecDepth 100000
set_option maxHeartbeats 0
namespace K06
open PySem PySem.Spec PyProof.Rows L2 Zp
abbrev R : PySem.W.OpenRow := PySem.W.OpenLaw.row PySem.Challenge.rw_zeropoles_k06_whole_curves
abbrev hk : PySem.W.Hook := hookZ 6 hFa hFn hFz [lawD] hEx
def ob (s : PySem.W.SharedT) : AlZ := obsZ 6 hFa hFn hFz [lawD] hEx (HandSHeadRun.getT s)
theorem ob_eq (s : PySem.W.SharedT) : ob s = hk.obs s.abs := obsZ_eq (HandSHeadRun.getT_eq s)
def names1 : List PySem.Str := ["__name__", "PoleError", "BadItem", "BadCurve", "is_integer", "is_row", "is_mod_row", "trimmed", "inverse_of", "mod_parts", "mod_monic", "mod_shared", "mod_slope", "mod_value", "mod_scaled", "PRIMES", "MOST_DEGREE", "curve_breach", "Curve", "need_curve"]
def names2 : List PySem.Str := ["square_roots", "line_of", "points", "line_values", "least_no_square", "flipped", "_law_pen", "_law_draw", "_law_pick", "_law_listed", "_law_cut", "_law_w_times", "_law_m_times", "_law_m_rest", "_law_m_common", "_law_m_at", "_law_m_slope", "_law_curve", "_law_complaint", "_law_why"]
abbrev names : List PySem.Str := names1 ++ names2
theorem run (w : World) : HandSHeadRun.RunEq R (PySem.W.view R.prog [44]) hk ob 3000 names w := by
  intro os
  kernel_rfl
end K06
open PySem PySem.W PySem.Calls PyProof.Rows
theorem PySem.Challenge.cw_zeropoles_k06_whole_curves_holds : PySem.Challenge.rw_zeropoles_k06_whole_curves.Holds := by
  w_on; o_law
  refine HandSHeadRun.head_any (r := OpenLaw.row PySem.Challenge.rw_zeropoles_k06_whole_curves) (q := view (OpenLaw.row PySem.Challenge.rw_zeropoles_k06_whole_curves).prog [44]) (H := K06.hk) (ob := K06.ob) (M := 3000) (loose := K06.names) (d := HandSHeadRun.topDef (OpenLaw.row PySem.Challenge.rw_zeropoles_k06_whole_curves).prog 44) (kwd := []) K06.ob_eq
    (by kernel_rfl) (fun s => by kernel_rfl) K06.run (by kernel_rfl) (by kernel_rfl) (by kernel_rfl) (by rfl) (by first | assumption | decide +kernel) (by decide +kernel) ⟨rfl, rfl, rfl, rfl, rfl, by decide +kernel⟩ ?hw ?hc
  case hw => w_witness2
  case hc =>
    refine Zp.walk_ofG (l := PySem.Challenge.rw_zeropoles_k06_whole_curves) (n := 63) rfl (by decide) (by kernel_rfl) ?F
    intro w mg fa h Y G hmg0
    obtain ⟨K, KX, c⟩ := Y
    have hmg : mg ("law" : PySem.Str) = some (.ref fa) := by
      have e : (HandSHeadRun.topDef (OpenLaw.row PySem.Challenge.rw_zeropoles_k06_whole_curves).prog 44).name = ("law" : PySem.Str) := by kernel_rfl
      rw [← e]
      exact hmg0
    exact ⟨K, KX, K06.law_at KX G hmg c K06.math⟩
