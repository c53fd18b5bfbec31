import PyProof.Rows.All
import Wide.All
import OpenK.AllK
import Wide.FinOn
import HandS.ForMost
import HandS.ForExc
import HandS.IsInst
import HandS.Deep
import HandS.DictComp
import HandS.SortInts
import HandS.TupAny
import HandS.TupMul
import HandS.Conv
import HandS.Flow
import KE.DataEq
import KE.DataCmp
import KE.GoesEnum
import KE.SortData
import HandS.RaiseMore
import HandS.Flt
import HandS.Style
import HandS.SortKw
import KE.DataMinMax
import HandS.TryMany
import HandS.ExcField
import HandS.ExcInit
import HandS.Defaults
import PySem.Challenge.RW_forkspan_k16_heads_tails_spans_ways
set_option Elab.async false
set_option linter.all false
set_option maxRecDepth 100000
namespace FK
open PySem PySem.Spec L2
open PyProof.Rows hiding St

/-! ### data -/
inductive D where
  | non | bl (b : Bool) | int (i : Int) | str (s : Str)
  | lst (xs : List D) | tup (xs : List D)
  | dk (kvs : List (Key × D)) | dt (kvs : List (List Key × D))
  deriving Inhabited

mutual
inductive Rep (K : PySem.W.Frag) (H : Hp) : V → D → Prop
  | non : Rep K H .non .non
  | bl (b : Bool) : Rep K H (.bl b) (.bl b)
  | int (i : Int) : Rep K H (.int i) (.int i)
  | str (x : Str) : Rep K H (.str x) (.str x)
  | lst {a : Addr} {vs : List V} {ds : List D} : SqL K H a vs → RepL K H vs ds → Rep K H (.ref a) (.lst ds)
  | tup {a : Addr} {vs : List V} {ds : List D} : H a = some (.tup vs) → RepL K H vs ds → Rep K H (.ref a) (.tup ds)
  | dk {a : Addr} {kvs : List (Key × V)} {ds : List (Key × D)} : H a = some (.dK kvs) → RepK K H kvs ds → Rep K H (.ref a) (.dk ds)
  | dt {a : Addr} {kvs : List (List Key × V)} {ds : List (List Key × D)} : H a = some (.dT kvs) → RepT K H kvs ds → Rep K H (.ref a) (.dt ds)
inductive RepL (K : PySem.W.Frag) (H : Hp) : List V → List D → Prop
  | nil : RepL K H [] []
  | cons {v : V} {vs : List V} {d : D} {ds : List D} : Rep K H v d → RepL K H vs ds → RepL K H (v :: vs) (d :: ds)
inductive RepK (K : PySem.W.Frag) (H : Hp) : List (Key × V) → List (Key × D) → Prop
  | nil : RepK K H [] []
  | cons {k : Key} {v : V} {vs : List (Key × V)} {d : D} {ds : List (Key × D)} : Rep K H v d → RepK K H vs ds → RepK K H ((k, v) :: vs) ((k, d) :: ds)
inductive RepT (K : PySem.W.Frag) (H : Hp) : List (List Key × V) → List (List Key × D) → Prop
  | nil : RepT K H [] []
  | cons {k : List Key} {v : V} {vs : List (List Key × V)} {d : D} {ds : List (List Key × D)} : Rep K H v d → RepT K H vs ds → RepT K H ((k, v) :: vs) ((k, d) :: ds)
end

theorem same_rd {H H' : Hp} (s : Same H H') {a : Addr} {u : HO} (r : Rd H a u) : Rd H' a u := by
  rcases r with r | ⟨o, r⟩
  · exact .inl (s _ _ r)
  · exact .inr ⟨o, s _ _ r⟩
theorem same_seqT {K : PySem.W.Frag} {H H' : Hp} (s : Same H H') {a : Addr} {xs : List V} (r : SqT K H a xs) : SqT K H' a xs := by
  rcases r with r | r
  · exact .inl (same_rd s r)
  · exact .inr r
section
variable {K : PySem.W.Frag} {H H' : Hp}
mutual
theorem Rep.mono (s : Same H H') : ∀ {v : V} {d : D}, Rep K H v d → Rep K H' v d
  | _, _, .non => .non
  | _, _, .bl b => .bl b
  | _, _, .int b => .int b
  | _, _, .str b => .str b
  | _, _, .lst a b => .lst (s.seq a) (RepL.mono s b)
  | _, _, .tup a b => .tup (s _ _ a) (RepL.mono s b)
  | _, _, .dk a b => .dk (s _ _ a) (RepK.mono s b)
  | _, _, .dt a b => .dt (s _ _ a) (RepT.mono s b)
theorem RepL.mono (s : Same H H') : ∀ {v : List V} {d : List D}, RepL K H v d → RepL K H' v d
  | _, _, .nil => .nil
  | _, _, .cons a b => .cons (Rep.mono s a) (RepL.mono s b)
theorem RepK.mono (s : Same H H') : ∀ {v : List (Key × V)} {d : List (Key × D)}, RepK K H v d → RepK K H' v d
  | _, _, .nil => .nil
  | _, _, .cons a b => .cons (Rep.mono s a) (RepK.mono s b)
theorem RepT.mono (s : Same H H') : ∀ {v : List (List Key × V)} {d : List (List Key × D)}, RepT K H v d → RepT K H' v d
  | _, _, .nil => .nil
  | _, _, .cons a b => .cons (Rep.mono s a) (RepT.mono s b)
end
theorem RepL.length : ∀ {v : List V} {d : List D}, RepL K H v d → v.length = d.length
  | _, _, .nil => rfl
  | _, _, .cons _ b => congrArg (· + 1) (RepL.length b)
theorem RepL.append : ∀ {v v' : List V} {d d' : List D}, RepL K H v d → RepL K H v' d' → RepL K H (v ++ v') (d ++ d')
  | _, _, _, _, .nil, h => h
  | _, _, _, _, .cons a b, h => .cons a (RepL.append b h)
theorem RepL.get : ∀ {v : List V} {d : List D} {i : Nat} {x : D}, RepL K H v d → d[i]? = some x → ∃ u, v[i]? = some u ∧ Rep K H u x
  | _, _, _, _, .nil, e => by simp at e
  | _, _, 0, _, .cons a b, e => by simp at e; subst e; exact ⟨_, rfl, a⟩
  | _, _, i + 1, x, .cons a b, e => by
    obtain ⟨u, h1, h2⟩ := RepL.get (i := i) b (by simpa using e)
    exact ⟨u, by simpa using h1, h2⟩
theorem RepL.getV : ∀ {v : List V} {d : List D} {i : Nat} {u : V}, RepL K H v d → v[i]? = some u → ∃ x, d[i]? = some x ∧ Rep K H u x
  | _, _, _, _, .nil, e => by simp at e
  | _, _, 0, _, .cons a b, e => by simp at e; subst e; exact ⟨_, rfl, a⟩
  | _, _, i + 1, x, .cons a b, e => by
    obtain ⟨u, h1, h2⟩ := RepL.getV (i := i) b (by simpa using e)
    exact ⟨u, by simpa using h1, h2⟩
theorem RepL.take : ∀ {v : List V} {d : List D} (n : Nat), RepL K H v d → RepL K H (v.take n) (d.take n)
  | _, _, 0, _ => by simp; exact .nil
  | _, _, _ + 1, .nil => by simp; exact .nil
  | _, _, n + 1, .cons a b => .cons a (RepL.take n b)
theorem RepL.drop : ∀ {v : List V} {d : List D} (n : Nat), RepL K H v d → RepL K H (v.drop n) (d.drop n)
  | _, _, 0, h => by simpa using h
  | _, _, _ + 1, .nil => by simp; exact .nil
  | _, _, n + 1, .cons a b => by simpa using RepL.drop n b
theorem RepL.set : ∀ {v : List V} {d : List D} (n : Nat) {u : V} {x : D}, Rep K H u x → RepL K H v d → RepL K H (v.set n u) (d.set n x)
  | _, _, _, _, _, _, .nil => by simp; exact .nil
  | _, _, 0, _, _, h, .cons a b => .cons h b
  | _, _, n + 1, _, _, h, .cons a b => .cons a (RepL.set n h b)
theorem RepL.ints : ∀ (ns : List Int), RepL K H (ns.map V.int) (ns.map D.int)
  | [] => .nil
  | _ :: r => .cons (.int _) (RepL.ints r)
theorem RepL.of_ints : ∀ {vs : List V} {ns : List Int}, RepL K H vs (ns.map D.int) → vs = ns.map V.int
  | _, [], .nil => rfl
  | _, n :: r, .cons a b => by
    cases a
    rw [RepL.of_ints b]
    rfl
theorem RepL.of_bools : ∀ {vs : List V} {ns : List Bool}, RepL K H vs (ns.map D.bl) → vs = ns.map V.bl
  | _, [], .nil => rfl
  | _, n :: r, .cons a b => by
    cases a
    rw [RepL.of_bools b]
    rfl
end

/-! ### kinds, heaps in two parts -/
inductive Kd where | fz | ow | bo | al
  deriving DecidableEq, Inhabited
abbrev DV := D × Kd
abbrev Env := List (Option DV)
abbrev Own := Addr → Prop
open Classical in
noncomputable def off (O : Own) (H : Hp) : Hp := fun a => if O a then none else H a
def plus (O : Own) (a : Addr) : Own := fun b => O b ∨ b = a
theorem off_some {O : Own} {H : Hp} {a : Addr} {o : HO} (h : off O H a = some o) : ¬ O a ∧ H a = some o := by
  unfold off at h
  split at h
  · cases h
  · exact ⟨by assumption, h⟩
theorem off_of {O : Own} {H : Hp} {a : Addr} {o : HO} (n : ¬ O a) (h : H a = some o) : off O H a = some o := by
  unfold off
  rw [if_neg n]
  exact h
theorem off_sub {O : Own} {H : Hp} : Same (off O H) H := fun _ _ h => (off_some h).2
theorem off_mono {O : Own} {H H' : Hp} (s : Same H H') : Same (off O H) (off O H') := fun a o h => off_of (off_some h).1 (s _ _ (off_some h).2)
theorem off_anti {O O' : Own} {H : Hp} (s : ∀ a, O a → O' a) : Same (off O' H) (off O H) := fun a o h => off_of (fun z => (off_some h).1 (s a z)) (off_some h).2
theorem off_plus_new {O : Own} {H : Hp} {a : Addr} (n : H a = none) : Same (off O H) (off (plus O a) H) := fun b o h => by
  obtain ⟨h1, h2⟩ := off_some h
  exact off_of (fun z => z.elim h1 fun e => by subst e; rw [n] at h2; cases h2) h2
theorem same_upd {H : Hp} {p : Addr} {o : HO} (h : H p = none) : Same H (upd H p o) := fun b x e => by
  rw [upd_ne (ne_of_none e h)]
  exact e
/-- a store to an owned object leaves the frozen part -/
theorem off_upd {O : Own} {H : Hp} {a : Addr} {o : HO} (h : O a) : off O (upd H a o) = off O H := by
  funext b
  unfold off
  split
  · rfl
  · rename_i n
    rw [upd_ne (fun e => n (by rw [e]; exact h))]

/-- what stands at a, its parts frozen; to be read -/
def BorC (K : PySem.W.Frag) (H : Hp) (O : Own) (a : Addr) : D → Prop
  | .lst ds => ∃ vs, SqL K H a vs ∧ RepL K (off O H) vs ds
  | .dk ds => ∃ vs, H a = some (.dK vs) ∧ RepK K (off O H) vs ds
  | .dt ds => ∃ vs, H a = some (.dT vs) ∧ RepT K (off O H) vs ds
  | .tup ds => ∃ vs, SqT K H a vs ∧ RepL K (off O H) vs ds
  | _ => False
/-- .. tracked itself: to be written -/
def OwnC (K : PySem.W.Frag) (H : Hp) (O : Own) (a : Addr) : D → Prop
  | .lst ds => ∃ vs, H a = some (.lst vs) ∧ RepL K (off O H) vs ds
  | .dk ds => ∃ vs, H a = some (.dK vs) ∧ RepK K (off O H) vs ds
  | .dt ds => ∃ vs, H a = some (.dT vs) ∧ RepT K (off O H) vs ds
  | _ => False
section
variable {K : PySem.W.Frag} {H H' : Hp} {O O' : Own} {a : Addr} {d : D}
theorem OwnC.bor (h : OwnC K H O a d) : BorC K H O a d := by
  cases d <;> first | exact h.elim | skip
  all_goals
    obtain ⟨vs, h1, h2⟩ := h
    first
      | exact ⟨vs, SqL.of h1, h2⟩
      | exact ⟨vs, h1, h2⟩
theorem BorC.mono (h : BorC K H O a d) (s : Same H H') (f : Same (off O H) (off O' H')) : BorC K H' O' a d := by
  cases d <;> first | exact h.elim | skip
  · obtain ⟨vs, h1, h2⟩ := h
    exact ⟨vs, s.seq h1, h2.mono f⟩
  · obtain ⟨vs, h1, h2⟩ := h
    exact ⟨vs, same_seqT s h1, h2.mono f⟩
  · obtain ⟨vs, h1, h2⟩ := h
    exact ⟨vs, s _ _ h1, h2.mono f⟩
  · obtain ⟨vs, h1, h2⟩ := h
    exact ⟨vs, s _ _ h1, h2.mono f⟩
theorem OwnC.mono (h : OwnC K H O a d) (s : ∀ o, H a = some o → H' a = some o) (f : Same (off O H) (off O' H')) : OwnC K H' O' a d := by
  cases d <;> first | exact h.elim | skip
  · obtain ⟨vs, h1, h2⟩ := h
    exact ⟨vs, s _ h1, h2.mono f⟩
  · obtain ⟨vs, h1, h2⟩ := h
    exact ⟨vs, s _ h1, h2.mono f⟩
  · obtain ⟨vs, h1, h2⟩ := h
    exact ⟨vs, s _ h1, h2.mono f⟩
theorem OwnC.some (h : OwnC K H O a d) : H a ≠ none := by
  cases d <;> first | exact h.elim | skip
  all_goals
    obtain ⟨vs, h1, _⟩ := h
    rw [h1]
    exact fun z => nomatch z
theorem OwnC.frozen (h : OwnC K H (plus O a) a d) (n : ¬ O a) : Rep K (off O H) (.ref a) d := by
  have f : Same (off (plus O a) H) (off O H) := off_anti fun b z => .inl z
  cases d <;> first | exact h.elim | skip
  · obtain ⟨vs, h1, h2⟩ := h
    exact .lst (SqL.of (off_of n h1)) (h2.mono f)
  · obtain ⟨vs, h1, h2⟩ := h
    exact .dk (off_of n h1) (h2.mono f)
  · obtain ⟨vs, h1, h2⟩ := h
    exact .dt (off_of n h1) (h2.mono f)
end

/-- what an expression gives, begun at H0, ended at H -/
def Out (K : PySem.W.Frag) (B : Hp) (O0 : Own) (H0 H : Hp) (O : Own) (v : V) (x : DV) : Prop :=
  match x.2 with
  | .fz => Rep K (off O H) v x.1
  | .ow => ∃ a, v = .ref a ∧ H0 a = none ∧ ¬ O a ∧ OwnC K H (plus O a) a x.1
  | .bo => ∃ a, v = .ref a ∧ BorC K B O0 a x.1 ∧ BorC K H O a x.1
  | .al => ∃ a, v = .ref a ∧ BorC K H O a x.1
/-- a slot -/
def SlotOk (K : PySem.W.Frag) (B : Hp) (O0 : Own) (H : Hp) (O : Own) (v : V) (x : DV) : Prop :=
  match x.2 with
  | .fz => Rep K (off O H) v x.1
  | .ow => ∃ a, v = .ref a ∧ O a ∧ B a = none ∧ OwnC K H O a x.1
  | .bo => ∃ a, v = .ref a ∧ BorC K B O0 a x.1
  | .al => False

structure SR (K : PySem.W.Frag) (B F : Hp) (O0 : Own) (H : Hp) (O : Own) (σ : St) (ρ : Env) : Prop where
  len : σ.length = ρ.length
  base : Same B H
  frz : Same F (off O H)
  fb : Same (off O0 B) (off O H)
  dom : ∀ a, O a → H a ≠ none
  dom0 : ∀ a, O0 a → B a ≠ none
  sub : ∀ a, O0 a → O a
  slot : ∀ (i : Nat) (x : DV), ρ[i]? = some (some x) → ∃ v, σ[i]? = some (some v) ∧ SlotOk K B O0 H O v x
  sep : ∀ (i j : Nat) (x y : DV) (a : Addr), i ≠ j → ρ[i]? = some (some x) → x.2 = .ow → ρ[j]? = some (some y) → y.2 = .ow → σ[i]? = some (some (.ref a)) → σ[j]? = some (some (.ref a)) → False

section
variable {K : PySem.W.Frag} {B F F' H H' : Hp} {O0 O : Own} {σ : St} {ρ : Env}
theorem SR.more (R : SR K B F O0 H O σ ρ) (s : Same H H') : SR K B F O0 H' O σ ρ where
  len := R.len
  base := R.base.trans s
  frz := R.frz.trans (off_mono s)
  fb := R.fb.trans (off_mono s)
  dom := fun a h z => R.dom a h (s.free z)
  dom0 := R.dom0
  sub := R.sub
  slot := fun i x e => by
    obtain ⟨v, h1, h2⟩ := R.slot i x e
    refine ⟨v, h1, ?_⟩
    obtain ⟨d, k⟩ := x
    cases k with
    | fz => exact Rep.mono (off_mono s) h2
    | ow =>
      obtain ⟨a, ea, oa, ba, c⟩ := h2
      exact ⟨a, ea, oa, ba, c.mono (fun o => s _ _) (off_mono s)⟩
    | bo => exact h2
    | al => exact h2
  sep := R.sep
theorem SR.reframe (R : SR K B F O0 H O σ ρ) (s : Same F' (off O H)) : SR K B F' O0 H O σ ρ := ⟨R.len, R.base, s, R.fb, R.dom, R.dom0, R.sub, R.slot, R.sep⟩
theorem SR.weaken (R : SR K B F O0 H O σ ρ) (s : Same F' F) : SR K B F' O0 H O σ ρ := R.reframe (s.trans R.frz)
theorem Out.mono {v : V} {x : DV} {H0 H0' : Hp} (h : Out K B O0 H0 H O v x) (s0 : Same H0' H0) (s : Same H H') : Out K B O0 H0' H' O v x := by
  obtain ⟨d, k⟩ := x
  cases k with
  | fz => exact Rep.mono (off_mono s) h
  | ow =>
    obtain ⟨a, ea, oa, ba, c⟩ := h
    exact ⟨a, ea, s0.free oa, ba, c.mono (fun o => s _ _) (off_mono s)⟩
  | bo =>
    obtain ⟨a, ea, c, c2⟩ := h
    exact ⟨a, ea, c, c2.mono s (off_mono s)⟩
  | al =>
    obtain ⟨a, ea, c⟩ := h
    exact ⟨a, ea, c.mono s (off_mono s)⟩
end
end FK
namespace FK
open PySem PySem.Spec L2
open PyProof.Rows hiding St

/-! ### results -/
structure Exn where
  cls : Str
  fs : List (Str × D)
inductive R (α : Type) where | ok (a : α) | ex (e : Exn) | no
def R.bind {α β : Type} (r : R α) (f : α → R β) : R β := match r with
  | .ok a => f a
  | .ex e => .ex e
  | .no => .no
@[simp] theorem R.bind_ok {α β : Type} (a : α) (f : α → R β) : (R.ok a).bind f = f a := Eq.trans rfl rfl
@[simp] theorem R.bind_ex {α β : Type} (e : Exn) (f : α → R β) : (R.ex e).bind f = .ex e := Eq.trans rfl rfl
@[simp] theorem R.bind_no {α β : Type} (f : α → R β) : (R.no).bind f = .no := Eq.trans rfl rfl

inductive FldR (K : PySem.W.Frag) (H : Hp) : List (Str × V) → List (Str × D) → Prop
  | nil : FldR K H [] []
  | cons {n : Str} {v : V} {vs : List (Str × V)} {d : D} {ds : List (Str × D)} : Rep K H v d → FldR K H vs ds → FldR K H ((n, v) :: vs) ((n, d) :: ds)
theorem FldR.mono {K : PySem.W.Frag} {H H' : Hp} (s : Same H H') : ∀ {vs ds}, FldR K H vs ds → FldR K H' vs ds
  | _, _, .nil => .nil
  | _, _, .cons a b => .cons (a.mono s) (FldR.mono s b)
/-- an exception that flies -/
def ExRep (K : PySem.W.Frag) (mg : Str → Option Value) (O : Own) (H : Hp) (cls : Value) (dd : Option Addr) (e : Exn) : Prop :=
  ∃ C d fs, mg e.cls = some (.ref C) ∧ cls = .ref C ∧ dd = some d ∧ H d = some (.xd fs) ∧ FldR K (off O H) fs e.fs
def XOk (K : PySem.W.Frag) (mg : Str → Option Value) (O : Own) (E : XK) (H : Hp) (e : Exn) : Prop := ∀ cls dd H', Same H H' → ExRep K mg O H' cls dd e → E cls dd H'
theorem XOk.mono {K : PySem.W.Frag} {mg : Str → Option Value} {O : Own} {E : XK} {H H' : Hp} {e : Exn} (h : XOk K mg O E H e) (s : Same H H') : XOk K mg O E H' e := fun c d H2 s2 r => h c d H2 (s.trans s2) r

theorem FldR.look {K : PySem.W.Frag} {H : Hp} {f : Str} {d : D} : ∀ {vs ds}, FldR K H vs ds → ds.lookup f = some d → ∃ v, vs.lookup f = some v ∧ Rep K H v d
  | _, _, .nil, e => by cases e
  | (n, v) :: vs, (_, x) :: ds, .cons a b, e => by
    simp only [List.lookup] at e ⊢
    split at e
    · cases e
      exact ⟨v, rfl, a⟩
    · exact FldR.look b e
theorem XOk.sub {K : PySem.W.Frag} {mg : Str → Option Value} {O O' : Own} {E : XK} {H : Hp} {e : Exn} (h : XOk K mg O E H e) (s : ∀ b, O b → O' b) : XOk K mg O' E H e := fun c d H2 s2 ⟨C, d', fs, h1, h2, h3, h4, h5⟩ => h c d H2 s2 ⟨C, d', fs, h1, h2, h3, h4, h5.mono (off_anti s)⟩

/-- r tells what T (a reading at a state) comes to, from H on -/
def EvG {α β : Type} (K : PySem.W.Frag) (mg : Str → Option Value) (O : Own) (E : XK) (H : Hp) (r : R α) (rel : α → β → Hp → Prop) (T : (β → Hp → Prop) → Prop) : Prop := match r with
  | .ok x => ∀ Q : β → Hp → Prop, (∀ v H', Same H H' → rel x v H' → Q v H') → T Q
  | .ex e => XOk K mg O E H e → ∀ Q, T Q
  | .no => True
section
variable {α β α' β' : Type} {K : PySem.W.Frag} {mg : Str → Option Value} {O : Own} {E : XK} {H : Hp}
theorem EvG.bind {r : R α} {f : α → R α'} {rel : α → β → Hp → Prop} {rel' : α' → β' → Hp → Prop} {T : (β → Hp → Prop) → Prop} {T1 : β → Hp → (β' → Hp → Prop) → Prop}
    (ha : EvG K mg O E H r rel T) (hk : ∀ x v H1, Same H H1 → rel x v H1 → EvG K mg O E H1 (f x) rel' (T1 v H1)) : EvG K mg O E H (r.bind f) rel' (fun Q => T fun v H1 => T1 v H1 Q) := by
  cases r with
  | no => trivial
  | ex e => exact fun w Q => ha w _
  | ok x =>
    show EvG K mg O E H (f x) rel' _
    have ha : ∀ Q : β → Hp → Prop, (∀ v H', Same H H' → rel x v H' → Q v H') → T Q := ha
    have hk := hk x
    cases hf : f x with
    | no => trivial
    | ex e =>
      exact fun w Q => ha _ fun v H1 s1 r1 => by
        have := hk v H1 s1 r1
        rw [hf] at this
        exact this (w.mono s1) Q
    | ok y =>
      exact fun Q hQ => ha _ fun v H1 s1 r1 => by
        have := hk v H1 s1 r1
        rw [hf] at this
        exact this Q fun v' H2 s2 r2 => hQ v' H2 (s1.trans s2) r2
theorem EvG.ok {x : α} {rel : α → β → Hp → Prop} {T : (β → Hp → Prop) → Prop} (h : ∀ Q : β → Hp → Prop, (∀ v H', Same H H' → rel x v H' → Q v H') → T Q) : EvG K mg O E H (.ok x) rel T := h
theorem EvG.ret {x : α} {v : β} {rel : α → β → Hp → Prop} (h : rel x v H) : EvG K mg O E H (.ok x) rel (fun Q => Q v H) := fun Q hQ => hQ v H (Same.refl H) h
theorem EvG.imp {r : R α} {rel rel' : α → β → Hp → Prop} {T : (β → Hp → Prop) → Prop} (h : EvG K mg O E H r rel T) (i : ∀ x v H', Same H H' → rel x v H' → rel' x v H') : EvG K mg O E H r rel' T := by
  cases r with
  | no => trivial
  | ex e => exact h
  | ok x => exact fun Q hQ => h Q fun v H' s r => hQ v H' s (i x v H' s r)
end

/-! ### reading what came -/
section
variable {K : PySem.W.Frag} {B H0 H : Hp} {O0 O : Own} {v : V} {k : Kd}
theorem Out.int {i : Int} (h : Out K B O0 H0 H O v (.int i, k)) : v = .int i := by
  cases k with
  | fz => cases (show Rep _ _ _ _ from h); rfl
  | ow => obtain ⟨_, _, _, _, z⟩ := h; exact z.elim
  | bo => obtain ⟨_, _, z, _⟩ := h; exact z.elim
  | al => obtain ⟨_, _, z⟩ := h; exact z.elim
theorem Out.bl {i : Bool} (h : Out K B O0 H0 H O v (.bl i, k)) : v = .bl i := by
  cases k with
  | fz => cases (show Rep _ _ _ _ from h); rfl
  | ow => obtain ⟨_, _, _, _, z⟩ := h; exact z.elim
  | bo => obtain ⟨_, _, z, _⟩ := h; exact z.elim
  | al => obtain ⟨_, _, z⟩ := h; exact z.elim
theorem Out.str {i : Str} (h : Out K B O0 H0 H O v (.str i, k)) : v = .str i := by
  cases k with
  | fz => cases (show Rep _ _ _ _ from h); rfl
  | ow => obtain ⟨_, _, _, _, z⟩ := h; exact z.elim
  | bo => obtain ⟨_, _, z, _⟩ := h; exact z.elim
  | al => obtain ⟨_, _, z⟩ := h; exact z.elim
theorem Out.non (h : Out K B O0 H0 H O v (.non, k)) : v = .non := by
  cases k with
  | fz => cases (show Rep _ _ _ _ from h); rfl
  | ow => obtain ⟨_, _, _, _, z⟩ := h; exact z.elim
  | bo => obtain ⟨_, _, z, _⟩ := h; exact z.elim
  | al => obtain ⟨_, _, z⟩ := h; exact z.elim
theorem Out.bor {x : DV} (h : Out K B O0 H0 H O v x) (n : x.2 ≠ .fz) : ∃ a, v = .ref a ∧ BorC K H O a x.1 := by
  obtain ⟨d, k⟩ := x
  cases k with
  | fz => exact absurd rfl n
  | ow =>
    obtain ⟨a, e, _, _, c⟩ := h
    exact ⟨a, e, c.bor.mono (Same.refl _) (off_anti fun b z => .inl z)⟩
  | bo => obtain ⟨a, e, _, c⟩ := h; exact ⟨a, e, c⟩
  | al => obtain ⟨a, e, c⟩ := h; exact ⟨a, e, c⟩
theorem Out.tup {ds : List D} (h : Out K B O0 H0 H O v (.tup ds, k)) : ∃ a vs, v = .ref a ∧ SqT K H a vs ∧ RepL K (off O H) vs ds := by
  by_cases n : k = .fz
  · subst n
    cases (show Rep _ _ _ _ from h) with
    | tup h1 h2 => exact ⟨_, _, rfl, SqT.of (off_sub _ _ h1), h2⟩
  · obtain ⟨a, e, vs, h1, h2⟩ := h.bor n
    exact ⟨a, vs, e, h1, h2⟩
theorem Out.lst {ds : List D} (h : Out K B O0 H0 H O v (.lst ds, k)) : ∃ a vs, v = .ref a ∧ SqL K H a vs ∧ RepL K (off O H) vs ds := by
  by_cases n : k = .fz
  · subst n
    cases (show Rep _ _ _ _ from h) with
    | lst h1 h2 => exact ⟨_, _, rfl, Same.seq off_sub h1, h2⟩
  · obtain ⟨a, e, vs, h1, h2⟩ := h.bor n
    exact ⟨a, vs, e, h1, h2⟩
theorem Out.dk {ds : List (Key × D)} (h : Out K B O0 H0 H O v (.dk ds, k)) : ∃ a vs, v = .ref a ∧ H a = some (.dK vs) ∧ RepK K (off O H) vs ds := by
  by_cases n : k = .fz
  · subst n
    cases (show Rep _ _ _ _ from h) with
    | dk h1 h2 => exact ⟨_, _, rfl, off_sub _ _ h1, h2⟩
  · obtain ⟨a, e, vs, h1, h2⟩ := h.bor n
    exact ⟨a, vs, e, h1, h2⟩
theorem Out.dt {ds : List (List Key × D)} (h : Out K B O0 H0 H O v (.dt ds, k)) : ∃ a vs, v = .ref a ∧ H a = some (.dT vs) ∧ RepT K (off O H) vs ds := by
  by_cases n : k = .fz
  · subst n
    cases (show Rep _ _ _ _ from h) with
    | dt h1 h2 => exact ⟨_, _, rfl, off_sub _ _ h1, h2⟩
  · obtain ⟨a, e, vs, h1, h2⟩ := h.bor n
    exact ⟨a, vs, e, h1, h2⟩
end

/-! ### the judgement of an expression -/
abbrev ORel (K : PySem.W.Frag) (B : Hp) (O0 : Own) (H : Hp) (O : Own) : DV → V → Hp → Prop := fun x v H' => Out K B O0 H H' O v x
structure DE (X : Cx) (E : XK) (e : Expr) (p : Env → R DV) : Prop where
  ex : ∃ t, PE X e t ∧ ∀ (B F : Hp) (O0 : Own) (H : Hp) (O : Own) (σ : L2.St) (ρ : Env), SR X.K B F O0 H O σ ρ → EvG X.K X.mg O E H (p ρ) (ORel X.K B O0 H O) (t σ H)
structure DT (X : Cx) (E : XK) (e : Expr) (p : Env → R Bool) : Prop where
  ex : ∃ t, PT X e t ∧ ∀ (B F : Hp) (O0 : Own) (H : Hp) (O : Own) (σ : L2.St) (ρ : Env), SR X.K B F O0 H O σ ρ → EvG X.K X.mg O E H (p ρ) (fun b c _ => c = b) (t σ H)
inductive OutL (K : PySem.W.Frag) (B : Hp) (O0 : Own) (H0 H : Hp) (O : Own) : List DV → List V → Prop
  | nil : OutL K B O0 H0 H O [] []
  | cons {x : DV} {xs : List DV} {v : V} {vs : List V} : Out K B O0 H0 H O v x → OutL K B O0 H0 H O xs vs → OutL K B O0 H0 H O (x :: xs) (v :: vs)
structure DA (X : Cx) (E : XK) (es : List Expr) (p : Env → R (List DV)) : Prop where
  ex : ∃ t, PA X es t ∧ ∀ (B F : Hp) (O0 : Own) (H : Hp) (O : Own) (σ : L2.St) (ρ : Env), SR X.K B F O0 H O σ ρ → EvG X.K X.mg O E H (p ρ) (fun xs vs H' => OutL X.K B O0 H H' O xs vs) (t σ H)
theorem OutL.mono {K : PySem.W.Frag} {B H0 H0' H H' : Hp} {O0 O : Own} (s0 : Same H0' H0) (s : Same H H') : ∀ {xs : List DV} {vs : List V}, OutL K B O0 H0 H O xs vs → OutL K B O0 H0' H' O xs vs
  | _, _, .nil => .nil
  | _, _, .cons a b => .cons (a.mono s0 s) (OutL.mono s0 s b)

section
variable {X : Cx} {E : XK} {e a b : Expr} {es : List Expr} {p pa pb : Env → R DV} {pt pu : Env → R Bool} {pl : Env → R (List DV)} {pos : Pos}

theorem da_nil : DA X E [] (fun _ => .ok []) := ⟨_, pa_nil, fun B F O0 H O σ ρ R => EvG.ret (show OutL _ _ _ _ _ _ _ _ from .nil)⟩
theorem da_cons (ha : DE X E e p) (hr : DA X E es pl) (hs : starEach (e :: es) X.env = (false, eval e X.env) :: starEach es X.env := by rfl) :
    DA X E (e :: es) (fun ρ => (p ρ).bind fun x => (pl ρ).bind fun xs => .ok (x :: xs)) := by
  obtain ⟨t, h1, h2⟩ := ha.ex
  obtain ⟨u, g1, g2⟩ := hr.ex
  refine ⟨_, pa_cons h1 g1 hs, fun B F O0 H O σ ρ R => ?_⟩
  refine EvG.bind (T1 := fun v H1 Q => u σ H1 fun vs H2 => Q (v :: vs) H2) (h2 B F O0 H O σ ρ R) fun x v H1 s1 r1 => ?_
  refine EvG.bind (T1 := fun vs H2 Q => Q (v :: vs) H2) (g2 B F O0 H1 O σ ρ (R.more s1)) fun xs vs H2 s2 r2 => ?_
  exact EvG.ret (.cons (r1.mono (Same.refl _) s2) (r2.mono s1 (Same.refl _)))

/-! names, constants -/
def dVar (i : Nat) : Env → R DV := fun ρ => match ρ[i]? with
  | some (some (d, .fz)) => .ok (d, .fz)
  | some (some (d, .bo)) => .ok (d, .bo)
  | some (some (d, .ow)) => .ok (d, .al)
  | _ => .no
theorem de_var (i : Nat) {x : Str} (h : PE X (.Name x pos) (tVar i)) : DE X E (.Name x pos) (dVar i) := by
  refine ⟨_, h, fun B F O0 H O σ ρ R => ?_⟩
  unfold dVar
  cases q : ρ[i]? with
  | none => trivial
  | some o =>
    cases o with
    | none => trivial
    | some y =>
      obtain ⟨v, h1, h2⟩ := R.slot i y q
      obtain ⟨d, k⟩ := y
      cases k with
      | fz => exact fun Q hQ => ⟨v, h1, hQ v H (Same.refl _) h2⟩
      | ow =>
        obtain ⟨a, ea, oa, _, c⟩ := h2
        exact fun Q hQ => ⟨v, h1, hQ v H (Same.refl _) ⟨a, ea, c.bor⟩⟩
      | bo =>
        obtain ⟨a, ea, c⟩ := h2
        exact fun Q hQ => ⟨v, h1, hQ v H (Same.refl _) ⟨a, ea, c, c.mono R.base R.fb⟩⟩
      | al => exact h2.elim
theorem de_int {i j pos} : DE X E (.Constant (.int i) j pos) (fun _ => .ok (.int i, .fz)) := ⟨_, pe_int, fun B F O0 H O σ ρ R => EvG.ret (show Rep _ _ _ _ from .int i)⟩
theorem de_bl {i j pos} : DE X E (.Constant (.bool i) j pos) (fun _ => .ok (.bl i, .fz)) := ⟨_, pe_bl, fun B F O0 H O σ ρ R => EvG.ret (show Rep _ _ _ _ from .bl i)⟩
theorem de_non {j pos} : DE X E (.Constant .none j pos) (fun _ => .ok (.non, .fz)) := ⟨_, pe_non, fun B F O0 H O σ ρ R => EvG.ret (show Rep _ _ _ _ from .non)⟩
theorem de_str {i j pos} : DE X E (.Constant (.str i) j pos) (fun _ => .ok (.str i, .fz)) := ⟨_, pe_str, fun B F O0 H O σ ρ R => EvG.ret (show Rep _ _ _ _ from .str i)⟩
/-- a module's constant -/
theorem de_glob {x : Str} {v : V} {u : Value} {d : D} (hg : Gl X x) (hm : X.mg x = some u) (r : RelV v u) (hr : ∀ H, Rep X.K H v d) (hd : (x == ("__debug__" : Str)) = false := by decide) : DE X E (.Name x pos) (fun _ => .ok (d, .fz)) :=
  ⟨_, pe_glob hg hm r hd, fun B F O0 H O σ ρ R => EvG.ret (show Rep _ _ _ _ from hr _)⟩

/-! operators -/
/-- two operands, by values -/
theorem de_two {t : TE} {e : Expr} {r : R2} {f : DV → DV → R DV} (ha : DE X E a pa) (hb : DE X E b pb)
    (mk : ∀ ta tb, PE X a ta → PE X b tb → PE X e (tOp r ta tb))
    (hf : ∀ (B : Hp) (O0 : Own) (H0 H : Hp) (O : Own) (x y : DV) (v w : V), Same H0 H → (∀ a, O a → H a ≠ none) → Out X.K B O0 H0 H O v x → Out X.K B O0 H0 H O w y → EvG X.K X.mg O E H (f x y) (ORel X.K B O0 H O) (fun Q => r v w H Q)) :
    DE X E e (fun ρ => (pa ρ).bind fun x => (pb ρ).bind fun y => f x y) := by
  obtain ⟨t, h1, h2⟩ := ha.ex
  obtain ⟨u, g1, g2⟩ := hb.ex
  refine ⟨_, mk _ _ h1 g1, fun B F O0 H O σ ρ R => ?_⟩
  refine EvG.bind (T1 := fun v H1 Q => u σ H1 fun w H2 => r v w H2 Q) (h2 B F O0 H O σ ρ R) fun x v H1 s1 r1 => ?_
  refine EvG.bind (T1 := fun w H2 Q => r v w H2 Q) (g2 B F O0 H1 O σ ρ (R.more s1)) fun y w H2 s2 r2 => ?_
  refine (hf B O0 H H2 O x y v w (s1.trans s2) (R.more (s1.trans s2)).dom (r1.mono (Same.refl _) s2) (r2.mono s1 (Same.refl _))).imp fun z u H' s' o => o.mono (s1.trans s2) (Same.refl _)
theorem de_bin {op : Operator} {r : R2} {f : DV → DV → R DV} (ho : OpR X (binaryOp op) r)
    (hf : ∀ (B : Hp) (O0 : Own) (H0 H : Hp) (O : Own) (x y : DV) (v w : V), Same H0 H → (∀ a, O a → H a ≠ none) → Out X.K B O0 H0 H O v x → Out X.K B O0 H0 H O w y → EvG X.K X.mg O E H (f x y) (ORel X.K B O0 H O) (fun Q => r v w H Q))
    (ha : DE X E a pa) (hb : DE X E b pb) : DE X E (.BinOp a op b pos) (fun ρ => (pa ρ).bind fun x => (pb ρ).bind fun y => f x y) :=
  de_two (t := tOp r (fun _ _ _ => True) (fun _ _ _ => True)) ha hb (fun _ _ h g => pe_op ho h g) hf
theorem de_cmp {op : CmpOp} {r : R2} {f : DV → DV → R DV} (ho : OpR X (compareOp op) r)
    (hf : ∀ (B : Hp) (O0 : Own) (H0 H : Hp) (O : Own) (x y : DV) (v w : V), Same H0 H → (∀ a, O a → H a ≠ none) → Out X.K B O0 H0 H O v x → Out X.K B O0 H0 H O w y → EvG X.K X.mg O E H (f x y) (ORel X.K B O0 H O) (fun Q => r v w H Q))
    (ha : DE X E a pa) (hb : DE X E b pb) (hm : behindInMarks op b = false) : DE X E (.Compare a [op] [b] pos) (fun ρ => (pa ρ).bind fun x => (pb ρ).bind fun y => f x y) :=
  de_two (t := tOp r (fun _ _ _ => True) (fun _ _ _ => True)) ha hb (fun _ _ h g => pe_cmpR ho h g hm) hf
end
end FK
namespace FK
open PySem PySem.Spec L2
open PyProof.Rows hiding St

/-! ### new objects -/
section
variable {K : PySem.W.Frag} {mg : Str → Option Value} {E : XK} {B H : Hp} {O0 O : Own}
theorem off_new {O : Own} {H : Hp} {p : Addr} {o : HO} (hp : H p = none) : Same (off O H) (off (plus O p) (upd H p o)) := by
  rw [off_upd (show plus O p p from .inr rfl)]
  exact off_plus_new hp
theorem ev_lst {xs : List V} {ds : List D} (dom : ∀ a, O a → H a ≠ none) (h : RepL K (off O H) xs ds) :
    EvG K mg O E H (.ok (.lst ds, .ow)) (ORel K B O0 H O) (fun Q => ∀ p, H p = none → Q (.ref p) (upd H p (.lst xs))) := fun Q hQ p hp =>
  hQ _ _ (same_upd hp) ⟨p, rfl, hp, fun z => dom p z hp, xs, upd_same, h.mono (off_new hp)⟩
theorem rep_tup {xs : List V} {ds : List D} {p : Addr} (dom : ∀ a, O a → H a ≠ none) (hp : H p = none) (h : RepL K (off O H) xs ds) : Rep K (off O (upd H p (.tup xs))) (.ref p) (.tup ds) :=
  .tup (off_of (fun z => dom p z hp) upd_same) (h.mono (off_mono (same_upd hp)))
theorem ev_tup {xs : List V} {ds : List D} (dom : ∀ a, O a → H a ≠ none) (h : RepL K (off O H) xs ds) :
    EvG K mg O E H (.ok (.tup ds, .fz)) (ORel K B O0 H O) (fun Q => ∀ p, H p = none → Q (.ref p) (upd H p (.tup xs))) := fun Q hQ p hp =>
  hQ _ _ (same_upd hp) (rep_tup dom hp h)
theorem ev_dk (dom : ∀ a, O a → H a ≠ none) :
    EvG K mg O E H (.ok (.dk [], .ow)) (ORel K B O0 H O) (fun Q => ∀ p, H p = none → Q (.ref p) (upd H p (.dK []))) := fun Q hQ p hp =>
  hQ _ _ (same_upd hp) ⟨p, rfl, hp, fun z => dom p z hp, [], upd_same, .nil⟩
theorem ev_dt (dom : ∀ a, O a → H a ≠ none) :
    EvG K mg O E H (.ok (.dt [], .ow)) (ORel K B O0 H O) (fun Q => ∀ p, H p = none → Q (.ref p) (upd H p (.dT []))) := fun Q hQ p hp =>
  hQ _ _ (same_upd hp) ⟨p, rfl, hp, fun z => dom p z hp, [], upd_same, .nil⟩
/-- a thing made goes to the frozen part -/
def fzK : Kd → Kd | .ow => .fz | k => k
def fzD (x : DV) : DV := (x.1, fzK x.2)
theorem Out.fzD {H0 : Hp} {v : V} {x : DV} (h : Out K B O0 H0 H O v x) : Out K B O0 H0 H O v (fzD x) := by
  obtain ⟨d, k⟩ := x
  cases k with
  | fz => exact h
  | ow =>
    obtain ⟨a, e, _, n, c⟩ := h
    subst e
    exact c.frozen n
  | bo => exact h
  | al => exact h
end

theorem OpR.or {X : Cx} {f : Value → Value → Sem Value} {r r' : R2} (h : OpR X f r) (h' : OpR X f r') : OpR X f (fun x y H Q => r x y H Q ∨ r' x y H Q) := by
  intro pins s σ H x y v u Q I rx ry q
  rcases q with q | q
  · exact h pins s σ H x y v u Q I rx ry q
  · exact h' pins s σ H x y v u Q I rx ry q

/-! ### + -/
def rCatG (K : PySem.W.Frag) : R2 := fun x y H Q => ∃ l b xs zs, x = .ref l ∧ y = .ref b ∧ SqL K H l xs ∧ SqL K H b zs ∧ xs.length + zs.length ≤ sizeLine ∧ ∀ p, H p = none → Q (.ref p) (upd H p (.lst (xs ++ zs)))
theorem op_catG {X : Cx} : OpR X (binaryOp .Add) (rCatG X.K) := by
  intro pins s σ H x y v u Q I rx ry h
  obtain ⟨l, b, xs, zs, rfl, rfl, hH, hB, hz, q⟩ := h
  cases rx
  cases ry
  obtain ⟨its, r, hl, e⟩ := I.list hH
  obtain ⟨its2, r2, hl2, e2⟩ := I.list hB
  obtain ⟨⟨cls, dd, data, sl⟩, n, ho, hc, hdd, hd⟩ := hl
  obtain ⟨⟨cls2, dd2, data2, sl2⟩, n2, ho2, hc2, hdd2, hd2⟩ := hl2
  simp only at hc hd hc2 hd2 hdd hdd2
  subst hc hd hc2 hd2 hdd hdd2
  have e : its.toArray ++ its2.toArray = (its ++ its2).toArray := by simp
  have z1 := r.length
  have z2 := r2.length
  refine concat_meets ⟨_, ho, rfl⟩ ⟨_, ho2, rfl⟩ noFill_list_add seq_list_add PySem.F.slot_list_add PySem.F.entry_list_add (PySem.F.args_list_add_2 _ _) (list_addW l b its.toArray its2.toArray n n2 none none sl sl2 (by rw [List.size_toArray, List.size_toArray]; omega)) ⟨ho, ho2, ?_⟩
  rw [e]
  exact ⟨.ref _, _, I.lnew (t' := s.toks) (r.append r2) (by rw [List.length_append]; omega), rfl, q _ I.fresh⟩
def rAdd (K : PySem.W.Frag) : R2 := fun x y H Q => rI0 (fun i j => V.int (i + j)) x y H Q ∨ (∃ i j, x = .str i ∧ y = .str j ∧ i.length + j.length ≤ sizeLine ∧ Q (.str (i ++ j)) H) ∨ rCatG K x y H Q ∨ rCatA K x y H Q
theorem op_addG {X : Cx} : OpR X (binaryOp .Add) (rAdd X.K) := OpR.or op_add (OpR.or op_add_str (OpR.or op_catG op_catA))
def opAdd (x y : DV) : R DV := match x.1, y.1 with
  | .int i, .int j => .ok (.int (i + j), .fz)
  | .str i, .str j => if i.length + j.length ≤ sizeLine then .ok (.str (i ++ j), .fz) else .no
  | .lst i, .lst j => if i.length + j.length ≤ sizeLine then .ok (.lst (i ++ j), .ow) else .no
  | .tup i, .tup j => if x.2 = .fz ∧ y.2 = .fz ∧ i.length + j.length ≤ sizeLine then .ok (.tup (i ++ j), .fz) else .no
  | _, _ => .no
section
variable {X : Cx} {E : XK} {B H0 H : Hp} {O0 O : Own} {x y : DV} {v w : V}
theorem ev_add (s : Same H0 H) (dom : ∀ a, O a → H a ≠ none) (hx : Out X.K B O0 H0 H O v x) (hy : Out X.K B O0 H0 H O w y) : EvG X.K X.mg O E H (opAdd x y) (ORel X.K B O0 H O) (fun Q => rAdd X.K v w H Q) := by
  obtain ⟨d, k⟩ := x
  obtain ⟨d2, k2⟩ := y
  cases d <;> cases d2 <;> first | exact True.intro | skip
  · cases hx.int
    cases hy.int
    exact fun Q hQ => .inl ⟨_, _, rfl, rfl, hQ _ _ (Same.refl _) (show Rep _ _ _ _ from .int _)⟩
  · cases hx.str
    cases hy.str
    unfold opAdd
    dsimp only
    split
    · rename_i z
      exact fun Q hQ => .inr (.inl ⟨_, _, rfl, rfl, z, hQ _ _ (Same.refl _) (show Rep _ _ _ _ from .str _)⟩)
    · trivial
  · obtain ⟨a, vs, rfl, h1, h2⟩ := hx.lst
    obtain ⟨b, ws, rfl, g1, g2⟩ := hy.lst
    unfold opAdd
    dsimp only
    split
    · rename_i z
      rw [← h2.length, ← g2.length] at z
      exact fun Q hQ => .inr (.inr (.inl ⟨a, b, vs, ws, rfl, rfl, h1, g1, z, ev_lst (mg := X.mg) (E := E) dom (h2.append g2) Q hQ⟩))
    · trivial
  · obtain ⟨a, vs, rfl, h1, h2⟩ := hx.tup
    obtain ⟨b, ws, rfl, g1, g2⟩ := hy.tup
    unfold opAdd
    dsimp only
    split
    · rename_i z
      rw [← h2.length, ← g2.length] at z
      obtain ⟨f1, f2, z⟩ := z
      cases f1
      cases f2
      refine fun Q hQ => .inr (.inr (.inr ⟨a, b, vs, ws, rfl, rfl, h1, g1, z, fun e => ?_, fun e e2 => ?_, fun e e2 => ?_⟩))
      · subst e
        cases h2
        exact hQ _ _ (Same.refl _) hy
      · subst e2
        cases g2
        rw [List.append_nil] at hQ
        exact hQ _ _ (Same.refl _) hx
      · exact ev_tup (mg := X.mg) (E := E) dom (h2.append g2) Q hQ
    · trivial
end
section
variable {X : Cx} {E : XK} {a b : Expr} {pa pb : Env → R DV} {pos : Pos}
abbrev dBin (f : DV → DV → R DV) (pa pb : Env → R DV) : Env → R DV := fun ρ => (pa ρ).bind fun x => (pb ρ).bind fun y => f x y
theorem de_add (ha : DE X E a pa) (hb : DE X E b pb) : DE X E (.BinOp a .Add b pos) (dBin opAdd pa pb) := de_bin op_addG (fun _ _ _ _ _ _ _ _ _ s d hx hy => ev_add s d hx hy) ha hb
end

/-! ### - * // % ** -/
def opInt (f : Int → Int → R Int) (x y : DV) : R DV := match x.1, y.1 with
  | .int i, .int j => (f i j).bind fun n => .ok (.int n, .fz)
  | _, _ => .no
theorem ev_int {X : Cx} {E : XK} {B H0 H : Hp} {O0 O : Own} {x y : DV} {v w : V} {f : Int → Int → R Int} {r : R2} (hr : ∀ i j n (Q : VK), f i j = .ok n → Q (.int n) H → r (.int i) (.int j) H Q) (hx' : ∀ i j e, f i j ≠ .ex e)
    (hx : Out X.K B O0 H0 H O v x) (hy : Out X.K B O0 H0 H O w y) : EvG X.K X.mg O E H (opInt f x y) (ORel X.K B O0 H O) (fun Q => r v w H Q) := by
  obtain ⟨d, k⟩ := x
  obtain ⟨d2, k2⟩ := y
  cases d <;> cases d2 <;> first | exact True.intro | skip
  cases hx.int
  cases hy.int
  rename_i i j
  show EvG _ _ _ _ _ ((f i j).bind fun n => (.ok (.int n, .fz) : R DV)) _ _
  cases q : f i j with
  | no => trivial
  | ex e => exact absurd q (hx' _ _ _)
  | ok n => exact fun Q hQ => hr i j n Q q (hQ _ _ (Same.refl _) (show Rep _ _ _ _ from .int _))
def fSub (i j : Int) : R Int := .ok (i - j)
def fMul (i j : Int) : R Int := if i.natAbs < 2 ^ 64 ∨ j.natAbs < 2 ^ 64 then .ok (i * j) else .no
def fDiv (i j : Int) : R Int := if 0 < j ∧ j < 1073741824 then .ok (i / j) else .no
def fMod (i j : Int) : R Int := if 0 < j then .ok (i % j) else .no
def fPow (i j : Int) : R Int := if 0 ≤ j ∧ j ≤ 1000000 ∧ i.natAbs < 2 ^ 64 then .ok (i ^ j.toNat) else .no
/-- [..] * n, a list just made -/
def opMul (x y : DV) : R DV := match x, y.1 with
  | (.lst xs, .ow), .int k => if -(2 ^ 63) ≤ k ∧ k < 2 ^ 63 ∧ xs.length * k.toNat ≤ sizeLine then .ok (.lst (List.replicate k.toNat xs).flatten, .ow) else .no
  | (.tup xs, _), .int k => if xs ≠ [] ∧ 2 ≤ k ∧ k ≤ 1000 ∧ xs.length ≤ 1000 then .ok (.tup (List.replicate k.toNat xs).flatten, .fz) else .no
  | (.int i, _), .int j => (fMul i j).bind fun n => .ok (.int n, .fz)
  | _, _ => .no
theorem RepL.rep {K : PySem.W.Frag} {H : Hp} {vs : List V} {ds : List D} (h : RepL K H vs ds) : ∀ n : Nat, RepL K H (List.replicate n vs).flatten (List.replicate n ds).flatten
  | 0 => .nil
  | n + 1 => by
    rw [List.replicate_succ, List.replicate_succ, List.flatten_cons, List.flatten_cons]
    exact h.append (RepL.rep h n)
def rMul (K : PySem.W.Frag) : R2 := fun x y H Q => rI CMul (fun i j => V.int (i * j)) x y H Q ∨ rRep x y H Q ∨ rRepT K x y H Q
theorem op_mulG {X : Cx} : OpR X (binaryOp .Mult) (rMul X.K) := OpR.or op_mul (OpR.or op_rep op_repT)
theorem ev_mul {X : Cx} {E : XK} {B H0 H : Hp} {O0 O : Own} {x y : DV} {v w : V} (s : Same H0 H) (dom : ∀ a, O a → H a ≠ none) (hx : Out X.K B O0 H0 H O v x) (hy : Out X.K B O0 H0 H O w y) :
    EvG X.K X.mg O E H (opMul x y) (ORel X.K B O0 H O) (fun Q => rMul X.K v w H Q) := by
  obtain ⟨d, k⟩ := x
  obtain ⟨d2, k2⟩ := y
  cases d with
  | int i =>
    cases d2 <;> first | exact True.intro | skip
    cases hx.int
    cases hy.int
    rename_i j
    show EvG _ _ _ _ _ ((fMul i j).bind fun n => (.ok (.int n, .fz) : R DV)) _ _
    unfold fMul
    split
    · rename_i c
      refine fun Q hQ => .inl ⟨_, _, rfl, rfl, ?_, hQ _ _ (Same.refl _) (show Rep _ _ _ _ from .int _)⟩
      rcases c with c | c
      · exact .inl (by omega)
      · exact .inr (by omega)
    · trivial
  | lst xs =>
    cases k <;> first | exact True.intro | skip
    cases d2 <;> first | exact True.intro | skip
    cases hy.int
    rename_i j
    obtain ⟨a, rfl, ha, na, vs, h1, h2⟩ := hx
    unfold opMul
    dsimp only
    split
    · rename_i c
      obtain ⟨c1, c2, c3⟩ := c
      rw [← h2.length] at c3
      refine fun Q hQ => .inr (.inl ⟨a, j, vs, rfl, rfl, h1, c1, c2, c3, ?_⟩)
      exact ev_lst (mg := X.mg) (E := E) dom ((h2.mono (off_anti fun b z => .inl z)).rep j.toNat) Q hQ
    · trivial
  | tup xs =>
    cases d2 <;> first | exact True.intro | skip
    cases hy.int
    rename_i j
    obtain ⟨a, vs, rfl, h1, h2⟩ := hx.tup
    show EvG _ _ _ _ _ (if xs ≠ [] ∧ 2 ≤ j ∧ j ≤ 1000 ∧ xs.length ≤ 1000 then (.ok (.tup (List.replicate j.toNat xs).flatten, .fz) : R DV) else .no) _ _
    split
    · rename_i c
      obtain ⟨c0, c1, c2, c3⟩ := c
      rw [← h2.length] at c3
      refine fun Q hQ => .inr (.inr ⟨a, j, vs, rfl, rfl, h1, ?_, c1, c2, c3, ?_⟩)
      · intro e
        subst e
        cases h2
        exact c0 rfl
      · exact ev_tup (mg := X.mg) (E := E) dom (h2.rep j.toNat) Q hQ
    · trivial
  | _ => exact True.intro
section
variable {X : Cx} {E : XK} {a b : Expr} {pa pb : Env → R DV} {pos : Pos}
theorem de_sub (ha : DE X E a pa) (hb : DE X E b pb) : DE X E (.BinOp a .Sub b pos) (dBin (opInt fSub) pa pb) := de_bin op_sub (fun _ _ _ _ _ _ _ _ _ _ _ hx hy => ev_int (fun i j n Q e q => by
    unfold fSub at e
    cases e
    exact ⟨_, _, rfl, rfl, q⟩) (fun _ _ _ z => by unfold fSub at z; cases z) hx hy) ha hb
theorem de_mul (ha : DE X E a pa) (hb : DE X E b pb) : DE X E (.BinOp a .Mult b pos) (dBin opMul pa pb) := de_bin op_mulG (fun _ _ _ _ _ _ _ _ _ s d hx hy => ev_mul s d hx hy) ha hb
theorem de_div (ha : DE X E a pa) (hb : DE X E b pb) : DE X E (.BinOp a .FloorDiv b pos) (dBin (opInt fDiv) pa pb) := de_bin op_fdiv (fun _ _ _ _ _ _ _ _ _ _ _ hx hy => ev_int (fun i j n Q e q => by
    unfold fDiv at e
    split at e <;> cases e
    rename_i c
    exact ⟨_, _, rfl, rfl, c, q⟩) (fun _ _ _ z => by unfold fDiv at z; split at z <;> cases z) hx hy) ha hb
theorem de_mod (ha : DE X E a pa) (hb : DE X E b pb) : DE X E (.BinOp a .Mod b pos) (dBin (opInt fMod) pa pb) := de_bin op_mod (fun _ _ _ _ _ _ _ _ _ _ _ hx hy => ev_int (fun i j n Q e q => by
    unfold fMod at e
    split at e <;> cases e
    rename_i c
    exact ⟨_, _, rfl, rfl, c, q⟩) (fun _ _ _ z => by unfold fMod at z; split at z <;> cases z) hx hy) ha hb
theorem de_pow (ha : DE X E a pa) (hb : DE X E b pb) : DE X E (.BinOp a .Pow b pos) (dBin (opInt fPow) pa pb) := de_bin op_pow (fun _ _ _ _ _ _ _ _ _ _ _ hx hy => ev_int (fun i j n Q e q => by
    unfold fPow at e
    split at e <;> cases e
    rename_i c
    exact ⟨_, _, rfl, rfl, c, q⟩) (fun _ _ _ z => by unfold fPow at z; split at z <;> cases z) hx hy) ha hb
end
end FK
namespace FK
open PySem PySem.Spec L2
open PyProof.Rows hiding St

/-! ### as the library's data -/
mutual
def D.py : D → PyData
  | .non => .none
  | .bl b => .bool b
  | .int i => .int i
  | .str s => .str s
  | .lst xs => .list (D.pyL xs)
  | .tup xs => .tuple (D.pyL xs)
  | .dk _ => .dict []
  | .dt _ => .dict []
def D.pyL : List D → List PyData
  | [] => []
  | d :: r => D.py d :: D.pyL r
end
theorem D.pyL_map : ∀ xs : List D, D.pyL xs = xs.map D.py
  | [] => rfl
  | d :: r => by
    show _ :: D.pyL r = _
    rw [D.pyL_map r]
    rfl
section
variable {K : PySem.W.Frag} {H : Hp}
mutual
theorem Rep.dp : ∀ {v : V} {d : D}, Rep K H v d → d.py.plain = true → Dp K H v d.py
  | _, _, .non, _ => .non
  | _, _, .bl b, _ => .bl b
  | _, _, .int b, _ => .int b
  | _, _, .str b, _ => .str b
  | _, _, .lst (ds := ds) a b, h => .lst a (RepL.dp b (by simpa only [D.py, PyData.plain] using h))
  | _, _, .tup (ds := ds) a b, h => .tup (SqT.of a) (RepL.dp b (by simpa only [D.py, PyData.plain] using h))
  | _, _, .dk _ _, h => by simp [D.py, PyData.plain] at h
  | _, _, .dt _ _, h => by simp [D.py, PyData.plain] at h
theorem RepL.dp : ∀ {v : List V} {d : List D}, RepL K H v d → PyData.plainAll (D.pyL d) = true → DpAll K H v (D.pyL d)
  | _, _, .nil, _ => .nil
  | _, _, .cons a b, h => by
    simp only [D.pyL, PyData.plainAll, Bool.and_eq_true] at h
    exact .cons (Rep.dp a h.1) (RepL.dp b h.2)
end
theorem Out.dp {B H0 : Hp} {O0 O : Own} {v : V} {x : DV} (h : Out K B O0 H0 H O v x) (p : x.1.py.plain = true) : Dp K H v x.1.py := by
  by_cases n : x.2 = .fz
  · obtain ⟨d, k⟩ := x
    cases (show k = .fz from n)
    exact Rep.dp (Rep.mono off_sub h) p
  · obtain ⟨a, rfl, c⟩ := h.bor n
    obtain ⟨d, k⟩ := x
    cases d <;> first | exact c.elim | skip
    · obtain ⟨vs, h1, h2⟩ := c
      exact .lst h1 (RepL.dp (h2.mono off_sub) (by simpa only [D.py, PyData.plain] using p))
    · obtain ⟨vs, h1, h2⟩ := c
      exact .tup h1 (RepL.dp (h2.mono off_sub) (by simpa only [D.py, PyData.plain] using p))
    · simp [D.py, PyData.plain] at p
    · simp [D.py, PyData.plain] at p
end

/-! ### == != -/
def rEqP (K : PySem.W.Frag) (g : Bool → Bool) : R2 := fun x y H Q => ∃ d e, Dp K H x d ∧ Dp K H y e ∧ d.plain = true ∧ e.plain = true ∧ min d.depth e.depth ≤ 100 ∧ Q (.bl (g (PyData.eqv d e))) H
theorem op_eqP {X : Cx} {k : Nat} (hr : Room k X.A) : OpR X (compareOp .Eq) (rEqP X.K id) := by
  intro pins s σ H x y v u Q I rx ry h
  obtain ⟨d, e, hd, he, sd, se, hz, q⟩ := h
  obtain ⟨as, r1⟩ := Dp.reads I d x v hd rx
  obtain ⟨bs, r2⟩ := Dp.reads I e y u he ry
  exact PySem.SeqAt.eq_plain r1 r2 sd se (by have := hr.un; omega) ⟨.bl _, H, I, rfl, q⟩
theorem op_neP {X : Cx} {k : Nat} (hr : Room k X.A) : OpR X (compareOp .NotEq) (rEqP X.K (!·)) := by
  intro pins s σ H x y v u Q I rx ry h
  obtain ⟨d, e, hd, he, sd, se, hz, q⟩ := h
  obtain ⟨as, r1⟩ := Dp.reads I d x v hd rx
  obtain ⟨bs, r2⟩ := Dp.reads I e y u he ry
  exact PySem.SeqAt.ne_plain r1 r2 sd se (by have := hr.un; omega) ⟨.bl _, H, I, rfl, q⟩
def eqD (x y : D) : R Bool := if x.py.plain = true ∧ y.py.plain = true ∧ min x.py.depth y.py.depth ≤ 100 then .ok (PyData.eqv x.py y.py) else .no
def cEq (g : Bool → Bool) (x y : DV) : R DV := (eqD x.1 y.1).bind fun b => .ok (.bl (g b), .fz)
section
variable {X : Cx} {E : XK} {B H0 H : Hp} {O0 O : Own} {x y : DV} {v w : V} {a b : Expr} {pa pb : Env → R DV} {pos : Pos} {k : Nat}
theorem ev_eq (g : Bool → Bool) (hx : Out X.K B O0 H0 H O v x) (hy : Out X.K B O0 H0 H O w y) : EvG X.K X.mg O E H (cEq g x y) (ORel X.K B O0 H O) (fun Q => rEqP X.K g v w H Q) := by
  unfold cEq eqD
  split
  · rename_i c
    exact fun Q hQ => ⟨_, _, hx.dp c.1, hy.dp c.2.1, c.1, c.2.1, c.2.2, hQ _ _ (Same.refl _) (show Rep _ _ _ _ from .bl _)⟩
  · trivial
theorem de_eq (hr : Room k X.A) (ha : DE X E a pa) (hb : DE X E b pb) (hm : behindInMarks .Eq b = false := by exact nomark _) : DE X E (.Compare a [.Eq] [b] pos) (dBin (cEq id) pa pb) :=
  de_cmp (op_eqP hr) (fun _ _ _ _ _ _ _ _ _ _ _ hx hy => ev_eq id hx hy) ha hb hm
theorem de_ne (hr : Room k X.A) (ha : DE X E a pa) (hb : DE X E b pb) (hm : behindInMarks .NotEq b = false := by exact nomark _) : DE X E (.Compare a [.NotEq] [b] pos) (dBin (cEq (!·)) pa pb) :=
  de_cmp (op_neP hr) (fun _ _ _ _ _ _ _ _ _ _ _ hx hy => ev_eq (!·) hx hy) ha hb hm

/-! ### < <= > >= -/
def rLtP (K : PySem.W.Frag) (f : PyData → PyData → Bool) : R2 := fun x y H Q => ∃ d e, Dp K H x d ∧ Dp K H y e ∧ PySem.W.alike d e = true ∧ d ≠ .none ∧ min d.depth e.depth ≤ 100 ∧ Q (.bl (f d e)) H
theorem op_ltP (hr : Room k X.A) : OpR X (compareOp .Lt) (rLtP X.K PySem.W.dataLt) := by
  intro pins s σ H x y v u Q I rx ry h
  obtain ⟨d, e, hd, he, sd, se, hz, q⟩ := h
  obtain ⟨as, r1⟩ := Dp.reads I d x v hd rx
  obtain ⟨bs, r2⟩ := Dp.reads I e y u he ry
  exact PySem.W.lt_data r1 r2 sd se (by have := hr.un; omega) ⟨.bl _, H, I, rfl, q⟩
theorem op_gtP (hr : Room k X.A) : OpR X (compareOp .Gt) (rLtP X.K fun d e => PySem.W.dataLt e d) := by
  intro pins s σ H x y v u Q I rx ry h
  obtain ⟨d, e, hd, he, sd, se, hz, q⟩ := h
  obtain ⟨as, r1⟩ := Dp.reads I d x v hd rx
  obtain ⟨bs, r2⟩ := Dp.reads I e y u he ry
  exact PySem.W.gt_data r1 r2 sd se (by have := hr.un; omega) ⟨.bl _, H, I, rfl, q⟩
theorem op_leP (hr : Room k X.A) : OpR X (compareOp .LtE) (rLtP X.K fun d e => !PySem.W.dataLt e d) := by
  intro pins s σ H x y v u Q I rx ry h
  obtain ⟨d, e, hd, he, sd, se, hz, q⟩ := h
  obtain ⟨as, r1⟩ := Dp.reads I d x v hd rx
  obtain ⟨bs, r2⟩ := Dp.reads I e y u he ry
  exact PySem.W.le_data r1 r2 sd se (by have := hr.un; omega) ⟨.bl _, H, I, rfl, q⟩
theorem op_geP (hr : Room k X.A) : OpR X (compareOp .GtE) (rLtP X.K fun d e => !PySem.W.dataLt d e) := by
  intro pins s σ H x y v u Q I rx ry h
  obtain ⟨d, e, hd, he, sd, se, hz, q⟩ := h
  obtain ⟨as, r1⟩ := Dp.reads I d x v hd rx
  obtain ⟨bs, r2⟩ := Dp.reads I e y u he ry
  exact PySem.W.ge_data r1 r2 sd se (by have := hr.un; omega) ⟨.bl _, H, I, rfl, q⟩
def D.isNon : D → Bool | .non => true | _ => false
/-- x < y of ints, texts, tuples, lists -/
def ltD (x y : D) : R Bool := match x, y with
  | .int i, .int j => .ok (decide (i < j))
  | x, y => if x.py.plain = true ∧ y.py.plain = true ∧ PySem.W.alike x.py y.py = true ∧ PySem.W.alike y.py x.py = true ∧ x.isNon = false ∧ min x.py.depth y.py.depth ≤ 100 then .ok (PySem.W.dataLt x.py y.py) else .no
theorem dataLt_int (i j : Int) : PySem.W.dataLt (.int i) (.int j) = decide (i < j) := by
  unfold PySem.W.dataLt
  simp only [PySem.W.keyToks]
  simp [PyProof.Rows.lexLt, itemOrd, itemLt]
end
end FK
namespace FK
open PySem PySem.Spec L2
open PyProof.Rows hiding St

def cOrd (f : D → D → R Bool) (x y : DV) : R DV := (f x.1 y.1).bind fun b => .ok (.bl b, .fz)
def oLt (x y : D) : R Bool := ltD x y
def oGt (x y : D) : R Bool := ltD y x
def oLe (x y : D) : R Bool := (ltD y x).bind fun b => .ok !b
def oGe (x y : D) : R Bool := (ltD x y).bind fun b => .ok !b
theorem ltD_ok {x y : D} {b : Bool} (h : ltD x y = .ok b) : x.py.plain = true ∧ y.py.plain = true ∧ PySem.W.alike x.py y.py = true ∧ PySem.W.alike y.py x.py = true ∧ x.py ≠ .none ∧ y.py ≠ .none ∧ min x.py.depth y.py.depth ≤ 100 ∧ b = PySem.W.dataLt x.py y.py := by
  unfold ltD at h
  split at h
  · rename_i i j
    cases h
    refine ⟨rfl, rfl, ?_, ?_, (fun z => nomatch z), (fun z => nomatch z), ?_, (dataLt_int i j).symm⟩
    · simp [D.py, PySem.W.alike]
    · simp [D.py, PySem.W.alike]
    · simp [D.py, PyData.depth]
  · split at h
    · rename_i c
      cases h
      obtain ⟨c1, c2, c3, c4, c5, c6⟩ := c
      refine ⟨c1, c2, c3, c4, ?_, ?_, c6, rfl⟩
      · cases x <;> first | (intro z; cases z; done) | skip
        cases c5
      · intro z
        cases y <;> first | (cases z; done) | skip
        cases x <;> first | (cases c5; done) | (simp [D.py, PySem.W.alike] at c3; done)
    · cases h
section
variable {X : Cx} {E : XK} {B H0 H : Hp} {O0 O : Own} {x y : DV} {v w : V} {a b c : Expr} {pa pb pc : Env → R DV} {pos : Pos} {k : Nat}
theorem ev_ord {f : D → D → R Bool} {g : PyData → PyData → Bool} (hf : ∀ x y b, f x y = .ok b → x.py.plain = true ∧ y.py.plain = true ∧ PySem.W.alike x.py y.py = true ∧ x.py ≠ .none ∧ min x.py.depth y.py.depth ≤ 100 ∧ b = g x.py y.py) (hn : ∀ x y e, f x y ≠ .ex e)
    (hx : Out X.K B O0 H0 H O v x) (hy : Out X.K B O0 H0 H O w y) : EvG X.K X.mg O E H (cOrd f x y) (ORel X.K B O0 H O) (fun Q => rLtP X.K g v w H Q) := by
  unfold cOrd
  cases q : f x.1 y.1 with
  | no => trivial
  | ex e => exact absurd q (hn _ _ _)
  | ok b =>
    obtain ⟨c1, c2, c3, c4, c5, rfl⟩ := hf _ _ _ q
    exact fun Q hQ => ⟨_, _, hx.dp c1, hy.dp c2, c3, c4, c5, hQ _ _ (Same.refl _) (show Rep _ _ _ _ from .bl _)⟩
theorem ltD_nx {x y : D} {e : Exn} : ltD x y ≠ .ex e := by
  unfold ltD
  split
  · exact fun z => nomatch z
  · split <;> exact fun z => nomatch z
abbrev HF (X : Cx) (E : XK) (f : DV → DV → R DV) (r : R2) : Prop := ∀ (B : Hp) (O0 : Own) (H0 H : Hp) (O : Own) (x y : DV) (v w : V), Same H0 H → (∀ a, O a → H a ≠ none) → Out X.K B O0 H0 H O v x → Out X.K B O0 H0 H O w y → EvG X.K X.mg O E H (f x y) (ORel X.K B O0 H O) (fun Q => r v w H Q)
theorem hf_lt : HF X E (cOrd oLt) (rLtP X.K PySem.W.dataLt) := fun _ _ _ _ _ _ _ _ _ _ _ hx hy => ev_ord (fun x y b h => by
  obtain ⟨c1, c2, c3, c4, c5, c6, c7, c8⟩ := ltD_ok h
  exact ⟨c1, c2, c3, c5, c7, c8⟩) (fun _ _ _ => ltD_nx) hx hy
theorem hf_gt : HF X E (cOrd oGt) (rLtP X.K fun d e => PySem.W.dataLt e d) := fun _ _ _ _ _ _ _ _ _ _ _ hx hy => ev_ord (fun x y b h => by
  obtain ⟨c1, c2, c3, c4, c5, c6, c7, c8⟩ := ltD_ok h
  exact ⟨c2, c1, c4, c6, by omega, c8⟩) (fun _ _ _ => ltD_nx) hx hy
theorem hf_le : HF X E (cOrd oLe) (rLtP X.K fun d e => !PySem.W.dataLt e d) := fun _ _ _ _ _ _ _ _ _ _ _ hx hy => ev_ord (fun x y b h => by
  unfold oLe at h
  cases q : ltD y x with
  | no => rw [q] at h; cases h
  | ex e => rw [q] at h; cases h
  | ok b' =>
    rw [q] at h
    cases h
    obtain ⟨c1, c2, c3, c4, c5, c6, c7, c8⟩ := ltD_ok q
    exact ⟨c2, c1, c4, c6, by omega, by rw [c8]⟩) (fun x y e z => by
  unfold oLe at z
  cases q : ltD y x with
  | no => rw [q] at z; cases z
  | ex e => exact ltD_nx q
  | ok b' => rw [q] at z; cases z) hx hy
theorem hf_ge : HF X E (cOrd oGe) (rLtP X.K fun d e => !PySem.W.dataLt d e) := fun _ _ _ _ _ _ _ _ _ _ _ hx hy => ev_ord (fun x y b h => by
  unfold oGe at h
  cases q : ltD x y with
  | no => rw [q] at h; cases h
  | ex e => rw [q] at h; cases h
  | ok b' =>
    rw [q] at h
    cases h
    obtain ⟨c1, c2, c3, c4, c5, c6, c7, c8⟩ := ltD_ok q
    exact ⟨c1, c2, c3, c5, c7, by rw [c8]⟩) (fun x y e z => by
  unfold oGe at z
  cases q : ltD x y with
  | no => rw [q] at z; cases z
  | ex e => exact ltD_nx q
  | ok b' => rw [q] at z; cases z) hx hy
theorem hf_eq (g : Bool → Bool) : HF X E (cEq g) (rEqP X.K g) := fun _ _ _ _ _ _ _ _ _ _ _ hx hy => ev_eq g hx hy

/-! ### in -/
def keyD : D → Option Key
  | .int i => some (.inl i)
  | .str s => some (.inr s)
  | _ => none
def keysD : D → Option (List Key)
  | .tup xs => xs.mapM keyD
  | _ => none
def lookK {κ : Type} [DecidableEq κ] (kvs : List (κ × D)) (k : κ) : Option D := (kvs.find? fun kv => decide (kv.1 = k)).map (·.2)
def isSign (s : Str) : Option Nat := match s with | ⟨⟨[c]⟩⟩ => some c | _ => none
def inD (x y : DV) : R Bool := match y.1 with
  | .lst ys => if x.1.py.plain = true ∧ PyData.plainAll (D.pyL ys) = true ∧ x.1.py.depth ≤ 100 then .ok (ys.any fun y => PyData.eqv y.py x.1.py) else .no
  | .tup ys => if x.1.py.plain = true ∧ PyData.plainAll (D.pyL ys) = true ∧ x.1.py.depth ≤ 100 then .ok (ys.any fun y => PyData.eqv y.py x.1.py) else .no
  | .str z => (match x.1 with
    | .str s => (match isSign s with
      | some c => .ok (decide (c ∈ z.cps.toList))
      | none => .ok (!(Builtin.Str.occurrences z s 0 z.length 1).isEmpty))
    | _ => .no)
  | .dk kvs => (match keyD x.1 with | some k => .ok (lookK kvs k).isSome | none => .no)
  | .dt kvs => (match x.2, keysD x.1 with | .fz, some k => .ok (lookK kvs k).isSome | _, _ => .no)
  | _ => .no
def cIn (g : Bool → Bool) (x y : DV) : R DV := (inD x y).bind fun b => .ok (.bl (g b), .fz)
def rInS (K : PySem.W.Frag) (g : Bool → Bool) : R2 := fun x y H Q => ∃ d ds, Dp K H x d ∧ (Dp K H y (.list ds) ∨ Dp K H y (.tuple ds)) ∧ d.plain = true ∧ PyData.plainAll ds = true ∧ d.depth ≤ 100 ∧ Q (.bl (g (ds.any fun y => PyData.eqv y d))) H
def rInD (g : Bool → Bool) : R2 := fun x y H Q => ∃ a o, y = .ref a ∧ DGet H a x o ∧ Q (.bl (g o.isSome)) H
def rInT (g : Bool → Bool) : R2 := fun x y H Q => ∃ i j, x = .str i ∧ y = .str j ∧ Q (.bl (g (!(Builtin.Str.occurrences j i 0 j.length 1).isEmpty))) H
def rInC (g : Bool → Bool) : R2 := fun x y H Q => ∃ (c : Nat) (z : Str), x = .str ⟨#[c]⟩ ∧ y = .str z ∧ Q (.bl (g (decide (c ∈ z.cps.toList)))) H
def rInA (K : PySem.W.Frag) (g : Bool → Bool) : R2 := fun x y H Q => rInS K g x y H Q ∨ rInD g x y H Q ∨ rInT g x y H Q ∨ rInC g x y H Q
theorem op_inS (hr : Room k X.A) : OpR X (compareOp .In) (rInS X.K id) := by
  intro pins s σ H x y v u Q I rx ry h
  obtain ⟨d, ds, hd, he, sd, se, hz, q⟩ := h
  obtain ⟨as, r1⟩ := Dp.reads I d x v hd rx
  have hu := hr.un
  rcases he with he | he
  · obtain ⟨bs, r2⟩ := Dp.reads I _ y u he ry
    exact PySem.SeqAt.in_list_data r2 r1 se sd (by omega) ⟨.bl _, H, I, rfl, q⟩
  · obtain ⟨bs, r2⟩ := Dp.reads I _ y u he ry
    exact PySem.SeqAt.in_tuple_data r2 r1 se sd (by omega) ⟨.bl _, H, I, rfl, q⟩
theorem op_notInS (hr : Room k X.A) : OpR X (compareOp .NotIn) (rInS X.K (!·)) := by
  intro pins s σ H x y v u Q I rx ry h
  obtain ⟨d, ds, hd, he, sd, se, hz, q⟩ := h
  obtain ⟨as, r1⟩ := Dp.reads I d x v hd rx
  have hu := hr.un
  rcases he with he | he
  · obtain ⟨bs, r2⟩ := Dp.reads I _ y u he ry
    exact PySem.SeqAt.notIn_list_data r2 r1 se sd (by omega) ⟨.bl _, H, I, rfl, q⟩
  · obtain ⟨bs, r2⟩ := Dp.reads I _ y u he ry
    exact PySem.SeqAt.notIn_tuple_data r2 r1 se sd (by omega) ⟨.bl _, H, I, rfl, q⟩
theorem op_inD (hr : Room k X.A) : OpR X (compareOp .In) (rInD id) := by
  intro pins s σ H x y v u Q I rx ry h
  obtain ⟨a, o, rfl, g, q⟩ := h
  cases ry
  exact d_in (hu_of hr) I g rx fun s' I' => ⟨.bl _, H, I', rfl, q⟩
theorem op_notInD (hr : Room k X.A) : OpR X (compareOp .NotIn) (rInD (!·)) := by
  intro pins s σ H x y v u Q I rx ry h
  obtain ⟨a, o, rfl, g, q⟩ := h
  cases ry
  exact d_notIn (hu_of hr) I g rx fun s' I' => ⟨.bl _, H, I', rfl, q⟩
theorem op_inA (hr : Room k X.A) : OpR X (compareOp .In) (rInA X.K id) := OpR.or (op_inS hr) (OpR.or (op_inD hr) (OpR.or op_in_str op_in_sign))
theorem op_notInA (hr : Room k X.A) : OpR X (compareOp .NotIn) (rInA X.K (!·)) := OpR.or (op_notInS hr) (OpR.or (op_notInD hr) (OpR.or op_notIn_str op_notIn_sign))
theorem look_rep {K : PySem.W.Frag} {H : Hp} (k : Key) : ∀ {vs : List (Key × V)} {ds : List (Key × D)}, RepK K H vs ds → (valV vs k = none ∧ lookK ds k = none) ∨ ∃ v d, valV vs k = some v ∧ lookK ds k = some d ∧ Rep K H v d
  | _, _, .nil => .inl ⟨rfl, rfl⟩
  | _, _, .cons (k := k') (v := v) (vs := vs) (d := d) (ds := ds) a b => by
    by_cases e : k' = k
    · refine .inr ⟨v, d, ?_, ?_, a⟩
      · simp [valV, e]
      · simp [lookK, e]
    · have h1 : valV ((k', v) :: vs) k = valV vs k := by simp [valV, e]
      have h2 : lookK ((k', d) :: ds) k = lookK ds k := by simp [lookK, e]
      rw [h1, h2]
      exact look_rep k b
theorem look_repT {K : PySem.W.Frag} {H : Hp} (k : List Key) : ∀ {vs : List (List Key × V)} {ds : List (List Key × D)}, RepT K H vs ds → (valV vs k = none ∧ lookK ds k = none) ∨ ∃ v d, valV vs k = some v ∧ lookK ds k = some d ∧ Rep K H v d
  | _, _, .nil => .inl ⟨rfl, rfl⟩
  | _, _, .cons (k := k') (v := v) (vs := vs) (d := d) (ds := ds) a b => by
    by_cases e : k' = k
    · refine .inr ⟨v, d, ?_, ?_, a⟩
      · simp [valV, e]
      · simp [lookK, e]
    · have h1 : valV ((k', v) :: vs) k = valV vs k := by simp [valV, e]
      have h2 : lookK ((k', d) :: ds) k = lookK ds k := by simp [lookK, e]
      rw [h1, h2]
      exact look_repT k b
theorem keyD_out {kk : Kd} {d : D} {key : Key} {K : PySem.W.Frag} (h : keyD d = some key) (hx : Out K B O0 H0 H O v (d, kk)) : v = kV key := by
  cases d <;> first | (cases h; done) | skip
  · cases h
    exact hx.int
  · cases h
    exact hx.str
theorem keys_rep {K : PySem.W.Frag} {H : Hp} : ∀ {vs : List V} {ds : List D} {ks : List Key}, RepL K H vs ds → ds.mapM keyD = some ks → vs = ks.map kV
  | _, _, ks, .nil, e => by
    simp at e
    subst e
    rfl
  | _, _, ks, .cons (d := d) (ds := ds) a b, e => by
    rw [List.mapM_cons] at e
    cases q : keyD d with
    | none => rw [q] at e; cases e
    | some k =>
      rw [q] at e
      cases q2 : ds.mapM keyD with
      | none => rw [q2] at e; cases e
      | some r =>
        rw [q2] at e
        cases e
        rw [keys_rep b q2]
        cases d <;> first | (cases q; done) | skip
        · cases q
          cases a
          rfl
        · cases q
          cases a
          rfl
theorem keysD_out {d : D} {ks : List Key} {K : PySem.W.Frag} (h : keysD d = some ks) (hx : Out K B O0 H0 H O v (d, .fz)) : ∃ b, v = .ref b ∧ H b = some (.tup (ks.map kV)) := by
  cases d <;> first | (cases h; done) | skip
  cases (show Rep _ _ _ _ from hx) with
  | tup h1 h2 =>
    rw [keys_rep h2 h] at h1
    exact ⟨_, rfl, off_sub _ _ h1⟩
theorem dget_k {K : PySem.W.Frag} {vs : List (Key × V)} {a : Addr} {key : Key} {y : V} (h : H a = some (.dK vs)) (e : y = kV key) : DGet H a y (valV vs key) := .inl ⟨vs, key, .inl h, e, rfl⟩
theorem dget_t {K : PySem.W.Frag} {vs : List (List Key × V)} {a b : Addr} {key : List Key} {y : V} (h : H a = some (.dT vs)) (e : y = .ref b) (eb : H b = some (.tup (key.map kV))) : DGet H a y (valV vs key) := .inr ⟨vs, key, b, .inl h, e, eb, rfl⟩
theorem any_py (ys : List D) (d : PyData) : ((D.pyL ys).any fun y => PyData.eqv y d) = ys.any fun y => PyData.eqv y.py d := by
  rw [D.pyL_map, List.any_map]
  rfl
theorem hf_in (g : Bool → Bool) : HF X E (cIn g) (rInA X.K g) := by
  intro B O0 H0 H O x y v w s dom hx hy
  unfold cIn
  obtain ⟨d2, k2⟩ := y
  cases d2 <;> first | exact True.intro | skip
  · -- str
    rename_i z
    cases hy.str
    obtain ⟨d, kk⟩ := x
    cases d <;> first | exact True.intro | skip
    rename_i s'
    cases hx.str
    unfold inD
    dsimp only
    cases q : isSign s' with
    | none => exact fun Q hQ => .inr (.inr (.inl ⟨_, _, rfl, rfl, hQ _ _ (Same.refl _) (show Rep _ _ _ _ from .bl _)⟩))
    | some c =>
      have e : s' = ⟨#[c]⟩ := by
        unfold isSign at q
        split at q
        · cases q
          rfl
        · cases q
      exact fun Q hQ => .inr (.inr (.inr ⟨c, z, by rw [e], rfl, hQ _ _ (Same.refl _) (show Rep _ _ _ _ from .bl _)⟩))
  · rename_i ys
    unfold inD
    dsimp only
    split
    · rename_i c
      refine fun Q hQ => .inl ⟨_, D.pyL ys, hx.dp c.1, .inl (hy.dp (by simpa only [D.py, PyData.plain] using c.2.1)), c.1, c.2.1, c.2.2, ?_⟩
      rw [any_py]
      exact hQ _ _ (Same.refl _) (show Rep _ _ _ _ from .bl _)
    · trivial
  · rename_i ys
    unfold inD
    dsimp only
    split
    · rename_i c
      refine fun Q hQ => .inl ⟨_, D.pyL ys, hx.dp c.1, .inr (hy.dp (by simpa only [D.py, PyData.plain] using c.2.1)), c.1, c.2.1, c.2.2, ?_⟩
      rw [any_py]
      exact hQ _ _ (Same.refl _) (show Rep _ _ _ _ from .bl _)
    · trivial
  · rename_i kvs
    obtain ⟨a, vs, rfl, h1, h2⟩ := hy.dk
    unfold inD
    dsimp only
    cases q : keyD x.1 with
    | none => trivial
    | some key =>
      obtain ⟨d, kk⟩ := x
      have e := keyD_out q hx
      refine fun Q hQ => .inr (.inl ⟨a, valV vs key, rfl, dget_k (K := X.K) h1 e, ?_⟩)
      have z : (valV vs key).isSome = (lookK kvs key).isSome := by
        rcases look_rep key h2 with ⟨z1, z2⟩ | ⟨_, _, z1, z2, _⟩
        · rw [z1, z2]; rfl
        · rw [z1, z2]; rfl
      rw [z]
      exact hQ _ _ (Same.refl _) (show Rep _ _ _ _ from .bl _)
  · rename_i kvs
    obtain ⟨a, vs, rfl, h1, h2⟩ := hy.dt
    obtain ⟨d, kk⟩ := x
    unfold inD
    dsimp only
    cases kk <;> first | exact True.intro | skip
    cases q : keysD d with
    | none => trivial
    | some key =>
      obtain ⟨b, e, eb⟩ := keysD_out q hx
      refine fun Q hQ => .inr (.inl ⟨a, valV vs key, rfl, dget_t (K := X.K) h1 e eb, ?_⟩)
      have z : (valV vs key).isSome = (lookK kvs key).isSome := by
        rcases look_repT key h2 with ⟨z1, z2⟩ | ⟨_, _, z1, z2, _⟩
        · rw [z1, z2]; rfl
        · rw [z1, z2]; rfl
      rw [z]
      exact hQ _ _ (Same.refl _) (show Rep _ _ _ _ from .bl _)
end
end FK
namespace FK
open PySem PySem.Spec L2
open PyProof.Rows hiding St

/-! ### truth -/
def truD (x : DV) : R Bool := match x.1 with
  | .non => .ok false
  | .bl b => .ok b
  | .int i => .ok (i != 0)
  | .str s => if s.length ≤ sizeLine then .ok ((s.length : Int) != 0) else .no
  | .lst xs => .ok !xs.isEmpty
  | .tup xs => .ok !xs.isEmpty
  | _ => .no
theorem truD_nx {x : DV} {e : Exn} : truD x ≠ .ex e := by
  unfold truD
  split <;> first | (intro z; cases z; done) | (split <;> intro z <;> cases z)
theorem RepL.empty {K : PySem.W.Frag} {H : Hp} {vs : List V} {ds : List D} (h : RepL K H vs ds) : vs.isEmpty = ds.isEmpty := by cases h <;> rfl
theorem tru_out {K : PySem.W.Frag} {B H0 H : Hp} {O0 O : Own} {x : DV} {v : V} {b : Bool} (h : truD x = .ok b) (hx : Out K B O0 H0 H O v x) : TruV K v H b := by
  obtain ⟨d, k⟩ := x
  cases d <;> first | (cases h; done) | skip
  · cases h
    cases hx.non
    rfl
  · cases h
    cases hx.bl
    rfl
  · cases h
    cases hx.int
    rfl
  · cases hx.str
    unfold truD at h
    dsimp only at h
    split at h
    · cases h
      exact ⟨by assumption, rfl⟩
    · cases h
  · cases h
    obtain ⟨a, vs, rfl, h1, h2⟩ := hx.lst
    exact .inl ⟨vs, h1, by rw [h2.empty]⟩
  · cases h
    obtain ⟨a, vs, rfl, h1, h2⟩ := hx.tup
    exact .inr (.inl ⟨vs, h1, by rw [h2.empty]⟩)

section
variable {X : Cx} {E : XK} {a b c : Expr} {rest : List Expr} {pa pb pc : Env → R DV} {pt pu : Env → R Bool} {pos : Pos} {k : Nat}
abbrev dTru (pa : Env → R DV) : Env → R Bool := fun ρ => (pa ρ).bind truD
theorem dt_truth (ha : DE X E a pa) (he : ∀ whole, isTrue a X.env whole = (do let v ← whole; standAt a.pos; holding [v] (truthy v)) := by intro _; rfl) : DT X E a (dTru pa) := by
  obtain ⟨t, h1, h2⟩ := ha.ex
  refine ⟨_, pt_truth h1 he, fun B F O0 H O σ ρ R => ?_⟩
  refine EvG.bind (T1 := fun v H1 Q => ∃ k, TruV X.K v H1 k ∧ Q k H1) (h2 B F O0 H O σ ρ R) fun x v H1 s1 r1 => ?_
  cases q : truD x with
  | no => trivial
  | ex e => exact absurd q truD_nx
  | ok b => exact fun Q hQ => ⟨b, tru_out q r1, hQ _ _ (Same.refl _) rfl⟩
def boolD (x : DV) : R Bool := match x with
  | (.bl b, .fz) => .ok b
  | _ => .no
/-- a comparison as a test -/
abbrev dCmp (f : DV → DV → R DV) (pa pb : Env → R DV) : Env → R Bool := fun ρ => (pa ρ).bind fun x => (pb ρ).bind fun y => (f x y).bind boolD
theorem ev_bool {B H : Hp} {O0 O : Own} {r : R DV} {T : VK → Prop} (h : EvG X.K X.mg O E H r (ORel X.K B O0 H O) T) : EvG X.K X.mg O E H (r.bind boolD) (fun b c _ => c = b) (fun Q => T fun x H' => ∃ k, x = .bl k ∧ Q k H') := by
  refine EvG.bind (T1 := fun x H' Q => ∃ k, x = .bl k ∧ Q k H') h fun x v H1 s1 r1 => ?_
  obtain ⟨d, k⟩ := x
  cases d <;> first | exact True.intro | skip
  cases k <;> first | exact True.intro | skip
  rename_i b
  cases (show Rep _ _ _ _ from r1)
  exact fun Q hQ => ⟨b, rfl, hQ _ _ (Same.refl _) rfl⟩
theorem dt_cmpG {op : CmpOp} {r : R2} {f : DV → DV → R DV} (ho : OpR X (compareOp op) r) (hf : HF X E f r) (ha : DE X E a pa) (hb : DE X E b pb) (hm : behindInMarks op b = false) : DT X E (.Compare a [op] [b] pos) (dCmp f pa pb) := by
  obtain ⟨t, h1, h2⟩ := ha.ex
  obtain ⟨u, g1, g2⟩ := hb.ex
  refine ⟨_, pt_cmpR ho h1 g1 hm, fun B F O0 H O σ ρ R => ?_⟩
  refine EvG.bind (T1 := fun v H1 Q => u σ H1 fun w H2 => r v w H2 fun x H' => ∃ k, x = .bl k ∧ Q k H') (h2 B F O0 H O σ ρ R) fun x v H1 s1 r1 => ?_
  refine EvG.bind (T1 := fun w H2 Q => r v w H2 fun x H' => ∃ k, x = .bl k ∧ Q k H') (g2 B F O0 H1 O σ ρ (R.more s1)) fun y w H2 s2 r2 => ?_
  exact ev_bool (hf B O0 H H2 O x y v w (s1.trans s2) (R.more (s1.trans s2)).dom (r1.mono (Same.refl _) s2) (r2.mono s1 (Same.refl _)))
theorem de_cmpG {op : CmpOp} {r : R2} {f : DV → DV → R DV} (ho : OpR X (compareOp op) r) (hf : HF X E f r) (ha : DE X E a pa) (hb : DE X E b pb) (hm : behindInMarks op b = false) : DE X E (.Compare a [op] [b] pos) (dBin f pa pb) := de_cmp ho hf ha hb hm
/-- the operators of comparison, told by name -/
structure CO (X : Cx) (E : XK) (op : CmpOp) (f : DV → DV → R DV) : Prop where
  ex : ∃ r, OpR X (compareOp op) r ∧ HF X E f r
theorem co_lt (hr : Room k X.A) : CO X E .Lt (cOrd oLt) := ⟨_, op_ltP hr, hf_lt⟩
theorem co_gt (hr : Room k X.A) : CO X E .Gt (cOrd oGt) := ⟨_, op_gtP hr, hf_gt⟩
theorem co_le (hr : Room k X.A) : CO X E .LtE (cOrd oLe) := ⟨_, op_leP hr, hf_le⟩
theorem co_ge (hr : Room k X.A) : CO X E .GtE (cOrd oGe) := ⟨_, op_geP hr, hf_ge⟩
theorem co_eq (hr : Room k X.A) : CO X E .Eq (cEq id) := ⟨_, op_eqP hr, hf_eq id⟩
theorem co_ne (hr : Room k X.A) : CO X E .NotEq (cEq (!·)) := ⟨_, op_neP hr, hf_eq (!·)⟩
theorem co_in (hr : Room k X.A) : CO X E .In (cIn id) := ⟨_, op_inA hr, hf_in id⟩
theorem co_ni (hr : Room k X.A) : CO X E .NotIn (cIn (!·)) := ⟨_, op_notInA hr, hf_in (!·)⟩
/-- is None -/
def isNoneD (g : Bool → Bool) (x y : DV) : R DV := match y with
  | (.non, .fz) => .ok (.bl (g x.1.isNon), .fz)
  | _ => .no
theorem non_out {B H0 H : Hp} {O0 O : Own} {x : DV} {v : V} (hx : Out X.K B O0 H0 H O v x) : decide (v = .non) = x.1.isNon := by
  obtain ⟨d, kk⟩ := x
  cases d
  case non => cases hx.non; rfl
  case bl => cases hx.bl; rfl
  case int => cases hx.int; rfl
  case str => cases hx.str; rfl
  case lst => obtain ⟨a, vs, rfl, _⟩ := hx.lst; rfl
  case tup => obtain ⟨a, vs, rfl, _⟩ := hx.tup; rfl
  case dk => obtain ⟨a, vs, rfl, _⟩ := hx.dk; rfl
  case dt => obtain ⟨a, vs, rfl, _⟩ := hx.dt; rfl
theorem co_is : CO X E .Is (isNoneD id) := ⟨_, op_isN, fun B O0 H0 H O x y v w s dom hx hy => by
  obtain ⟨d, kk⟩ := y
  cases d <;> first | exact True.intro | skip
  cases kk <;> first | exact True.intro | skip
  cases (show Rep _ _ _ _ from hy)
  refine fun Q hQ => ⟨rfl, ?_⟩
  rw [non_out hx]
  exact hQ _ _ (Same.refl _) (show Rep _ _ _ _ from .bl _)⟩
theorem co_isn : CO X E .IsNot (isNoneD (!·)) := ⟨_, op_notN, fun B O0 H0 H O x y v w s dom hx hy => by
  obtain ⟨d, kk⟩ := y
  cases d <;> first | exact True.intro | skip
  cases kk <;> first | exact True.intro | skip
  cases (show Rep _ _ _ _ from hy)
  refine fun Q hQ => ⟨rfl, ?_⟩
  rw [non_out hx]
  exact hQ _ _ (Same.refl _) (show Rep _ _ _ _ from .bl _)⟩
theorem dt_c {op : CmpOp} {f : DV → DV → R DV} (o : CO X E op f) (ha : DE X E a pa) (hb : DE X E b pb) (hm : behindInMarks op b = false := by first | exact nomark _ | rfl) : DT X E (.Compare a [op] [b] pos) (dCmp f pa pb) := by
  obtain ⟨r, h1, h2⟩ := o.ex
  exact dt_cmpG h1 h2 ha hb hm
theorem de_c {op : CmpOp} {f : DV → DV → R DV} (o : CO X E op f) (ha : DE X E a pa) (hb : DE X E b pb) (hm : behindInMarks op b = false := by first | exact nomark _ | rfl) : DE X E (.Compare a [op] [b] pos) (dBin f pa pb) := by
  obtain ⟨r, h1, h2⟩ := o.ex
  exact de_cmpG h1 h2 ha hb hm
/-- a < b < c -/
abbrev dChn (f g : DV → DV → R DV) (pa pb pc : Env → R DV) : Env → R DV := fun ρ => (pa ρ).bind fun x => (pb ρ).bind fun y => (f x y).bind fun z => (boolD z).bind fun q => if q then (pc ρ).bind fun w => g y w else .ok (.bl false, .fz)
theorem boolD_nx {x : DV} {e : Exn} : boolD x ≠ .ex e := by
  unfold boolD
  split <;> exact fun z => nomatch z
theorem boolD_ok {x : DV} {q : Bool} (h : boolD x = .ok q) : x = (.bl q, .fz) := by
  unfold boolD at h
  split at h
  · cases h; rfl
  · cases h
theorem de_chain {op op' : CmpOp} {f g : DV → DV → R DV} (o : CO X E op f) (o' : CO X E op' g) (ha : DE X E a pa) (hb : DE X E b pb) (hc : DE X E c pc) (hm : lastMarks [op, op'] [b, c] = false := by with_unfolding_all rfl) :
    DE X E (.Compare a [op, op'] [b, c] pos) (dChn f g pa pb pc) := by
  obtain ⟨r, h1, h2⟩ := o.ex
  obtain ⟨r', h1', h2'⟩ := o'.ex
  obtain ⟨ta, a1, a2⟩ := ha.ex
  obtain ⟨tb, b1, b2⟩ := hb.ex
  obtain ⟨tc, c1, c2⟩ := hc.ex
  refine ⟨_, pe_chain h1 h1' a1 b1 c1 hm, fun B F O0 H O σ ρ R => ?_⟩
  refine EvG.bind (T1 := fun v H1 Q => tb σ H1 fun w H2 => r v w H2 fun z H3 => ∃ k, z = .bl k ∧ (if k = true then tc σ H3 fun w' H4 => r' w w' H4 Q else Q (.bl false) H3)) (a2 B F O0 H O σ ρ R) fun x v H1 s1 r1 => ?_
  refine EvG.bind (T1 := fun w H2 Q => r v w H2 fun z H3 => ∃ k, z = .bl k ∧ (if k = true then tc σ H3 fun w' H4 => r' w w' H4 Q else Q (.bl false) H3)) (b2 B F O0 H1 O σ ρ (R.more s1)) fun y w H2 s2 r2 => ?_
  have s12 := s1.trans s2
  refine EvG.bind (T1 := fun z H3 Q => ∃ k, z = .bl k ∧ (if k = true then tc σ H3 fun w' H4 => r' w w' H4 Q else Q (.bl false) H3)) (h2 B O0 H H2 O x y v w s12 (R.more s12).dom (r1.mono (Same.refl _) s2) (r2.mono s1 (Same.refl _))) fun z u H3 s3 r3 => ?_
  cases q : boolD z with
  | no => trivial
  | ex e => exact absurd q boolD_nx
  | ok k =>
    cases boolD_ok q
    cases (show Rep _ _ _ _ from r3)
    have s13 := s12.trans s3
    cases k with
    | false => exact fun Q hQ => ⟨false, rfl, hQ _ _ (Same.refl _) (show Rep _ _ _ _ from .bl _)⟩
    | true =>
      have h : EvG X.K X.mg O E H3 ((pc ρ).bind fun w => g y w) (ORel X.K B O0 H O) (fun Q => tc σ H3 fun w' H4 => r' w w' H4 Q) := by
        refine EvG.bind (T1 := fun w' H4 Q => r' w w' H4 Q) (c2 B F O0 H3 O σ ρ (R.more s13)) fun w2 v2 H4 s4 r4 => ?_
        exact (h2' B O0 H H4 O y w2 w v2 (s13.trans s4) (R.more (s13.trans s4)).dom (r2.mono s1 (s3.trans s4)) (r4.mono s13 (Same.refl _))).imp fun z u H' s' o => Out.mono o (s13.trans s4) (Same.refl _)
      revert h
      show EvG _ _ _ _ _ ((pc ρ).bind fun w => g y w) _ _ → EvG _ _ _ _ _ ((pc ρ).bind fun w => g y w) _ _
      cases (pc ρ).bind fun w => g y w with
      | no => exact fun _ => True.intro
      | ex e => exact fun h w Q => ⟨true, rfl, h w Q⟩
      | ok x => exact fun h Q hQ => ⟨true, rfl, h Q hQ⟩
/-- .. as a test -/
theorem dt_chain {op op' : CmpOp} {f g : DV → DV → R DV} (o : CO X E op f) (o' : CO X E op' g) (ha : DE X E a pa) (hb : DE X E b pb) (hc : DE X E c pc) (hm : lastMarks [op, op'] [b, c] = false := by with_unfolding_all rfl) :
    DT X E (.Compare a [op, op'] [b, c] pos) (fun ρ => (dChn f g pa pb pc ρ).bind boolD) := by
  obtain ⟨r, h1, h2⟩ := o.ex
  obtain ⟨r', h1', h2'⟩ := o'.ex
  obtain ⟨ta, a1, a2⟩ := ha.ex
  obtain ⟨tb, b1, b2⟩ := hb.ex
  obtain ⟨tc, c1, c2⟩ := hc.ex
  refine ⟨_, pt_chain h1 h1' a1 b1 c1 hm, fun B F O0 H O σ ρ R => ?_⟩
  refine ev_bool (B := B) (O0 := O0) (O := O) (T := tChain r r' ta tb tc σ H) ?_
  refine EvG.bind (T1 := fun v H1 Q => tb σ H1 fun w H2 => r v w H2 fun z H3 => ∃ k, z = .bl k ∧ (if k = true then tc σ H3 fun w' H4 => r' w w' H4 Q else Q (.bl false) H3)) (a2 B F O0 H O σ ρ R) fun x v H1 s1 r1 => ?_
  refine EvG.bind (T1 := fun w H2 Q => r v w H2 fun z H3 => ∃ k, z = .bl k ∧ (if k = true then tc σ H3 fun w' H4 => r' w w' H4 Q else Q (.bl false) H3)) (b2 B F O0 H1 O σ ρ (R.more s1)) fun y w H2 s2 r2 => ?_
  have s12 := s1.trans s2
  refine EvG.bind (T1 := fun z H3 Q => ∃ k, z = .bl k ∧ (if k = true then tc σ H3 fun w' H4 => r' w w' H4 Q else Q (.bl false) H3)) (h2 B O0 H H2 O x y v w s12 (R.more s12).dom (r1.mono (Same.refl _) s2) (r2.mono s1 (Same.refl _))) fun z u H3 s3 r3 => ?_
  cases q : boolD z with
  | no => trivial
  | ex e => exact absurd q boolD_nx
  | ok k =>
    cases boolD_ok q
    cases (show Rep _ _ _ _ from r3)
    have s13 := s12.trans s3
    cases k with
    | false => exact fun Q hQ => ⟨false, rfl, hQ _ _ (Same.refl _) (show Rep _ _ _ _ from .bl _)⟩
    | true =>
      have h : EvG X.K X.mg O E H3 ((pc ρ).bind fun w => g y w) (ORel X.K B O0 H O) (fun Q => tc σ H3 fun w' H4 => r' w w' H4 Q) := by
        refine EvG.bind (T1 := fun w' H4 Q => r' w w' H4 Q) (c2 B F O0 H3 O σ ρ (R.more s13)) fun w2 v2 H4 s4 r4 => ?_
        exact (h2' B O0 H H4 O y w2 w v2 (s13.trans s4) (R.more (s13.trans s4)).dom (r2.mono s1 (s3.trans s4)) (r4.mono s13 (Same.refl _))).imp fun z u H' s' o => Out.mono o (s13.trans s4) (Same.refl _)
      revert h
      show EvG _ _ _ _ _ ((pc ρ).bind fun w => g y w) _ _ → EvG _ _ _ _ _ ((pc ρ).bind fun w => g y w) _ _
      cases (pc ρ).bind fun w => g y w with
      | no => exact fun _ => True.intro
      | ex e => exact fun h w Q => ⟨true, rfl, h w Q⟩
      | ok x => exact fun h Q hQ => ⟨true, rfl, h Q hQ⟩

/-! ### and, or, not, if -/
abbrev tAndD (p q : Env → R Bool) : Env → R Bool := fun ρ => (p ρ).bind fun b => if b then q ρ else .ok false
abbrev tOrD (p q : Env → R Bool) : Env → R Bool := fun ρ => (p ρ).bind fun b => if b then .ok true else q ρ
abbrev tNotD (p : Env → R Bool) : Env → R Bool := fun ρ => (p ρ).bind fun b => .ok !b
/-- a chain of and, or: PW -/
structure DW (X : Cx) (E : XK) (e : Expr) (p : Env → R Bool) : Prop where
  ex : ∃ t, PW X e t ∧ ∀ (B F : Hp) (O0 : Own) (H : Hp) (O : Own) (σ : L2.St) (ρ : Env), SR X.K B F O0 H O σ ρ → EvG X.K X.mg O E H (p ρ) (fun b c _ => c = b) (t σ H)
theorem DW.dt {e : Expr} {p : Env → R Bool} (h : DW X E e p) : DT X E e p := let ⟨t, h1, h2⟩ := h.ex; ⟨t, h1.pt, h2⟩
theorem dw_and1 (ha : DT X E a pt) : DW X E (.BoolOp .And [a] pos) pt := let ⟨t, h1, h2⟩ := ha.ex; ⟨t, pw_and1 h1, h2⟩
theorem dw_or1 (ha : DT X E a pt) : DW X E (.BoolOp .Or [a] pos) pt := let ⟨t, h1, h2⟩ := ha.ex; ⟨t, pw_or1 h1, h2⟩
theorem dw_and (ha : DT X E a pt) (hb : DW X E (.BoolOp .And (b :: rest) pos) pu) : DW X E (.BoolOp .And (a :: b :: rest) pos) (tAndD pt pu) := by
  obtain ⟨t, h1, h2⟩ := ha.ex
  obtain ⟨u, g1, g2⟩ := hb.ex
  refine ⟨_, pw_and h1 g1, fun B F O0 H O σ ρ R => ?_⟩
  refine EvG.bind (T1 := fun c H1 Q => if c = true then u σ H1 Q else Q false H1) (h2 B F O0 H O σ ρ R) fun x v H1 s1 r1 => ?_
  cases r1
  cases x with
  | true => exact g2 B F O0 H1 O σ ρ (R.more s1)
  | false => exact EvG.ret rfl
theorem dw_or (ha : DT X E a pt) (hb : DW X E (.BoolOp .Or (b :: rest) pos) pu) : DW X E (.BoolOp .Or (a :: b :: rest) pos) (tOrD pt pu) := by
  obtain ⟨t, h1, h2⟩ := ha.ex
  obtain ⟨u, g1, g2⟩ := hb.ex
  refine ⟨_, pw_or h1 g1, fun B F O0 H O σ ρ R => ?_⟩
  refine EvG.bind (T1 := fun c H1 Q => if c = true then Q true H1 else u σ H1 Q) (h2 B F O0 H O σ ρ R) fun x v H1 s1 r1 => ?_
  cases r1
  cases x with
  | false => exact g2 B F O0 H1 O σ ρ (R.more s1)
  | true => exact EvG.ret rfl
theorem dt_not (ha : DT X E a pt) : DT X E (.UnaryOp .Not a pos) (tNotD pt) := by
  obtain ⟨t, h1, h2⟩ := ha.ex
  refine ⟨_, pt_not h1, fun B F O0 H O σ ρ R => ?_⟩
  refine EvG.bind (T1 := fun c H1 Q => Q (!c) H1) (h2 B F O0 H O σ ρ R) fun x v H1 s1 r1 => ?_
  cases r1
  exact EvG.ret rfl
/-- .. as values -/
abbrev dAnd (pa pb : Env → R DV) : Env → R DV := fun ρ => (pa ρ).bind fun x => (truD x).bind fun b => if b then pb ρ else .ok x
abbrev dOr (pa pb : Env → R DV) : Env → R DV := fun ρ => (pa ρ).bind fun x => (truD x).bind fun b => if b then .ok x else pb ρ
abbrev dNot (pa : Env → R DV) : Env → R DV := fun ρ => (pa ρ).bind fun x => (truD x).bind fun b => .ok (.bl !b, .fz)
theorem de_one {op} (h : DE X E a pa) : DE X E (.BoolOp op [a] pos) pa := let ⟨t, h1, h2⟩ := h.ex; ⟨t, pe_one h1, h2⟩
theorem de_and (ha : DE X E a pa) (hb : DE X E (.BoolOp .And (b :: rest) pos) pb) : DE X E (.BoolOp .And (a :: b :: rest) pos) (dAnd pa pb) := by
  obtain ⟨t, h1, h2⟩ := ha.ex
  obtain ⟨u, g1, g2⟩ := hb.ex
  refine ⟨_, pe_andT h1 g1, fun B F O0 H O σ ρ R => ?_⟩
  refine EvG.bind (T1 := fun x H1 Q => ∃ k, TruV X.K x H1 k ∧ if k = true then u σ H1 Q else Q x H1) (h2 B F O0 H O σ ρ R) fun x v H1 s1 r1 => ?_
  cases q : truD x with
  | no => trivial
  | ex e => exact absurd q truD_nx
  | ok k =>
    cases k with
    | false => exact fun Q hQ => ⟨false, tru_out q r1, hQ _ _ (Same.refl _) r1⟩
    | true =>
      have h := g2 B F O0 H1 O σ ρ (R.more s1)
      show EvG _ _ _ _ _ (pb ρ) _ _
      cases z : pb ρ with
      | no => trivial
      | ex e =>
        rw [z] at h
        exact fun w Q => ⟨true, tru_out q r1, h w Q⟩
      | ok y =>
        rw [z] at h
        exact fun Q hQ => ⟨true, tru_out q r1, h Q fun v' H' s' r' => hQ v' H' s' (Out.mono r' s1 (Same.refl _))⟩
theorem de_or (ha : DE X E a pa) (hb : DE X E (.BoolOp .Or (b :: rest) pos) pb) : DE X E (.BoolOp .Or (a :: b :: rest) pos) (dOr pa pb) := by
  obtain ⟨t, h1, h2⟩ := ha.ex
  obtain ⟨u, g1, g2⟩ := hb.ex
  refine ⟨_, pe_orT h1 g1, fun B F O0 H O σ ρ R => ?_⟩
  refine EvG.bind (T1 := fun x H1 Q => ∃ k, TruV X.K x H1 k ∧ if k = true then Q x H1 else u σ H1 Q) (h2 B F O0 H O σ ρ R) fun x v H1 s1 r1 => ?_
  cases q : truD x with
  | no => trivial
  | ex e => exact absurd q truD_nx
  | ok k =>
    cases k with
    | true => exact fun Q hQ => ⟨true, tru_out q r1, hQ _ _ (Same.refl _) r1⟩
    | false =>
      have h := g2 B F O0 H1 O σ ρ (R.more s1)
      show EvG _ _ _ _ _ (pb ρ) _ _
      cases z : pb ρ with
      | no => trivial
      | ex e =>
        rw [z] at h
        exact fun w Q => ⟨false, tru_out q r1, h w Q⟩
      | ok y =>
        rw [z] at h
        exact fun Q hQ => ⟨false, tru_out q r1, h Q fun v' H' s' r' => hQ v' H' s' (Out.mono r' s1 (Same.refl _))⟩
theorem de_not (ha : DE X E a pa) : DE X E (.UnaryOp .Not a pos) (dNot pa) := by
  obtain ⟨t, h1, h2⟩ := ha.ex
  refine ⟨_, pe_notT h1, fun B F O0 H O σ ρ R => ?_⟩
  refine EvG.bind (T1 := fun x H1 Q => ∃ k, TruV X.K x H1 k ∧ Q (V.bl (!k)) H1) (h2 B F O0 H O σ ρ R) fun x v H1 s1 r1 => ?_
  cases q : truD x with
  | no => trivial
  | ex e => exact absurd q truD_nx
  | ok k => exact fun Q hQ => ⟨k, tru_out q r1, hQ _ _ (Same.refl _) (show Rep _ _ _ _ from .bl _)⟩
abbrev dIf (pt : Env → R Bool) (pa pb : Env → R DV) : Env → R DV := fun ρ => (pt ρ).bind fun b => if b then pa ρ else pb ρ
theorem de_if (hc : DT X E c pt) (ha : DE X E a pa) (hb : DE X E b pb) : DE X E (.IfExp c a b pos) (dIf pt pa pb) := by
  obtain ⟨t, h1, h2⟩ := hc.ex
  obtain ⟨ta, a1, a2⟩ := ha.ex
  obtain ⟨tb, b1, b2⟩ := hb.ex
  refine ⟨_, pe_ifExp h1 a1 b1, fun B F O0 H O σ ρ R => ?_⟩
  refine EvG.bind (T1 := fun c H1 Q => if c = true then ta σ H1 Q else tb σ H1 Q) (h2 B F O0 H O σ ρ R) fun x v H1 s1 r1 => ?_
  cases r1
  cases x with
  | true => exact (a2 B F O0 H1 O σ ρ (R.more s1)).imp fun z u H' s' o => Out.mono o s1 (Same.refl _)
  | false => exact (b2 B F O0 H1 O σ ρ (R.more s1)).imp fun z u H' s' o => Out.mono o s1 (Same.refl _)
def negD (x : DV) : R DV := match x.1 with | .int i => .ok (.int (-i), .fz) | _ => .no
theorem de_neg (ha : DE X E a pa) : DE X E (.UnaryOp .USub a pos) (fun ρ => (pa ρ).bind negD) := by
  obtain ⟨t, h1, h2⟩ := ha.ex
  refine ⟨_, pe_un un_neg h1, fun B F O0 H O σ ρ R => ?_⟩
  refine EvG.bind (T1 := fun x H1 Q => rU (fun i => V.int (-i)) x H1 Q) (h2 B F O0 H O σ ρ R) fun x v H1 s1 r1 => ?_
  obtain ⟨d, kk⟩ := x
  cases d <;> first | exact True.intro | skip
  cases Out.int r1
  exact fun Q hQ => ⟨_, rfl, hQ _ _ (Same.refl _) (show Rep _ _ _ _ from .int _)⟩
end
end FK
namespace FK
open PySem PySem.Spec L2
open PyProof.Rows hiding St

/-! ### x[i] -/
theorem IxR.dget {X : Cx} {k : Nat} (hr : Room k X.A) : IxR X (fun x y H Q => ∃ a v, x = .ref a ∧ DGet H a y (some v) ∧ Q v H) := by
  intro value slice pins s σ H x y v u Q I rx ry h hs
  obtain ⟨a, w, rfl, g, q⟩ := h
  cases rx
  exact tail_any (dict_typeIs I g) PySem.F.slot_dict_getitem.lookup (d_getItem (hu_of hr) I g ry fun w' s3 I3 rw' => ⟨w, H, I3, rw', q⟩) hs
theorem IxR.or' {X : Cx} {r r' : R2} (h : IxR X r) (h' : IxR X r') : IxR X (fun x y H Q => r x y H Q ∨ r' x y H Q) := by
  intro value slice pins s σ H x y v u Q I rx ry q hs
  rcases q with q | q
  · exact h value slice pins s σ H x y v u Q I rx ry q hs
  · exact h' value slice pins s σ H x y v u Q I rx ry q hs
def ixD (x y : DV) : R DV := match x.1 with
  | .lst xs => (match y.1 with | .int i => (match atI xs i with | some d => .ok (d, .fz) | none => .no) | _ => .no)
  | .tup xs => (match y.1 with | .int i => (match atI xs i with | some d => .ok (d, .fz) | none => .no) | _ => .no)
  | .str z => (match y.1 with | .int i => if z.length ≤ sizeLine then (match atI z.cps.toList i with | some c => .ok (.str ⟨#[c]⟩, .fz) | none => .no) else .no | _ => .no)
  | .dk kvs => (match keyD y.1 with | some k => (match lookK kvs k with | some d => .ok (d, .fz) | none => .no) | none => .no)
  | .dt kvs => (match y.2, keysD y.1 with | .fz, some k => (match lookK kvs k with | some d => .ok (d, .fz) | none => .no) | _, _ => .no)
  | _ => .no
def rIxG (K : PySem.W.Frag) : R2 := fun x y H Q => rIx K x y H Q ∨ ∃ a v, x = .ref a ∧ DGet H a y (some v) ∧ Q v H
theorem RepL.at {K : PySem.W.Frag} {H : Hp} {vs : List V} {ds : List D} {i : Int} {d : D} (h : RepL K H vs ds) (e : atI ds i = some d) : ∃ v, atI vs i = some v ∧ Rep K H v d := by
  unfold atI at e ⊢
  rw [h.length]
  cases q : ixN ds.length i with
  | none => rw [q] at e; cases e
  | some j =>
    rw [q] at e
    obtain ⟨u, h1, h2⟩ := h.get (show ds[j]? = some d from e)
    exact ⟨u, h1, h2⟩
section
variable {X : Cx} {E : XK} {e a b c : Expr} {es rest : List Expr} {p pa pb pc : Env → R DV} {pt pu : Env → R Bool} {pl : Env → R (List DV)} {pos : Pos} {k : Nat}
theorem hf_ix : HF X E ixD (rIxG X.K) := by
  intro B O0 H0 H O x y v w s dom hx hy
  obtain ⟨d, kk⟩ := x
  cases d <;> first | exact True.intro | skip
  · rename_i z
    cases hx.str
    obtain ⟨d2, k2⟩ := y
    cases d2 <;> first | exact True.intro | skip
    cases hy.int
    unfold ixD
    dsimp only
    split
    · cases q : atI z.cps.toList _ with
      | none => trivial
      | some c => exact fun Q hQ => .inl (.inr (.inr ⟨_, _, c, rfl, rfl, by assumption, q, hQ _ _ (Same.refl _) (show Rep _ _ _ _ from .str _)⟩))
    · trivial
  · rename_i xs
    obtain ⟨a, vs, rfl, h1, h2⟩ := hx.lst
    obtain ⟨d2, k2⟩ := y
    cases d2 <;> first | exact True.intro | skip
    cases hy.int
    unfold ixD
    dsimp only
    cases q : atI xs _ with
    | none => trivial
    | some d =>
      obtain ⟨u, h3, h4⟩ := h2.at q
      exact fun Q hQ => .inl (.inl ⟨a, vs, _, u, rfl, rfl, h1, h3, hQ _ _ (Same.refl _) h4⟩)
  · rename_i xs
    obtain ⟨a, vs, rfl, h1, h2⟩ := hx.tup
    obtain ⟨d2, k2⟩ := y
    cases d2 <;> first | exact True.intro | skip
    cases hy.int
    unfold ixD
    dsimp only
    cases q : atI xs _ with
    | none => trivial
    | some d =>
      obtain ⟨u, h3, h4⟩ := h2.at q
      exact fun Q hQ => .inl (.inr (.inl ⟨a, vs, _, u, rfl, rfl, h1, h3, hQ _ _ (Same.refl _) h4⟩))
  · rename_i kvs
    obtain ⟨a, vs, rfl, h1, h2⟩ := hx.dk
    obtain ⟨d2, k2⟩ := y
    unfold ixD
    dsimp only
    cases q : keyD d2 with
    | none => trivial
    | some key =>
      dsimp only
      have e := keyD_out q hy
      rcases look_rep key h2 with ⟨z1, z2⟩ | ⟨u, d, z1, z2, z3⟩
      · rw [z2]
        trivial
      · rw [z2]
        exact fun Q hQ => .inr ⟨a, u, rfl, z1 ▸ dget_k (K := X.K) h1 e, hQ _ _ (Same.refl _) z3⟩
  · rename_i kvs
    obtain ⟨a, vs, rfl, h1, h2⟩ := hx.dt
    obtain ⟨d2, k2⟩ := y
    unfold ixD
    dsimp only
    cases k2 <;> first | exact True.intro | skip
    cases q : keysD d2 with
    | none => trivial
    | some key =>
      dsimp only
      obtain ⟨b, e, eb⟩ := keysD_out q hy
      rcases look_repT key h2 with ⟨z1, z2⟩ | ⟨u, d, z1, z2, z3⟩
      · rw [z2]
        trivial
      · rw [z2]
        exact fun Q hQ => .inr ⟨a, u, rfl, z1 ▸ dget_t (K := X.K) h1 e eb, hQ _ _ (Same.refl _) z3⟩
theorem de_ix (hr : Room k X.A) (ha : DE X E a pa) (hb : DE X E b pb) (hs : PlainIx b := by exact fun _ _ => rfl) : DE X E (.Subscript a b pos) (dBin ixD pa pb) :=
  de_two (t := fun _ _ _ => True) ha hb (fun _ _ h g => pe_ix (IxR.or' ix_seq (IxR.dget hr)) h g hs) hf_ix

/-! ### x[i:j] -/
structure DO (X : Cx) (E : XK) (e : Option Expr) (p : Env → R (Option Int)) : Prop where
  ex : ∃ t, PO X e t ∧ ∀ (B F : Hp) (O0 : Own) (H : Hp) (O : Own) (σ : L2.St) (ρ : Env), SR X.K B F O0 H O σ ρ → EvG X.K X.mg O E H (p ρ) (fun b c _ => c = b) (t σ H)
theorem do_none : DO X E none (fun _ => .ok none) := ⟨_, po_none, fun B F O0 H O σ ρ R => EvG.ret rfl⟩
def intD (x : DV) : R (Option Int) := match x.1 with | .int i => .ok (some i) | _ => .no
theorem do_some (h : DE X E e p) : DO X E (some e) (fun ρ => (p ρ).bind intD) := by
  obtain ⟨t, h1, h2⟩ := h.ex
  refine ⟨_, po_some h1, fun B F O0 H O σ ρ R => ?_⟩
  refine EvG.bind (T1 := fun x H1 Q => ∃ i, x = .int i ∧ Q (some i) H1) (h2 B F O0 H O σ ρ R) fun x v H1 s1 r1 => ?_
  obtain ⟨d, kk⟩ := x
  cases d <;> first | exact True.intro | skip
  cases Out.int r1
  exact fun Q hQ => ⟨_, rfl, hQ _ _ (Same.refl _) rfl⟩
def cutL {α : Type} (xs : List α) (lo hi : Option Int) : List α := (xs.drop (HT.sIx xs.length 0 lo)).take (HT.sIx xs.length xs.length hi - HT.sIx xs.length 0 lo)
def slD (x : DV) (lo hi : Option Int) : R DV := match x with
  | (.lst xs, _) => .ok (.lst (cutL xs lo hi), .ow)
  | (.tup xs, .fz) => .ok (.tup (cutL xs lo hi), .fz)
  | (.str z, _) => if z.length ≤ sizeLine then .ok (.str (cutS z lo hi), .fz) else .no
  | _ => .no
def rSlG (K : PySem.W.Frag) : V → Option Int → Option Int → Hp → VK → Prop := fun x lo hi H Q => rSlL K x lo hi H Q ∨ rSlA K x lo hi H Q ∨ rSlS x lo hi H Q
theorem sl_all : SlR X (rSlG X.K) := SlR.or sl_list (SlR.or sl_tupA sl_str)
theorem RepL.cut {K : PySem.W.Frag} {H : Hp} {vs : List V} {ds : List D} (lo hi : Option Int) (h : RepL K H vs ds) : RepL K H (cutV vs lo hi) (cutL ds lo hi) := by
  unfold cutV cutL
  rw [h.length]
  exact (h.drop _).take _
theorem ev_sl {B H0 H : Hp} {O0 O : Own} {x : DV} {v : V} (lo hi : Option Int) (s : Same H0 H) (dom : ∀ a, O a → H a ≠ none) (hx : Out X.K B O0 H0 H O v x) : EvG X.K X.mg O E H (slD x lo hi) (ORel X.K B O0 H O) (fun Q => rSlG X.K v lo hi H Q) := by
  obtain ⟨d, kk⟩ := x
  cases d <;> first | exact True.intro | skip
  · cases hx.str
    show EvG _ _ _ _ _ (if _ then _ else _) _ _
    split
    · exact fun Q hQ => .inr (.inr ⟨_, rfl, by assumption, hQ _ _ (Same.refl _) (show Rep _ _ _ _ from .str _)⟩)
    · trivial
  · obtain ⟨a, vs, rfl, h1, h2⟩ := hx.lst
    exact fun Q hQ => .inl ⟨a, vs, rfl, h1, ev_lst (mg := X.mg) (E := E) dom (h2.cut lo hi) Q hQ⟩
  · cases kk <;> first | exact True.intro | skip
    obtain ⟨a, vs, rfl, h1, h2⟩ := hx.tup
    refine fun Q hQ => .inr (.inl ⟨a, vs, rfl, h1, fun c => ?_, fun c => ev_tup (mg := X.mg) (E := E) dom (h2.cut lo hi) Q hQ⟩)
    rename_i ds
    have e : cutL ds lo hi = ds := by
      unfold cutL
      rw [← h2.length, c.1, c.2, List.drop_zero, h2.length, Nat.sub_zero, List.take_length]
    rw [e] at hQ
    exact hQ _ _ (Same.refl _) hx
theorem de_slice {lo hi : Option Expr} {p2 : Pos} {ql qh : Env → R (Option Int)} (ha : DE X E a pa) (hl : DO X E lo ql) (hh : DO X E hi qh) :
    DE X E (.Subscript a (.Slice lo hi none p2) pos) (fun ρ => (pa ρ).bind fun x => (ql ρ).bind fun l => (qh ρ).bind fun u => slD x l u) := by
  obtain ⟨t, h1, h2⟩ := ha.ex
  obtain ⟨u, g1, g2⟩ := hl.ex
  obtain ⟨w, k1, k2⟩ := hh.ex
  refine ⟨_, pe_slice sl_all h1 g1 k1, fun B F O0 H O σ ρ R => ?_⟩
  refine EvG.bind (T1 := fun x H1 Q => u σ H1 fun l H2 => w σ H2 fun h H3 => rSlG X.K x l h H3 Q) (h2 B F O0 H O σ ρ R) fun x v H1 s1 r1 => ?_
  refine EvG.bind (T1 := fun l H2 Q => w σ H2 fun h H3 => rSlG X.K v l h H3 Q) (g2 B F O0 H1 O σ ρ (R.more s1)) fun l l' H2 s2 r2 => ?_
  subst r2
  refine EvG.bind (T1 := fun h H3 Q => rSlG X.K v l' h H3 Q) (k2 B F O0 H2 O σ ρ (R.more (s1.trans s2))) fun h h' H3 s3 r3 => ?_
  subst r3
  have s13 := s1.trans (s2.trans s3)
  exact (ev_sl _ _ s13 (R.more s13).dom (Out.mono r1 (Same.refl _) (s2.trans s3))).imp fun z u H' s' o => Out.mono o s13 (Same.refl _)

/-! ### displays -/
/-- parts that may be kept: frozen -/
def keepL : List DV → Option (List D)
  | [] => some []
  | (d, .fz) :: r => (keepL r).map (d :: ·)
  | (d, .ow) :: r => (keepL r).map (d :: ·)
  | _ :: _ => none
theorem OutL.keep {K : PySem.W.Frag} {B H0 H : Hp} {O0 O : Own} : ∀ {xs : List DV} {vs : List V} {ds : List D}, OutL K B O0 H0 H O xs vs → keepL xs = some ds → RepL K (off O H) vs ds
  | [], _, ds, .nil, e => by cases e; exact .nil
  | (d, .fz) :: r, _, ds, .cons a b, e => by
    cases q : keepL r with
    | none => simp [keepL, q] at e
    | some z =>
      simp [keepL, q] at e
      subst e
      exact .cons a (OutL.keep b q)
  | (d, .ow) :: r, _, ds, .cons a b, e => by
    cases q : keepL r with
    | none => simp [keepL, q] at e
    | some z =>
      simp [keepL, q] at e
      subst e
      exact .cons a.fzD (OutL.keep b q)
  | (d, .bo) :: r, _, ds, .cons a b, e => by simp [keepL] at e
  | (d, .al) :: r, _, ds, .cons a b, e => by simp [keepL] at e
def mkTup (xs : List DV) : R DV := match keepL xs with | some ds => if ds.length ≤ sizeLine then .ok (.tup ds, .fz) else .no | none => .no
def mkLst (xs : List DV) : R DV := match keepL xs with | some ds => if ds.length ≤ sizeLine then .ok (.lst ds, .ow) else .no | none => .no
theorem de_tup {x1} (h : DA X E es pl) : DE X E (.Tuple es x1 pos) (fun ρ => (pl ρ).bind mkTup) := by
  obtain ⟨t, h1, h2⟩ := h.ex
  refine ⟨_, pe_tup h1, fun B F O0 H O σ ρ R => ?_⟩
  refine EvG.bind (T1 := fun xs H1 Q => xs.length ≤ sizeLine ∧ ∀ p, H1 p = none → Q (V.ref p) (upd H1 p (.tup xs))) (h2 B F O0 H O σ ρ R) fun x v H1 s1 r1 => ?_
  unfold mkTup
  cases q : keepL x with
  | none => trivial
  | some ds =>
    dsimp only
    split
    · rename_i z
      have rr := OutL.keep r1 q
      rw [← rr.length] at z
      exact fun Q hQ => ⟨z, ev_tup (mg := X.mg) (E := E) (B := B) (O0 := O0) (R.more s1).dom rr Q fun v' H' s' o => hQ v' H' s' (Out.mono o s1 (Same.refl _))⟩
    · trivial
theorem de_lst (h : DA X E es pl) : DE X E (.List es pos) (fun ρ => (pl ρ).bind mkLst) := by
  obtain ⟨t, h1, h2⟩ := h.ex
  refine ⟨_, pe_lst h1, fun B F O0 H O σ ρ R => ?_⟩
  refine EvG.bind (T1 := fun xs H1 Q => xs.length ≤ sizeLine ∧ ∀ p, H1 p = none → Q (V.ref p) (upd H1 p (.lst xs))) (h2 B F O0 H O σ ρ R) fun x v H1 s1 r1 => ?_
  unfold mkLst
  cases q : keepL x with
  | none => trivial
  | some ds =>
    dsimp only
    split
    · rename_i z
      have rr := OutL.keep r1 q
      rw [← rr.length] at z
      exact fun Q hQ => ⟨z, ev_lst (mg := X.mg) (E := E) (B := B) (O0 := O0) (R.more s1).dom rr Q fun v' H' s' o => hQ v' H' s' (Out.mono o s1 (Same.refl _))⟩
    · trivial
theorem de_dk : DE X E (.Dict [] [] pos) (fun _ => .ok (.dk [], .ow)) := ⟨_, pe_dnewK, fun B F O0 H O σ ρ R => ev_dk R.dom⟩
theorem de_dt : DE X E (.Dict [] [] pos) (fun _ => .ok (.dt [], .ow)) := ⟨_, pe_dnewT, fun B F O0 H O σ ρ R => ev_dt R.dom⟩

/-! ### built-ins by name -/
structure CB (X : Cx) (E : XK) (f : Value) (g : List DV → R DV) : Prop where
  ex : ∃ r, CallR X f r ∧ ∀ (B : Hp) (O0 : Own) (H0 H : Hp) (O : Own) (xs : List DV) (vs : List V), Same H0 H → (∀ a, O a → H a ≠ none) → OutL X.K B O0 H0 H O xs vs → EvG X.K X.mg O E H (g xs) (ORel X.K B O0 H O) (fun Q => r vs H Q)
abbrev dCB (g : List DV → R DV) (pl : Env → R (List DV)) : Env → R DV := fun ρ => (pl ρ).bind g
theorem de_callB {x : Str} {id : String} {g : List DV → R DV} {pp : Pos} (o : CB X E (.builtin id) g) (hg : Gl X x) (hm : X.mg x = none) (hv : bootBuiltins x = some (.builtin id)) (ha : DA X E (e :: es) pl) (hn : x ≠ "__name__" := by decide) (hdb : (x == ("__debug__" : Str)) = false := by decide)
    (he : starEach (e :: es) X.env = (false, eval e X.env) :: starEach es X.env := by rfl) (hpl : (backTo pos (starEach es X.env)).any (·.1) = false := by rfl) : DE X E (.Call (.Name x pp) (e :: es) [] pos) (dCB g pl) := by
  obtain ⟨r, c1, c2⟩ := o.ex
  obtain ⟨t, h1, h2⟩ := ha.ex
  refine ⟨_, pe_callB c1 hg hm hv h1 hn hdb he hpl, fun B F O0 H O σ ρ R => ?_⟩
  refine EvG.bind (T1 := fun vs H1 Q => r vs H1 Q) (h2 B F O0 H O σ ρ R) fun x v H1 s1 r1 => ?_
  exact (c2 B O0 H H1 O x v s1 (R.more s1).dom r1).imp fun z u H' s' o => Out.mono o s1 (Same.refl _)
theorem de_callTy {x : Str} {T : String} {g : List DV → R DV} {pp : Pos} (o : CB X E (.type T) g) (hg : Gl X x) (hm : X.mg x = none) (hv : bootBuiltins x = some (.type T)) (ha : DA X E (e :: es) pl) (hn : x ≠ "__name__" := by decide) (hdb : (x == ("__debug__" : Str)) = false := by decide)
    (he : starEach (e :: es) X.env = (false, eval e X.env) :: starEach es X.env := by rfl) (hpl : (backTo pos (starEach es X.env)).any (·.1) = false := by rfl) : DE X E (.Call (.Name x pp) (e :: es) [] pos) (dCB g pl) := by
  obtain ⟨r, c1, c2⟩ := o.ex
  obtain ⟨t, h1, h2⟩ := ha.ex
  refine ⟨_, pe_callTy c1 hg hm hv h1 hn hdb he hpl, fun B F O0 H O σ ρ R => ?_⟩
  refine EvG.bind (T1 := fun vs H1 Q => r vs H1 Q) (h2 B F O0 H O σ ρ R) fun x v H1 s1 r1 => ?_
  exact (c2 B O0 H H1 O x v s1 (R.more s1).dom r1).imp fun z u H' s' o => Out.mono o s1 (Same.refl _)
end
end FK
namespace FK
open PySem PySem.Spec L2
open PyProof.Rows hiding St

section
variable {X : Cx} {E : XK}
def one (g : DV → R DV) : List DV → R DV | [x] => g x | _ => .no
def two (g : DV → DV → R DV) : List DV → R DV | [x, y] => g x y | _ => .no
def three (g : DV → DV → DV → R DV) : List DV → R DV | [x, y, z] => g x y z | _ => .no
theorem cb1 {f : Value} {r : List V → Hp → VK → Prop} {g : DV → R DV} (hc : CallR X f r)
    (h : ∀ (B : Hp) (O0 : Own) (H0 H : Hp) (O : Own) (x : DV) (v : V), Same H0 H → (∀ a, O a → H a ≠ none) → Out X.K B O0 H0 H O v x → EvG X.K X.mg O E H (g x) (ORel X.K B O0 H O) (fun Q => r [v] H Q)) : CB X E f (one g) :=
  ⟨r, hc, fun B O0 H0 H O xs vs s d o => match xs, vs, o with
    | [], _, _ => True.intro
    | [x], _, .cons a .nil => h B O0 H0 H O x _ s d a
    | _ :: _ :: _, _, _ => True.intro⟩
theorem cb2 {f : Value} {r : List V → Hp → VK → Prop} {g : DV → DV → R DV} (hc : CallR X f r)
    (h : ∀ (B : Hp) (O0 : Own) (H0 H : Hp) (O : Own) (x y : DV) (v w : V), Same H0 H → (∀ a, O a → H a ≠ none) → Out X.K B O0 H0 H O v x → Out X.K B O0 H0 H O w y → EvG X.K X.mg O E H (g x y) (ORel X.K B O0 H O) (fun Q => r [v, w] H Q)) : CB X E f (two g) :=
  ⟨r, hc, fun B O0 H0 H O xs vs s d o => match xs, vs, o with
    | [], _, _ => True.intro
    | [_], _, _ => True.intro
    | [x, y], _, .cons a (.cons b .nil) => h B O0 H0 H O x y _ _ s d a b
    | _ :: _ :: _ :: _, _, _ => True.intro⟩
theorem CB.or {f : Value} {g g' : List DV → R DV} (h : CB X E f g) (h' : CB X E f g') : CB X E f (fun xs => match g xs with | .no => g' xs | r => r) := by
  obtain ⟨r, c, e⟩ := h.ex
  obtain ⟨r', c', e'⟩ := h'.ex
  refine ⟨_, CallR.or c c', fun B O0 H0 H O xs vs s d o => ?_⟩
  have z := e B O0 H0 H O xs vs s d o
  have z' := e' B O0 H0 H O xs vs s d o
  cases q : g xs with
  | no =>
    dsimp only
    cases q' : g' xs with
    | no => trivial
    | ex x => rw [q'] at z'; exact fun w Q => .inr (z' w Q)
    | ok x => rw [q'] at z'; exact fun Q hQ => .inr (z' Q hQ)
  | ex x => rw [q] at z; exact fun w Q => .inl (z w Q)
  | ok x => rw [q] at z; exact fun Q hQ => .inl (z Q hQ)

/-! ### len -/
def gLen (x : DV) : R DV := match x.1 with
  | .lst xs => .ok (.int xs.length, .fz)
  | .tup xs => .ok (.int xs.length, .fz)
  | .str z => if z.length ≤ sizeLine then .ok (.int z.length, .fz) else .no
  | .dk kvs => .ok (.int kvs.length, .fz)
  | _ => .no
theorem call_lenR : CallR X (.builtin "len") (fun xs H Q => ∃ a kvs, xs = [V.ref a] ∧ H a = some (.dK kvs) ∧ Q (.int kvs.length) H) := by
  intro pins s σ H xs us Q I r h
  obtain ⟨a, kvs, rfl, ha, q⟩ := h
  obtain ⟨u, rfl, ru⟩ := vals1 r
  cases ru
  exact d_len I (.inl ha) fun t s' I' => ⟨.int kvs.length, H, I', ⟨t, rfl⟩, q⟩
theorem RepK.length {K : PySem.W.Frag} {H : Hp} : ∀ {v : List (Key × V)} {d : List (Key × D)}, RepK K H v d → v.length = d.length
  | _, _, .nil => rfl
  | _, _, .cons _ b => congrArg (· + 1) (RepK.length b)
theorem cb_len : CB X E (.builtin "len") (one gLen) := cb1 (CallR.or call_len_seq (CallR.or call_len_str call_lenR)) fun B O0 H0 H O x v s dom hx => by
  obtain ⟨d, kk⟩ := x
  cases d <;> first | exact True.intro | skip
  · cases hx.str
    show EvG _ _ _ _ _ (if _ then _ else _) _ _
    split
    · exact fun Q hQ => .inr (.inl ⟨_, rfl, by assumption, hQ _ _ (Same.refl _) (show Rep _ _ _ _ from .int _)⟩)
    · trivial
  · obtain ⟨a, vs, rfl, h1, h2⟩ := hx.lst
    exact fun Q hQ => .inl ⟨a, vs, rfl, .inl h1, by rw [h2.length]; exact hQ _ _ (Same.refl _) (show Rep _ _ _ _ from .int _)⟩
  · obtain ⟨a, vs, rfl, h1, h2⟩ := hx.tup
    exact fun Q hQ => .inl ⟨a, vs, rfl, .inr h1, by rw [h2.length]; exact hQ _ _ (Same.refl _) (show Rep _ _ _ _ from .int _)⟩
  · obtain ⟨a, vs, rfl, h1, h2⟩ := hx.dk
    exact fun Q hQ => .inr (.inr ⟨a, vs, rfl, h1, by rw [h2.length]; exact hQ _ _ (Same.refl _) (show Rep _ _ _ _ from .int _)⟩)

/-! ### all, any, sum, max, min -/
def boolsD : List D → Option (List Bool)
  | [] => some []
  | .bl b :: r => (boolsD r).map (b :: ·)
  | _ => none
theorem boolsD_eq : ∀ {ds : List D} {bs : List Bool}, boolsD ds = some bs → ds = bs.map D.bl
  | [], bs, e => by cases e; rfl
  | d :: r, bs, e => by
    cases d <;> first | (cases e; done) | skip
    cases q : boolsD r with
    | none => simp [boolsD, q] at e
    | some z =>
      simp [boolsD, q] at e
      subst e
      rw [boolsD_eq q]
      rfl
theorem boolsD_map : ∀ bs : List Bool, boolsD (bs.map D.bl) = some bs
  | [] => rfl
  | b :: r => by simp [boolsD, boolsD_map r]
def intsD : List D → Option (List Int)
  | [] => some []
  | .int b :: r => (intsD r).map (b :: ·)
  | _ => none
theorem intsD_eq : ∀ {ds : List D} {bs : List Int}, intsD ds = some bs → ds = bs.map D.int
  | [], bs, e => by cases e; rfl
  | d :: r, bs, e => by
    cases d <;> first | (cases e; done) | skip
    cases q : intsD r with
    | none => simp [intsD, q] at e
    | some z =>
      simp [intsD, q] at e
      subst e
      rw [intsD_eq q]
      rfl
theorem intsD_map : ∀ bs : List Int, intsD (bs.map D.int) = some bs
  | [] => rfl
  | b :: r => by simp [intsD, intsD_map r]
def gBools (f : List Bool → Bool) (x : DV) : R DV := match x.1 with
  | .lst xs => (match boolsD xs with | some bs => .ok (.bl (f bs), .fz) | none => .no)
  | _ => .no
def gInts (f : List Int → R Int) (x : DV) : R DV := match x.1 with
  | .lst xs => (match intsD xs with | some bs => (f bs).bind fun n => .ok (.int n, .fz) | none => .no)
  | _ => .no
theorem ev_bools {f : List Bool → Bool} {r : List V → Hp → VK → Prop} (hr : ∀ H a bs (Q : VK), SqL X.K H a (bs.map V.bl) → Q (.bl (f bs)) H → r [.ref a] H Q) (B : Hp) (O0 : Own) (H0 H : Hp) (O : Own) (x : DV) (v : V) (s : Same H0 H) (dom : ∀ a, O a → H a ≠ none) (hx : Out X.K B O0 H0 H O v x) :
    EvG X.K X.mg O E H (gBools f x) (ORel X.K B O0 H O) (fun Q => r [v] H Q) := by
  obtain ⟨d, kk⟩ := x
  cases d <;> first | exact True.intro | skip
  rename_i ds
  obtain ⟨a, vs, rfl, h1, h2⟩ := hx.lst
  unfold gBools
  dsimp only
  cases q : boolsD ds with
  | none => trivial
  | some bs =>
    cases boolsD_eq q
    rw [RepL.of_bools h2] at h1
    exact fun Q hQ => hr H a bs Q h1 (hQ _ _ (Same.refl _) (show Rep _ _ _ _ from .bl _))
theorem ev_ints {f : List Int → R Int} {r : List V → Hp → VK → Prop} (hr : ∀ H a bs n (Q : VK), f bs = .ok n → SqL X.K H a (bs.map V.int) → Q (.int n) H → r [.ref a] H Q) (hn : ∀ bs e, f bs ≠ .ex e) (B : Hp) (O0 : Own) (H0 H : Hp) (O : Own) (x : DV) (v : V) (s : Same H0 H) (dom : ∀ a, O a → H a ≠ none) (hx : Out X.K B O0 H0 H O v x) :
    EvG X.K X.mg O E H (gInts f x) (ORel X.K B O0 H O) (fun Q => r [v] H Q) := by
  obtain ⟨d, kk⟩ := x
  cases d <;> first | exact True.intro | skip
  rename_i ds
  obtain ⟨a, vs, rfl, h1, h2⟩ := hx.lst
  unfold gInts
  dsimp only
  cases q : intsD ds with
  | none => trivial
  | some bs =>
    cases intsD_eq q
    rw [RepL.of_ints h2] at h1
    dsimp only
    cases q2 : f bs with
    | no => trivial
    | ex e => exact absurd q2 (hn _ _)
    | ok n => exact fun Q hQ => hr H a bs n Q q2 h1 (hQ _ _ (Same.refl _) (show Rep _ _ _ _ from .int _))
theorem cb_all (hc : X.calm = true) : CB X E (.builtin "all") (one (gBools fun bs => bs.all id)) := cb1 (cr_all hc) (ev_bools fun H a bs Q h q => ⟨a, bs, rfl, h, q⟩)
theorem cb_any (hc : X.calm = true) : CB X E (.builtin "any") (one (gBools fun bs => bs.any id)) := cb1 (cr_any hc) (ev_bools fun H a bs Q h q => ⟨a, bs, rfl, h, q⟩)
theorem cb_sum (hc : X.calm = true) : CB X E (.builtin "sum") (one (gInts fun ns => .ok ns.sum)) := cb1 (cr_sum hc) (ev_ints (fun H a bs n Q e h q => by cases e; exact ⟨a, bs, rfl, h, q⟩) fun _ _ z => nomatch z)
def maxI : List Int → Int | [] => 0 | n :: r => r.foldl max n
def minI : List Int → Int | [] => 0 | n :: r => r.foldl min n
theorem foldl_max_ge : ∀ (r : List Int) (n : Int), n ≤ r.foldl max n ∧ ∀ y ∈ r, y ≤ r.foldl max n
  | [], n => ⟨Int.le_refl _, fun y h => nomatch h⟩
  | x :: r, n => by
    obtain ⟨h1, h2⟩ := foldl_max_ge r (max n x)
    refine ⟨by show n ≤ r.foldl max (max n x); omega, fun y h => ?_⟩
    show y ≤ r.foldl max (max n x)
    rcases List.mem_cons.mp h with e | e
    · subst e; omega
    · exact h2 y e
theorem foldl_max_mem : ∀ (r : List Int) (n : Int), r.foldl max n = n ∨ r.foldl max n ∈ r
  | [], n => .inl rfl
  | x :: r, n => by
    show r.foldl max (max n x) = n ∨ r.foldl max (max n x) ∈ x :: r
    rcases foldl_max_mem r (max n x) with h | h
    · rw [h]
      by_cases c : n ≤ x
      · right; rw [show max n x = x by omega]; exact List.mem_cons_self
      · left; omega
    · exact .inr (List.mem_cons_of_mem _ h)
theorem foldl_min_le : ∀ (r : List Int) (n : Int), r.foldl min n ≤ n ∧ ∀ y ∈ r, r.foldl min n ≤ y
  | [], n => ⟨Int.le_refl _, fun y h => nomatch h⟩
  | x :: r, n => by
    obtain ⟨h1, h2⟩ := foldl_min_le r (min n x)
    refine ⟨by show r.foldl min (min n x) ≤ n; omega, fun y h => ?_⟩
    show r.foldl min (min n x) ≤ y
    rcases List.mem_cons.mp h with e | e
    · subst e; omega
    · exact h2 y e
theorem foldl_min_mem : ∀ (r : List Int) (n : Int), r.foldl min n = n ∨ r.foldl min n ∈ r
  | [], n => .inl rfl
  | x :: r, n => by
    show r.foldl min (min n x) = n ∨ r.foldl min (min n x) ∈ x :: r
    rcases foldl_min_mem r (min n x) with h | h
    · rw [h]
      by_cases c : x ≤ n
      · right; rw [show min n x = x by omega]; exact List.mem_cons_self
      · left; omega
    · exact .inr (List.mem_cons_of_mem _ h)
def fMaxL (ns : List Int) : R Int := if ns = [] then .no else .ok (maxI ns)
def fMinL (ns : List Int) : R Int := if ns = [] then .no else .ok (minI ns)
theorem cb_max1 (hc : X.calm = true) : CB X E (.builtin "max") (one (gInts fMaxL)) := cb1 (cr_max hc) (ev_ints (fun H a bs n Q e h q => by
  unfold fMaxL at e
  split at e
  · cases e
  · cases e
    cases bs with
    | nil => rename_i c; exact absurd rfl c
    | cons z r =>
      refine ⟨a, z :: r, rfl, h, Nat.zero_lt_succ _, fun m hm hle => ?_⟩
      have h1 : maxI (z :: r) ∈ z :: r := by
        rcases foldl_max_mem r z with e | e
        · show r.foldl max z ∈ z :: r; rw [e]; exact List.mem_cons_self
        · exact List.mem_cons_of_mem _ e
      have h2 : m ≤ maxI (z :: r) := by
        obtain ⟨g1, g2⟩ := foldl_max_ge r z
        rcases List.mem_cons.mp hm with e | e
        · rw [e]; exact g1
        · exact g2 m e
      have e : m = maxI (z :: r) := Int.le_antisymm h2 (hle _ h1)
      rw [e]
      exact q) fun _ _ z => by unfold fMaxL at z; split at z <;> cases z)
theorem cb_min1 (hc : X.calm = true) : CB X E (.builtin "min") (one (gInts fMinL)) := cb1 (cr_min hc) (ev_ints (fun H a bs n Q e h q => by
  unfold fMinL at e
  split at e
  · cases e
  · cases e
    cases bs with
    | nil => rename_i c; exact absurd rfl c
    | cons z r =>
      refine ⟨a, z :: r, rfl, h, Nat.zero_lt_succ _, fun m hm hle => ?_⟩
      have h1 : minI (z :: r) ∈ z :: r := by
        rcases foldl_min_mem r z with e | e
        · show r.foldl min z ∈ z :: r; rw [e]; exact List.mem_cons_self
        · exact List.mem_cons_of_mem _ e
      have h2 : minI (z :: r) ≤ m := by
        obtain ⟨g1, g2⟩ := foldl_min_le r z
        rcases List.mem_cons.mp hm with e | e
        · rw [e]; exact g1
        · exact g2 m e
      have e : m = minI (z :: r) := Int.le_antisymm (hle _ h1) h2
      rw [e]
      exact q) fun _ _ z => by unfold fMinL at z; split at z <;> cases z)
def gI2 (f : Int → Int → Int) (x y : DV) : R DV := match x.1, y.1 with | .int i, .int j => .ok (.int (f i j), .fz) | _, _ => .no
theorem ev_i2 {f : Int → Int → Int} {r : List V → Hp → VK → Prop} (hr : ∀ H i j (Q : VK), Q (.int (f i j)) H → r [.int i, .int j] H Q) (B : Hp) (O0 : Own) (H0 H : Hp) (O : Own) (x y : DV) (v w : V) (s : Same H0 H) (dom : ∀ a, O a → H a ≠ none) (hx : Out X.K B O0 H0 H O v x) (hy : Out X.K B O0 H0 H O w y) :
    EvG X.K X.mg O E H (gI2 f x y) (ORel X.K B O0 H O) (fun Q => r [v, w] H Q) := by
  obtain ⟨d, kk⟩ := x
  obtain ⟨d2, k2⟩ := y
  cases d <;> cases d2 <;> first | exact True.intro | skip
  cases hx.int
  cases hy.int
  exact fun Q hQ => hr _ _ _ _ (hQ _ _ (Same.refl _) (show Rep _ _ _ _ from .int _))
theorem cb_max2 (hc : X.calm = true) : CB X E (.builtin "max") (two (gI2 fun i j => if j > i then j else i)) := cb2 (call_max2 hc) (ev_i2 (r := fun xs H Q => ∃ i j, xs = [.int i, .int j] ∧ Q (.int (if j > i then j else i)) H) fun H i j Q q => ⟨i, j, rfl, q⟩)
theorem cb_min2 (hc : X.calm = true) : CB X E (.builtin "min") (two (gI2 fun i j => if j < i then j else i)) := cb2 (call_min2 hc) (ev_i2 (r := fun xs H Q => ∃ i j, xs = [.int i, .int j] ∧ Q (.int (if j < i then j else i)) H) fun H i j Q q => ⟨i, j, rfl, q⟩)
def gI1 (f : Int → Int) (x : DV) : R DV := match x.1 with | .int i => .ok (.int (f i), .fz) | _ => .no
theorem cb_abs : CB X E (.builtin "abs") (one (gI1 fun i => if i < 0 then -i else i)) := cb1 call_abs fun B O0 H0 H O x v s dom hx => by
  obtain ⟨d, kk⟩ := x
  cases d <;> first | exact True.intro | skip
  cases hx.int
  exact fun Q hQ => ⟨_, rfl, hQ _ _ (Same.refl _) (show Rep _ _ _ _ from .int _)⟩
def gInt (x : DV) : R DV := match x.1 with | .int i => .ok (.int i, .fz) | .bl b => .ok (.int (if b then 1 else 0), .fz) | _ => .no
theorem cb_int : CB X E (.type "int") (one gInt) := cb1 call_int1 fun B O0 H0 H O x v s dom hx => by
  obtain ⟨d, kk⟩ := x
  cases d <;> first | exact True.intro | skip
  · cases hx.bl
    exact fun Q hQ => .inr ⟨_, rfl, hQ _ _ (Same.refl _) (show Rep _ _ _ _ from .int _)⟩
  · cases hx.int
    exact fun Q hQ => .inl ⟨_, rfl, hQ _ _ (Same.refl _) (show Rep _ _ _ _ from .int _)⟩
def gList (x : DV) : R DV := match x.1 with | .lst xs => .ok (.lst xs, .ow) | .tup xs => .ok (.lst xs, .ow) | _ => .no
theorem cb_list : CB X E (.type "list") (one gList) := cb1 call_list_of fun B O0 H0 H O x v s dom hx => by
  obtain ⟨d, kk⟩ := x
  cases d <;> first | exact True.intro | skip
  · obtain ⟨a, vs, rfl, h1, h2⟩ := hx.lst
    exact fun Q hQ => ⟨a, vs, rfl, .inl h1, ev_lst (mg := X.mg) (E := E) dom h2 Q hQ⟩
  · obtain ⟨a, vs, rfl, h1, h2⟩ := hx.tup
    exact fun Q hQ => ⟨a, vs, rfl, .inr h1, ev_lst (mg := X.mg) (E := E) dom h2 Q hQ⟩
def gTuple (x : DV) : R DV := match x with | (.lst xs, _) => .ok (.tup xs, .fz) | (.tup xs, .fz) => .ok (.tup xs, .fz) | _ => .no
theorem cb_tuple : CB X E (.type "tuple") (one gTuple) := cb1 call_tuple_of fun B O0 H0 H O x v s dom hx => by
  obtain ⟨d, kk⟩ := x
  cases d <;> first | exact True.intro | skip
  · obtain ⟨a, vs, rfl, h1, h2⟩ := hx.lst
    exact fun Q hQ => ⟨a, vs, rfl, .inl ⟨h1, ev_tup (mg := X.mg) (E := E) dom h2 Q hQ⟩⟩
  · cases kk <;> first | exact True.intro | skip
    obtain ⟨a, vs, rfl, h1, h2⟩ := hx.tup
    exact fun Q hQ => ⟨a, vs, rfl, .inr ⟨h1, hQ _ _ (Same.refl _) hx⟩⟩

/-! ### isinstance -/
def tyName : D → Option String
  | .non => some "NoneType" | .bl _ => some "bool" | .int _ => some "int" | .str _ => some "str" | .lst _ => some "list" | .tup _ => some "tuple" | .dk _ => some "dict" | .dt _ => some "dict"
def isTy (T : String) (d : D) : R DV := match tyName d with
  | some t => (match kitB t T with | some b => .ok (.bl b, .fz) | none => .no)
  | none => .no
theorem sqL_ty {K : PySem.W.Frag} {H : Hp} {a : Addr} {vs : List V} (h : SqL K H a vs) : TyX K H (.ref a) (.type "list") := by
  rcases h with (h | ⟨o, h⟩) | ⟨o, its, n, h, hc, _⟩
  · exact .base (.lst h)
  · exact .base (.frz h)
  · exact .kList h hc
theorem sqT_ty {K : PySem.W.Frag} {H : Hp} {a : Addr} {vs : List V} (h : SqT K H a vs) : TyX K H (.ref a) (.type "tuple") := by
  rcases h with (h | ⟨o, h⟩) | ⟨o, its, n, h, hc, _⟩
  · exact .base (.tup h)
  · exact .fTuple h
  · exact .kTuple h hc
theorem out_ty {K : PySem.W.Frag} {B H0 H : Hp} {O0 O : Own} {x : DV} {v : V} {t : String} (h : tyName x.1 = some t) (hx : Out K B O0 H0 H O v x) : TyX K H v (.type t) := by
  obtain ⟨d, kk⟩ := x
  cases d <;> first | (cases h; done) | skip
  · cases h; cases hx.non; exact .base .non
  · cases h; cases hx.bl; exact .base (.bl _)
  · cases h; cases hx.int; exact .base (.int _)
  · cases h; cases hx.str; exact .base (.str _)
  · cases h
    obtain ⟨a, vs, rfl, h1, h2⟩ := hx.lst
    exact sqL_ty h1
  · cases h
    obtain ⟨a, vs, rfl, h1, h2⟩ := hx.tup
    exact sqT_ty h1
  · cases h
    obtain ⟨a, vs, rfl, h1, h2⟩ := hx.dk
    exact .base (.dK h1)
  · cases h
    obtain ⟨a, vs, rfl, h1, h2⟩ := hx.dt
    exact .base (.dT h1)
theorem pe_type {x : Str} {T : String} {pos : Pos} (hg : Gl X x) (hm : X.mg x = none) (hv : bootBuiltins x = some (.type T)) (hn : x ≠ "__name__" := by decide) (hd : (x == ("__debug__" : Str)) = false := by decide) : PE X (.Name x pos) (tC (.ty T)) := pe_bltn hg hm hv rfl hn hd
theorem de_isinst {x : Str} {T : String} {e : Expr} {p : Env → R DV} {p1 p2 pos : Pos} (hI : Gl X "isinstance") (hmI : X.mg "isinstance" = none) (ha : DE X E e p) (hg : Gl X x) (hm : X.mg x = none) (hv : bootBuiltins x = some (.type T)) (hn : x ≠ "__name__" := by decide) (hd : (x == ("__debug__" : Str)) = false := by decide)
    (h1 : starEach [e, .Name x p2] X.env = (false, eval e X.env) :: starEach [.Name x p2] X.env := by rfl) (h2 : starEach [.Name x p2] X.env = (false, eval (.Name x p2) X.env) :: starEach [] X.env := by rfl) (hpl : (backTo pos (starEach [.Name x p2] X.env)).any (·.1) = false := by rfl) :
    DE X E (.Call (.Name "isinstance" p1) [e, .Name x p2] [] pos) (fun ρ => (p ρ).bind fun d => isTy T d.1) := by
  obtain ⟨t, a1, a2⟩ := ha.ex
  refine ⟨_, pe_callB call_isi hI hmI (by decide +kernel) (pa_cons a1 (pa_cons (pe_type hg hm hv hn hd) pa_nil h2) h1) (by decide) (by decide) h1 hpl, fun B F O0 H O σ ρ R => ?_⟩
  refine EvG.bind (T1 := fun v H1 Q => rIsi X.K [v, .ty T] H1 Q) (a2 B F O0 H O σ ρ R) fun x v H1 s1 r1 => ?_
  unfold isTy
  cases q : tyName x.1 with
  | none => trivial
  | some t =>
    dsimp only
    cases q2 : kitB t T with
    | none => trivial
    | some b => exact fun Q hQ => ⟨v, .ty T, _, _, b, rfl, .ty T, out_ty q r1, kit_ty q2, hQ _ _ (Same.refl _) (show Rep _ _ _ _ from .bl _)⟩
end
end FK
namespace FK
open PySem PySem.Spec L2
open PyProof.Rows hiding St

/-! ### what a def promises -/
def ArgOk (K : PySem.W.Frag) (H : Hp) (O : Own) (v : V) (x : DV) : Prop := match x.2 with
  | .fz => Rep K (off O H) v x.1
  | .bo => ∃ a, v = .ref a ∧ BorC K H O a x.1
  | _ => False
inductive ArgsOk (K : PySem.W.Frag) (H : Hp) (O : Own) : List V → List DV → Prop
  | nil : ArgsOk K H O [] []
  | cons {v : V} {vs : List V} {x : DV} {xs : List DV} : ArgOk K H O v x → ArgsOk K H O vs xs → ArgsOk K H O (v :: vs) (x :: xs)
def RetOk (K : PySem.W.Frag) (B : Hp) (O0 : Own) (H : Hp) (v : V) (x : DV) : Prop := match x.2 with
  | .fz => Rep K (off O0 H) v x.1
  | .ow => ∃ a, v = .ref a ∧ B a = none ∧ OwnC K H (plus O0 a) a x.1
  | _ => False
def Ends1 (K : PySem.W.Frag) (mg : Str → Option Value) (O : Own) (H : Hp) (Q : VK) (E : XK) : R DV → Prop
  | .ok x => ∀ v H', Same H H' → RetOk K H O H' v x → Q v H'
  | .ex e => XOk K mg O E H e
  | .no => False
def spD (K : PySem.W.Frag) (mg : Str → Option Value) (n : Nat) (m : List DV → R DV) : Sp := fun vs H Q E =>
  vs.length = n ∧ ∃ (O : Own) (as : List DV), (∀ a, O a → H a ≠ none) ∧ ArgsOk K H O vs as ∧ Ends1 K mg O H Q E (m as)
/-- a def of the program, called by its name -/
structure CallOk (P : Program) (w : World) (K : PySem.W.Frag) (mg : Str → Option Value) (base : Heap) (x : Str) (k n : Nat) (m : List DV → R DV) : Prop where
  ex : ∃ (f : Addr) (fd : FuncData) (ps : List Str), mg x = some (.ref f) ∧ FnOk P w K mg base (L2.CX P w) k f fd ps (spD K mg n m) ∧ PySem.W.keepIn K (.ref f) = true ∧ Binds K fd ps []
def argK : Kd → Kd | .fz => .fz | .ow => .fz | .bo => .bo | .al => .bo
def argD (x : DV) : DV := (x.1, argK x.2)
section
variable {K : PySem.W.Frag} {B H0 H : Hp} {O0 O : Own}
theorem Out.arg {v : V} {x : DV} (h : Out K B O0 H0 H O v x) : ArgOk K H O v (argD x) := by
  obtain ⟨d, k⟩ := x
  cases k with
  | fz => exact h
  | ow =>
    obtain ⟨a, e, _, n, c⟩ := h
    subst e
    exact c.frozen n
  | bo => obtain ⟨a, e, _, c⟩ := h; exact ⟨a, e, c⟩
  | al => obtain ⟨a, e, c⟩ := h; exact ⟨a, e, c⟩
theorem OutL.args : ∀ {xs : List DV} {vs : List V}, OutL K B O0 H0 H O xs vs → ArgsOk K H O vs (xs.map argD)
  | _, _, .nil => .nil
  | _, _, .cons a b => .cons a.arg (OutL.args b)
theorem ArgsOk.length : ∀ {vs : List V} {xs : List DV}, ArgsOk K H O vs xs → vs.length = xs.length
  | _, _, .nil => rfl
  | _, _, .cons _ b => congrArg (· + 1) (ArgsOk.length b)
end
section
variable {X : Cx} {E : XK} {e a b : Expr} {es : List Expr} {p pa pb : Env → R DV} {pl : Env → R (List DV)} {pos pp : Pos} {k n : Nat} {x : Str} {m : List DV → R DV}
abbrev dCall (n : Nat) (m : List DV → R DV) (pl : Env → R (List DV)) : Env → R DV := fun ρ => (pl ρ).bind fun xs => if xs.length = n then m (xs.map argD) else .no
theorem de_call (c : CallOk X.prog X.w X.K X.mg X.base x k n m) (hr : Room k X.A) (hg : Gl X x) (hx : Passes (L2.CX X.prog X.w) X E) (ha : DA X E (e :: es) pl) (hdb : (x == ("__debug__" : Str)) = false := by decide)
    (he : starEach (e :: es) X.env = (false, eval e X.env) :: starEach es X.env := by rfl) (hpl : (backTo pos (starEach es X.env)).any (·.1) = false := by rfl) : DE X E (.Call (.Name x pp) (e :: es) [] pos) (dCall n m pl) := by
  obtain ⟨f, fd, ps, hm, F, hk, hb⟩ := c.ex
  obtain ⟨t, h1, h2⟩ := ha.ex
  refine ⟨_, pe_call F hr hg hm hk hb .nil hx h1 hdb he hpl, fun B F' O0 H O σ ρ R => ?_⟩
  refine EvG.bind (T1 := fun vs H1 Q => spD X.K X.mg n m (vs ++ []) H1 Q E) (h2 B F' O0 H O σ ρ R) fun xs vs H1 s1 r1 => ?_
  split
  · rename_i hl
    have hlen : vs.length = n := by rw [(OutL.args r1).length, List.length_map]; exact hl
    have dom := (R.more s1).dom
    cases q : m (xs.map argD) with
    | no => trivial
    | ex z => exact fun w Q => ⟨by rw [List.append_nil]; exact hlen, O, _, dom, by rw [List.append_nil]; exact OutL.args r1, by rw [q]; exact w⟩
    | ok y =>
      refine fun Q hQ => ⟨by rw [List.append_nil]; exact hlen, O, _, dom, by rw [List.append_nil]; exact OutL.args r1, by
        rw [q]
        intro v H' s' ro
        refine hQ v H' s' ?_
        obtain ⟨d, kk⟩ := y
        cases kk with
        | fz => exact ro
        | ow =>
          obtain ⟨z, ez, nz, cz⟩ := ro
          exact ⟨z, ez, s1.free nz, fun oz => dom z oz nz, cz⟩
        | bo => exact ro.elim
        | al => exact ro.elim⟩
  · trivial
end

/-! ### statements -/
inductive SO where | nx (ρ : Env) | rt (x : DV) | bk (ρ : Env) | ct (ρ : Env) | ex (e : Exn) | no
def EndsOk (K : PySem.W.Frag) (mg : Str → Option Value) (B F : Hp) (O0 : Own) (D : Ends) (E : XK) : SO → Prop
  | .nx ρ => ∀ σ H O, SR K B F O0 H O σ ρ → D.nx σ H
  | .rt x => ∀ v H, Same B H → RetOk K B O0 H v x → D.rt v H
  | .bk ρ => ∀ σ H O, SR K B F O0 H O σ ρ → D.bk σ H
  | .ct ρ => ∀ σ H O, SR K B F O0 H O σ ρ → D.ct σ H
  | .ex e => XOk K mg O0 E B e
  | .no => False
structure DS (X : Cx) (E : XK) (st : Stmt) (m : Env → SO) : Prop where
  ex : ∃ t, PS X st t ∧ ∀ (B F : Hp) (O0 : Own) (H : Hp) (O : Own) (σ : L2.St) (ρ : Env) (D : Ends), SR X.K B F O0 H O σ ρ → EndsOk X.K X.mg B F O0 D E (m ρ) → t D σ H
structure DSs (X : Cx) (E : XK) (st : List Stmt) (m : Env → SO) : Prop where
  ex : ∃ t, PSs X st t ∧ ∀ (B F : Hp) (O0 : Own) (H : Hp) (O : Own) (σ : L2.St) (ρ : Env) (D : Ends), SR X.K B F O0 H O σ ρ → EndsOk X.K X.mg B F O0 D E (m ρ) → t D σ H
def SO.seq (r : SO) (f : Env → SO) : SO := match r with | .nx ρ => f ρ | r => r
@[simp] theorem SO.seq_nx (ρ : Env) (f : Env → SO) : (SO.nx ρ).seq f = f ρ := Eq.trans rfl rfl
@[simp] theorem SO.seq_rt (x : DV) (f : Env → SO) : (SO.rt x).seq f = .rt x := Eq.trans rfl rfl
@[simp] theorem SO.seq_bk (x : Env) (f : Env → SO) : (SO.bk x).seq f = .bk x := Eq.trans rfl rfl
@[simp] theorem SO.seq_ct (x : Env) (f : Env → SO) : (SO.ct x).seq f = .ct x := Eq.trans rfl rfl
@[simp] theorem SO.seq_ex (x : Exn) (f : Env → SO) : (SO.ex x).seq f = .ex x := Eq.trans rfl rfl
@[simp] theorem SO.seq_no (f : Env → SO) : (SO.no).seq f = .no := Eq.trans rfl rfl
def R.st {α : Type} (r : R α) (f : α → SO) : SO := match r with | .ok x => f x | .ex e => .ex e | .no => .no
@[simp] theorem R.st_ok {α : Type} (a : α) (f : α → SO) : (R.ok a).st f = f a := Eq.trans rfl rfl
@[simp] theorem R.st_ex {α : Type} (e : Exn) (f : α → SO) : (R.ex e : R α).st f = .ex e := Eq.trans rfl rfl
@[simp] theorem R.st_no {α : Type} (f : α → SO) : (R.no : R α).st f = .no := Eq.trans rfl rfl

section
variable {X : Cx} {E : XK} {e a b c : Expr} {st : Stmt} {rest s1 s2 : List Stmt} {p pa pb : Env → R DV} {pt : Env → R Bool} {m m1 m2 : Env → SO} {pos : Pos} {k i : Nat}
theorem dss_nil : DSs X E [] (fun ρ => .nx ρ) := ⟨_, pss_nil, fun B F O0 H O σ ρ D R h => h σ H O R⟩
theorem dss_cons (h1 : DS X E st m1) (h2 : DSs X E rest m2) : DSs X E (st :: rest) (fun ρ => (m1 ρ).seq m2) := by
  obtain ⟨t, a1, a2⟩ := h1.ex
  obtain ⟨u, b1, b2⟩ := h2.ex
  refine ⟨_, pss_cons a1 b1, fun B F O0 H O σ ρ D R h => a2 B F O0 H O σ ρ { D with nx := u D } R ?_⟩
  cases q : m1 ρ with
  | nx ρ' => rw [q] at h; exact fun σ' H' O' R' => b2 B F O0 H' O' σ' ρ' D R' h
  | rt x => rw [q] at h; exact h
  | bk x => rw [q] at h; exact h
  | ct x => rw [q] at h; exact h
  | ex x => rw [q] at h; exact h
  | no => rw [q] at h; exact h
theorem dss_one (h1 : DS X E st m) : DSs X E [st] m := let ⟨t, a, b⟩ := h1.ex; ⟨t, pss_one a, b⟩
/-- an expression, then a statement's doing -/
theorem ev_st {B F H : Hp} {O0 O : Own} {D : Ends} {α β : Type} {r : R α} {rel : α → β → Hp → Prop} {T : (β → Hp → Prop) → Prop} {f : α → SO} {Q : β → Hp → Prop} (hb : Same B H) (sub : ∀ b, O0 b → O b)
    (he : EvG X.K X.mg O E H r rel T) (h : EndsOk X.K X.mg B F O0 D E (r.st f)) (hq : ∀ x v H1, r = .ok x → Same H H1 → rel x v H1 → EndsOk X.K X.mg B F O0 D E (f x) → Q v H1) : T Q := by
  cases r with
  | no => exact h.elim
  | ex e => exact he ((XOk.mono h hb).sub sub) Q
  | ok x => exact he Q fun v H1 s1 r1 => hq x v H1 rfl s1 r1 h
theorem ds_if (hc : DT X E c pt) (h1 : DSs X E s1 m1) (h2 : DSs X E s2 m2) : DS X E (.If c s1 s2 pos) (fun ρ => (pt ρ).st fun b => if b then m1 ρ else m2 ρ) := by
  obtain ⟨t, a1, a2⟩ := hc.ex
  obtain ⟨u, b1, b2⟩ := h1.ex
  obtain ⟨w, c1, c2⟩ := h2.ex
  refine ⟨_, ps_if a1 b1 c1, fun B F O0 H O σ ρ D R h => ?_⟩
  refine ev_st (Q := fun b H1 => if b = true then u D σ H1 else w D σ H1) R.base R.sub (a2 B F O0 H O σ ρ R) h fun x v H1 ex s1 r1 h1 => ?_
  cases r1
  cases x with
  | true => exact b2 B F O0 H1 O σ ρ D (R.more s1) h1
  | false => exact c2 B F O0 H1 O σ ρ D (R.more s1) h1
def retD (x : DV) : SO := match x.2 with | .fz => .rt x | .ow => .rt x | _ => .no
theorem ds_ret (h : DE X E e p) : DS X E (.Return (some e) pos) (fun ρ => (p ρ).st retD) := by
  obtain ⟨t, a1, a2⟩ := h.ex
  refine ⟨_, ps_ret a1, fun B F O0 H O σ ρ D R h => ?_⟩
  refine ev_st (Q := D.rt) R.base R.sub (a2 B F O0 H O σ ρ R) h fun x v H1 ex s1 r1 h1 => ?_
  obtain ⟨d, kk⟩ := x
  have R1 := R.more s1
  cases kk with
  | fz => exact h1 v H1 R1.base (show Rep _ _ _ _ from Rep.mono (off_anti R.sub) r1)
  | ow =>
    obtain ⟨a, ea, na, oa, c⟩ := r1
    exact h1 v H1 R1.base ⟨a, ea, R.base.free na, c.mono (fun _ z => z) (off_anti fun b z => z.elim (fun z => .inl (R.sub b z)) .inr)⟩
  | bo => exact h1.elim
  | al => exact h1.elim
theorem ds_retN : DS X E (.Return none pos) (fun _ => .rt (.non, .fz)) := ⟨_, ps_retN, fun B F O0 H O σ ρ D R h => h _ _ R.base (show Rep _ _ _ _ from .non)⟩
/-- return of a local's own list: it moves out -/
def retV (i : Nat) (ρ : Env) : SO := match ρ[i]? with | some (some (d, .fz)) => .rt (d, .fz) | some (some (d, .ow)) => .rt (d, .ow) | _ => .no
theorem ds_retV (i : Nat) {x : Str} {p2 : Pos} (h : PE X (.Name x p2) (tVar i)) : DS X E (.Return (some (.Name x p2)) pos) (retV i) := by
  refine ⟨_, ps_ret h, fun B F O0 H O σ ρ D R h => ?_⟩
  unfold retV at h
  cases q : ρ[i]? with
  | none => rw [q] at h; exact h.elim
  | some o =>
    cases o with
    | none => rw [q] at h; exact h.elim
    | some y =>
      obtain ⟨v, h1, h2⟩ := R.slot i y q
      rw [q] at h
      obtain ⟨d, kk⟩ := y
      cases kk with
      | fz => exact ⟨v, h1, h v H R.base (show Rep _ _ _ _ from Rep.mono (off_anti R.sub) h2)⟩
      | ow =>
        obtain ⟨a, ea, oa, na, c⟩ := h2
        exact ⟨v, h1, h v H R.base ⟨a, ea, na, c.mono (fun _ z => z) (off_anti fun b z => z.elim (fun z => R.sub b z) fun e => by rw [e]; exact oa)⟩⟩
      | bo => exact h.elim
      | al => exact h.elim
theorem ds_pass : DS X E (.Pass pos) (fun ρ => .nx ρ) := ⟨_, ps_pass, fun B F O0 H O σ ρ D R h => h σ H O R⟩
theorem ds_break : DS X E (.Break pos) (fun ρ => .bk ρ) := ⟨_, ps_break, fun B F O0 H O σ ρ D R h => h σ H O R⟩
theorem ds_cont : DS X E (.Continue pos) (fun ρ => .ct ρ) := ⟨_, ps_continue, fun B F O0 H O σ ρ D R h => h σ H O R⟩
theorem ds_never : DS X E st (fun _ => .no) := ⟨_, ps_never, fun B F O0 H O σ ρ D R h => h⟩
theorem ds_expr (he : DE X E e p) (hs : swapsWith e none pos.line X.env = pure false := by rfl) : DS X E (.Expr e pos) (fun ρ => (p ρ).st fun _ => .nx ρ) := by
  obtain ⟨t, a1, a2⟩ := he.ex
  refine ⟨_, ps_expr a1 hs, fun B F O0 H O σ ρ D R h => ?_⟩
  exact ev_st (Q := fun _ H1 => D.nx σ H1) R.base R.sub (a2 B F O0 H O σ ρ R) h fun x v H1 ex s1 r1 h1 => h1 σ H1 O (R.more s1)
end

/-! ### slots changed -/
section
variable {K : PySem.W.Frag} {B F H H' : Hp} {O0 O : Own} {σ : L2.St} {ρ : Env}
/-- a new object is owned from now on -/
theorem SR.grow {a : Addr} (R : SR K B F O0 H O σ ρ) (s : Same H H') (n : H a = none) (n' : H' a ≠ none) : SR K B F O0 H' (plus O a) σ ρ where
  len := R.len
  base := R.base.trans s
  frz := R.frz.trans ((off_plus_new n).trans (off_mono s))
  fb := R.fb.trans ((off_plus_new n).trans (off_mono s))
  dom := fun b z => z.elim (fun z e => R.dom b z (s.free e)) fun e => by rw [e]; exact n'
  dom0 := R.dom0
  sub := fun b z => .inl (R.sub b z)
  slot := fun i x e => by
    have f : Same (off O H) (off (plus O a) H') := (off_plus_new n).trans (off_mono s)
    obtain ⟨v, h1, h2⟩ := R.slot i x e
    refine ⟨v, h1, ?_⟩
    obtain ⟨d, k⟩ := x
    cases k with
    | fz => exact Rep.mono f h2
    | ow =>
      obtain ⟨b, eb, ob, nb, c⟩ := h2
      exact ⟨b, eb, .inl ob, nb, c.mono (fun o => s _ _) f⟩
    | bo => exact h2
    | al => exact h2
  sep := R.sep
/-- a slot is stored -/
theorem SR.set {i : Nat} {v : V} {x : DV} (R : SR K B F O0 H O σ ρ) (h : SlotOk K B O0 H O v x)
    (sp : x.2 = .ow → ∀ (j : Nat) (y : DV) (a : Addr), j ≠ i → ρ[j]? = some (some y) → y.2 = .ow → v = .ref a → σ[j]? = some (some (.ref a)) → False) : SR K B F O0 H O (σ.set i (some v)) (ρ.set i (some x)) where
  len := by rw [List.length_set, List.length_set]; exact R.len
  base := R.base
  frz := R.frz
  fb := R.fb
  dom := R.dom
  dom0 := R.dom0
  sub := R.sub
  slot := fun j y e => by
    by_cases c : j = i
    · subst c
      by_cases hl : j < ρ.length
      · rw [List.getElem?_set_self hl] at e
        cases e
        exact ⟨v, by rw [List.getElem?_set_self (by rw [R.len]; exact hl)], h⟩
      · rw [List.getElem?_eq_none (by rw [List.length_set]; omega)] at e
        cases e
    · rw [List.getElem?_set_ne (Ne.symm c)] at e ⊢
      exact R.slot j y e
  sep := fun j l y z a hjl e1 k1 e2 k2 g1 g2 => by
    by_cases c1 : j = i
    · subst c1
      have hl : j < ρ.length := by
        by_cases hl : j < ρ.length
        · exact hl
        · rw [List.getElem?_eq_none (by rw [List.length_set]; omega)] at e1; cases e1
      rw [List.getElem?_set_self hl] at e1
      cases e1
      rw [List.getElem?_set_self (by rw [R.len]; exact hl)] at g1
      rw [List.getElem?_set_ne hjl] at e2 g2
      cases g1
      exact sp k1 l z a (Ne.symm hjl) e2 k2 rfl g2
    · by_cases c2 : l = i
      · subst c2
        have hl : l < ρ.length := by
          by_cases hl : l < ρ.length
          · exact hl
          · rw [List.getElem?_eq_none (by rw [List.length_set]; omega)] at e2; cases e2
        rw [List.getElem?_set_self hl] at e2
        cases e2
        rw [List.getElem?_set_self (by rw [R.len]; exact hl)] at g2
        rw [List.getElem?_set_ne (Ne.symm hjl)] at e1 g1
        cases g2
        exact sp k2 j y a hjl e1 k1 rfl g1
      · rw [List.getElem?_set_ne (Ne.symm c1)] at e1 g1
        rw [List.getElem?_set_ne (Ne.symm c2)] at e2 g2
        exact R.sep j l y z a hjl e1 k1 e2 k2 g1 g2
/-- what an expression gave goes into a slot -/
def slotK : DV → Option DV | (d, .fz) => some (d, .fz) | (d, .ow) => some (d, .ow) | (d, .bo) => some (d, .bo) | (_, .al) => none
theorem SR.store {i : Nat} {v : V} {x y : DV} (R : SR K B F O0 H O σ ρ) (s : Same H H') (h : Out K B O0 H H' O v x) (e : slotK x = some y) : ∃ O', SR K B F O0 H' O' (σ.set i (some v)) (ρ.set i (some y)) := by
  obtain ⟨d, k⟩ := x
  cases k with
  | fz =>
    cases e
    exact ⟨O, (R.more s).set h fun z => nomatch z⟩
  | bo =>
    cases e
    obtain ⟨a, ea, c, _⟩ := h
    exact ⟨O, (R.more s).set ⟨a, ea, c⟩ fun z => nomatch z⟩
  | al => cases e
  | ow =>
    cases e
    obtain ⟨a, ea, na, oa, c⟩ := h
    subst ea
    refine ⟨plus O a, (R.grow s na c.some).set ⟨a, rfl, .inr rfl, R.base.free na, c⟩ fun _ j y b hj ey ky ev es => ?_⟩
    cases ev
    obtain ⟨w, h1, h2⟩ := R.slot j y ey
    rw [es] at h1
    cases h1
    obtain ⟨d2, k2⟩ := y
    cases (show k2 = .ow from ky)
    obtain ⟨b, eb, ob, _, _⟩ := h2
    cases eb
    exact oa ob
/-- a slot's own object is written -/
theorem SR.write {i : Nat} {a : Addr} {d d' : D} {o : HO} (R : SR K B F O0 H O σ ρ) (e : ρ[i]? = some (some (d, .ow))) (ea : σ[i]? = some (some (.ref a))) (c : OwnC K (upd H a o) O a d') : SR K B F O0 (upd H a o) O σ (ρ.set i (some (d', .ow))) := by
  obtain ⟨v, h1, h2⟩ := R.slot i _ e
  rw [ea] at h1
  cases h1
  obtain ⟨b, eb, ob, nb, _⟩ := h2
  cases eb
  have ne : ∀ {b : Addr} {o : HO}, B b = some o → b ≠ a := fun h z => by rw [z, nb] at h; cases h
  have R1 : SR K B F O0 (upd H a o) O σ ρ → True := fun _ => trivial
  have hi : i < ρ.length := by
    by_cases hl : i < ρ.length
    · exact hl
    · rw [List.getElem?_eq_none (by omega)] at e; cases e
  refine ⟨by rw [List.length_set]; exact R.len, fun b x h => ?_, ?_, ?_, fun b z => ?_, R.dom0, R.sub, fun j y ej => ?_, fun j l y z w hjl e1 k1 e2 k2 g1 g2 => ?_⟩
  · rw [upd_ne (ne h)]; exact R.base b x h
  · rw [off_upd ob]; exact R.frz
  · rw [off_upd ob]; exact R.fb
  · by_cases q : b = a
    · subst q; rw [upd_same]; exact fun z => nomatch z
    · rw [upd_ne q]; exact R.dom b z
  · by_cases q : j = i
    · subst q
      rw [List.getElem?_set_self hi] at ej
      cases ej
      exact ⟨_, ea, a, rfl, ob, nb, c⟩
    · rw [List.getElem?_set_ne (Ne.symm q)] at ej
      obtain ⟨v, h1, h2⟩ := R.slot j y ej
      refine ⟨v, h1, ?_⟩
      obtain ⟨d2, k2⟩ := y
      cases k2 with
      | fz => show Rep _ _ _ _; rw [off_upd ob]; exact h2
      | ow =>
        obtain ⟨b, eb, ob2, nb2, c2⟩ := h2
        subst eb
        have hne : b ≠ a := fun z => by subst z; exact R.sep j i _ _ _ q ej rfl e rfl h1 ea
        exact ⟨b, rfl, ob2, nb2, c2.mono (fun o' h => by rw [upd_ne hne]; exact h) (by rw [off_upd ob]; exact Same.refl _)⟩
      | bo => exact h2
      | al => exact h2
  · have a1 : ∃ y', ρ[j]? = some (some y') ∧ y'.2 = .ow := by
      by_cases q : j = i
      · subst q; exact ⟨_, e, rfl⟩
      · rw [List.getElem?_set_ne (Ne.symm q)] at e1; exact ⟨y, e1, k1⟩
    have a2 : ∃ y', ρ[l]? = some (some y') ∧ y'.2 = .ow := by
      by_cases q : l = i
      · subst q; exact ⟨_, e, rfl⟩
      · rw [List.getElem?_set_ne (Ne.symm q)] at e2; exact ⟨z, e2, k2⟩
    obtain ⟨y1, p1, p2⟩ := a1
    obtain ⟨y2, q1, q2⟩ := a2
    exact R.sep j l y1 y2 w hjl p1 p2 q1 q2 g1 g2
/-- a slot's own object goes to the frozen part -/
theorem SR.freeze {i : Nat} {d : D} (R : SR K B F O0 H O σ ρ) (e : ρ[i]? = some (some (d, .ow))) : ∃ O', SR K B F O0 H O' σ (ρ.set i (some (d, .fz))) := by
  obtain ⟨v, h1, h2⟩ := R.slot i _ e
  obtain ⟨a, ea, oa, na, c⟩ := h2
  subst ea
  have hi : i < ρ.length := by
    by_cases hl : i < ρ.length
    · exact hl
    · rw [List.getElem?_eq_none (by omega)] at e; cases e
  have sub : ∀ b, (O b ∧ b ≠ a) → O b := fun _ z => z.1
  have f : Same (off O H) (off (fun b => O b ∧ b ≠ a) H) := off_anti sub
  refine ⟨fun b => O b ∧ b ≠ a, by rw [List.length_set]; exact R.len, R.base, R.frz.trans f, R.fb.trans f, fun b z => R.dom b z.1, R.dom0, fun b z => ⟨R.sub b z, fun q => R.dom0 b z (by rw [q]; exact na)⟩, fun j y ej => ?_, fun j l y z w hjl e1 k1 e2 k2 g1 g2 => ?_⟩
  · by_cases q : j = i
    · subst q
      rw [List.getElem?_set_self hi] at ej
      cases ej
      refine ⟨_, h1, ?_⟩
      have c' : OwnC K H (plus (fun b => O b ∧ b ≠ a) a) a d := c.mono (fun _ z => z) (off_anti fun b z => z.elim (fun z => z.1) fun q => by rw [q]; exact oa)
      exact c'.frozen fun z => z.2 rfl
    · rw [List.getElem?_set_ne (Ne.symm q)] at ej
      obtain ⟨v, g1, g2⟩ := R.slot j y ej
      refine ⟨v, g1, ?_⟩
      obtain ⟨d2, k2⟩ := y
      cases k2 with
      | fz => exact Rep.mono f g2
      | ow =>
        obtain ⟨b, eb, ob2, nb2, c2⟩ := g2
        subst eb
        have hne : b ≠ a := fun z => by subst z; exact R.sep j i _ _ _ q ej rfl e rfl g1 h1
        exact ⟨b, rfl, ⟨ob2, hne⟩, nb2, c2.mono (fun _ z => z) f⟩
      | bo => exact g2
      | al => exact g2
  · have q1 : j ≠ i := fun q => by subst q; rw [List.getElem?_set_self hi] at e1; cases e1; cases k1
    have q2 : l ≠ i := fun q => by subst q; rw [List.getElem?_set_self hi] at e2; cases e2; cases k2
    rw [List.getElem?_set_ne (Ne.symm q1)] at e1
    rw [List.getElem?_set_ne (Ne.symm q2)] at e2
    exact R.sep j l y z w hjl e1 k1 e2 k2 g1 g2
end
end FK
namespace FK
open PySem PySem.Spec L2
open PyProof.Rows hiding St

section
variable {X : Cx} {E : XK} {e a b c : Expr} {es : List Expr} {st : Stmt} {rest s1 s2 sts : List Stmt} {p pa pb pk pv : Env → R DV} {pt : Env → R Bool} {pl : Env → R (List DV)} {m m1 m2 : Env → SO} {pos pos' : Pos} {k i j : Nat} {x : Str}
/-! ### x = e -/
def setS (i : Nat) (ρ : Env) (x : DV) : SO := match slotK x with | some y => .nx (ρ.set i (some y)) | none => .no
abbrev sSet (i : Nat) (p : Env → R DV) : Env → SO := fun ρ => (p ρ).st (setS i ρ)
/-- behind a value comes its store -/
theorem setS_nx {B F H H' : Hp} {O0 O : Own} {σ : L2.St} {ρ : Env} {D : Ends} {x : DV} {v : V} (R : SR X.K B F O0 H O σ ρ) (s : Same H H') (o : Out X.K B O0 H H' O v x) (h : EndsOk X.K X.mg B F O0 D E (setS i ρ x)) : D.nx (σ.set i (some v)) H' := by
  unfold setS at h
  cases q : slotK x with
  | none => rw [q] at h; exact h.elim
  | some y =>
    rw [q] at h
    obtain ⟨O', R'⟩ := R.store (i := i) s o q
    exact h _ H' O' R'
theorem ds_set (i : Nat) (he : DE X E e p) (hN : X.N.Nodup) (hi : X.N[i]? = some x) (hx : Loc X.env.scope x) (hs : swapsWith e (some (.Name x pos')) pos.line X.env = pure false := by rfl) (hf : X.fn x = true ∨ X.env.scope.names.lookup x = some .local := by first | exact .inl rfl | exact .inr rfl | assumption) :
    DS X E (.Assign [.Name x pos'] e pos) (sSet i p) := by
  obtain ⟨t, a1, a2⟩ := he.ex
  refine ⟨_, ps_set hN hi hx a1 hs hf, fun B F O0 H O σ ρ D R h => ?_⟩
  exact ev_st (Q := fun v H1 => D.nx (σ.set i (some v)) H1) R.base R.sub (a2 B F O0 H O σ ρ R) h fun x v H1 ex s1 r1 h1 => setS_nx R s1 r1 h1
/-- (ghost) a slot goes to the frozen part -/
def frzS (i : Nat) (ρ : Env) : Env := match ρ[i]? with | some (some (d, .ow)) => ρ.set i (some (d, .fz)) | _ => ρ
theorem frz_sr {B F H : Hp} {O0 O : Own} {σ : L2.St} {ρ : Env} (i : Nat) (R : SR X.K B F O0 H O σ ρ) : ∃ O', SR X.K B F O0 H O' σ (frzS i ρ) := by
  unfold frzS
  split
  · rename_i d e
    exact R.freeze e
  · exact ⟨O, R⟩
theorem ds_frz (i : Nat) (h : DS X E st m) : DS X E st (fun ρ => m (frzS i ρ)) := by
  obtain ⟨t, a1, a2⟩ := h.ex
  refine ⟨t, a1, fun B F O0 H O σ ρ D R h => ?_⟩
  obtain ⟨O', R'⟩ := frz_sr i R
  exact a2 B F O0 H O' σ _ D R' h
/-! ### x.m(..), x a local's own list -/
def methS (g : List D → List DV → Option (List D)) (i : Nat) (pl : Env → R (List DV)) (ρ : Env) : SO := match ρ[i]? with
  | some (some (.lst xs, .ow)) => (pl ρ).st fun ys => match g xs ys with | some zs => .nx (ρ.set i (some (.lst zs, .ow))) | none => .no
  | _ => .no
theorem ds_meth {call : Expr} {r : V → List V → Hp → VK → Prop} {g : List D → List DV → Option (List D)} (i : Nat) (ha : DA X E es pl) (mk : ∀ ta, PA X es ta → PE X call (tBM X.K "list" r (tVar i) ta))
    (hg : ∀ (B H0 H : Hp) (O0 O : Own) (a : Addr) (vs : List V) (xs zs : List D) (ys : List DV) (ws : List V), H a = some (.lst vs) → RepL X.K (off O H) vs xs → OutL X.K B O0 H0 H O ys ws → g xs ys = some zs → ∃ us, RepL X.K (off O H) us zs ∧ ∀ Q : VK, (∀ v, Q v (upd H a (.lst us))) → r (.ref a) ws H Q)
    (hs : swapsWith call none pos.line X.env = pure false := by rfl) : DS X E (.Expr call pos) (methS g i pl) := by
  obtain ⟨t, a1, a2⟩ := ha.ex
  refine ⟨_, ps_expr (mk t a1) hs, fun B F O0 H O σ ρ D R h => ?_⟩
  unfold methS at h
  split at h
  · rename_i xs e
    obtain ⟨v, h1, a, ea, oa, na, vs, c1, c2⟩ := R.slot i _ e
    subst ea
    refine ⟨.ref a, h1, .inl ⟨rfl, vs, SqL.of c1⟩, ?_⟩
    refine ev_st (Q := fun ws H1 => r (.ref a) ws H1 fun _ H2 => D.nx σ H2) R.base R.sub (a2 B F O0 H O σ ρ R) h fun ys ws H1 ex s1 r1 h1' => ?_
    cases q : g xs ys with
    | none => simp only [q] at h1'; exact h1'.elim
    | some zs =>
      simp only [q] at h1'
      obtain ⟨us, g1, g2⟩ := hg B H H1 O0 O a vs xs zs ys ws (s1 _ _ c1) (c2.mono (off_mono s1)) r1 q
      refine g2 _ fun _ => h1' σ _ O ((R.more s1).write e h1 ⟨us, upd_same, ?_⟩)
      rw [off_upd oa]
      exact g1
  · exact h.elim
def keep1 : DV → Option D | (d, .fz) => some d | (d, .ow) => some d | _ => none
theorem Out.keep {K : PySem.W.Frag} {B H0 H : Hp} {O0 O : Own} {x : DV} {v : V} {d : D} (h : Out K B O0 H0 H O v x) (e : keep1 x = some d) : Rep K (off O H) v d := by
  obtain ⟨d', k⟩ := x
  cases k with
  | fz => cases e; exact h
  | ow => cases e; exact h.fzD
  | bo => cases e
  | al => cases e
def gAppend (xs : List D) : List DV → Option (List D) | [y] => if xs.length < sizeLine then (keep1 y).map fun d => xs ++ [d] else none | _ => none
theorem hg_append (B H0 H : Hp) (O0 O : Own) (a : Addr) (vs : List V) (xs zs : List D) (ys : List DV) (ws : List V) (ha : H a = some (.lst vs)) (hr : RepL X.K (off O H) vs xs) (ho : OutL X.K B O0 H0 H O ys ws) (hg : gAppend xs ys = some zs) :
    ∃ us, RepL X.K (off O H) us zs ∧ ∀ Q : VK, (∀ v, Q v (upd H a (.lst us))) → rAppend (.ref a) ws H Q := by
  cases ho with
  | nil => cases hg
  | cons o r =>
    rename_i x xs' v vs'
    cases r with
    | nil =>
      unfold gAppend at hg
      dsimp only at hg
      split at hg
      · rename_i z
        cases q : keep1 x with
        | none => rw [q] at hg; cases hg
        | some d =>
          rw [q] at hg
          cases hg
          rw [← hr.length] at z
          exact ⟨vs ++ [v], hr.append (.cons (o.keep q) .nil), fun Q hQ => ⟨a, vs, v, rfl, rfl, ha, z, hQ _⟩⟩
      · cases hg
    | cons _ _ => cases hg
theorem ds_append (i : Nat) {apos cpos : Pos} (hp : PE X (.Name x pos') (tVar i)) (he : DE X E e p)
    (hbase : attributeBase (.Name x pos') "append" X.env (eval (.Name x pos') X.env) = eval (.Name x pos') X.env := by rfl)
    (hfew : ((backTo cpos (starEach [e] X.env)).all (fun x => !x.1) && (backToKw cpos (keywordEach [] X.env)).all (fun x => x.1.isSome)
      && decide ([e].length + ([] : List Keyword).length + (if ([] : List Keyword).isEmpty then 0 else 1) < 30)) = true := by rfl)
    (hline : (apos.endLine == cpos.line) = true := by rfl) (hs : starEach [e] X.env = (false, eval e X.env) :: starEach [] X.env := by rfl) (hplain : (backTo cpos (starEach [] X.env)).any (·.1) = false := by rfl)
    (hsw : swapsWith (.Call (.Attribute (.Name x pos') "append" apos) [e] [] cpos) none pos.line X.env = pure false := by rfl) :
    DS X E (.Expr (.Call (.Attribute (.Name x pos') "append" apos) [e] [] cpos) pos) (methS gAppend i (fun ρ => (p ρ).bind fun x => (R.ok []).bind fun xs => .ok (x :: xs))) :=
  ds_meth i (da_cons he da_nil hs) (fun ta h => pe_bm PySem.F.plainAttrs_list PySem.F.slot_list_append PySem.F.type_list_append mt_append hp h hbase hfew hline hs hplain) hg_append hsw
def gInsert (xs : List D) : List DV → Option (List D)
  | [(.int n, _), y] => if xs.length < sizeLine ∧ 0 ≤ n ∧ n < 2 ^ 63 then (keep1 y).map fun d => xs.take n.toNat ++ [d] ++ xs.drop n.toNat else none
  | _ => none
def rInsertG : V → List V → Hp → VK → Prop := fun x vs H Q => ∃ (l : Addr) (xs : List V) (i : Int) (y : V), x = .ref l ∧ vs = [.int i, y] ∧ H l = some (.lst xs) ∧ xs.length < sizeLine ∧ 0 ≤ i ∧ i < 2 ^ 63 ∧
    Q .non (upd H l (.lst (xs.take i.toNat ++ [y] ++ xs.drop i.toNat)))
theorem hg_insert (B H0 H : Hp) (O0 O : Own) (a : Addr) (vs : List V) (xs zs : List D) (ys : List DV) (ws : List V) (ha : H a = some (.lst vs)) (hr : RepL X.K (off O H) vs xs) (ho : OutL X.K B O0 H0 H O ys ws) (hg : gInsert xs ys = some zs) :
    ∃ us, RepL X.K (off O H) us zs ∧ ∀ Q : VK, (∀ v, Q v (upd H a (.lst us))) → rInsertG (.ref a) ws H Q := by
  match ys, ho, hg with
  | [], _, hg => cases hg
  | [_], _, hg => simp [gInsert] at hg
  | [(d1, k1), y], .cons o (.cons o2 .nil), hg =>
    cases d1 <;> first | (simp [gInsert] at hg; done) | skip
    rename_i n
    unfold gInsert at hg
    dsimp only at hg
    split at hg
    · rename_i z
      cases q : keep1 y with
      | none => rw [q] at hg; cases hg
      | some d =>
        rw [q] at hg
        cases hg
        rw [← hr.length] at z
        cases o.int
        exact ⟨_, ((hr.take n.toNat).append (.cons (o2.keep q) .nil)).append (hr.drop n.toNat), fun Q hQ => ⟨a, vs, n, _, rfl, rfl, ha, z.1, z.2.1, z.2.2, hQ _⟩⟩
    · cases hg
  | _ :: _ :: _ :: _, _, hg => simp [gInsert] at hg
theorem ds_insert (i : Nat) {e' : Expr} {apos cpos : Pos} (hp : PE X (.Name x pos') (tVar i)) (he : DE X E e p) (he' : DE X E e' pa)
    (hbase : attributeBase (.Name x pos') "insert" X.env (eval (.Name x pos') X.env) = eval (.Name x pos') X.env := by rfl)
    (hfew : ((backTo cpos (starEach [e, e'] X.env)).all (fun x => !x.1) && (backToKw cpos (keywordEach [] X.env)).all (fun x => x.1.isSome)
      && decide ([e, e'].length + ([] : List Keyword).length + (if ([] : List Keyword).isEmpty then 0 else 1) < 30)) = true := by rfl)
    (hline : (apos.endLine == cpos.line) = true := by rfl) (hs : starEach [e, e'] X.env = (false, eval e X.env) :: starEach [e'] X.env := by rfl) (hs2 : starEach [e'] X.env = (false, eval e' X.env) :: starEach [] X.env := by rfl) (hplain : (backTo cpos (starEach [e'] X.env)).any (·.1) = false := by rfl)
    (hsw : swapsWith (.Call (.Attribute (.Name x pos') "insert" apos) [e, e'] [] cpos) none pos.line X.env = pure false := by rfl) :
    DS X E (.Expr (.Call (.Attribute (.Name x pos') "insert" apos) [e, e'] [] cpos) pos) (methS gInsert i (fun ρ => (p ρ).bind fun x => ((pa ρ).bind fun x => (R.ok []).bind fun xs => R.ok (x :: xs)).bind fun xs => .ok (x :: xs))) :=
  ds_meth i (da_cons he (da_cons he' da_nil hs2) hs) (fun ta h => pe_bm PySem.F.plainAttrs_list PySem.F.slot_list_insert PySem.F.type_list_insert mt_insert hp h hbase hfew hline hs hplain) hg_insert hsw
/-! ### y = x.pop() -/
def popS (i j : Nat) (ρ : Env) : SO := match ρ[i]? with
  | some (some (.lst xs, .ow)) => (match xs[xs.length - 1]? with | some d => if i = j then .no else .nx ((ρ.set i (some (.lst xs.dropLast, .ow))).set j (some (d, .fz))) | none => .no)
  | _ => .no
theorem RepL.dropLast {K : PySem.W.Frag} {H : Hp} {vs : List V} {ds : List D} (h : RepL K H vs ds) : RepL K H vs.dropLast ds.dropLast := by
  rw [List.dropLast_eq_take, List.dropLast_eq_take, h.length]
  exact h.take _
theorem ds_pop (i j : Nat) {y : Str} {p3 apos cpos : Pos} (hp : PE X (.Name x pos') (tVar i)) (hN : X.N.Nodup) (hj : X.N[j]? = some y) (hy : Loc X.env.scope y)
    (hbase : attributeBase (.Name x pos') "pop" X.env (eval (.Name x pos') X.env) = eval (.Name x pos') X.env := by rfl) (hline : (apos.endLine == cpos.line) = true := by rfl)
    (hs : swapsWith (.Call (.Attribute (.Name x pos') "pop" apos) [] [] cpos) (some (.Name y p3)) pos.line X.env = pure false := by rfl) (hf : X.fn y = true ∨ X.env.scope.names.lookup y = some .local := by first | exact .inl rfl | exact .inr rfl | assumption) :
    DS X E (.Assign [.Name y p3] (.Call (.Attribute (.Name x pos') "pop" apos) [] [] cpos) pos) (popS i j) := by
  refine ⟨_, ps_set hN hj hy (pe_bm0 PySem.F.plainAttrs_list PySem.F.slot_list_pop PySem.F.type_list_pop mt_pop hp hbase hline) hs hf, fun B F O0 H O σ ρ D R h => ?_⟩
  unfold popS at h
  split at h
  · rename_i xs e
    obtain ⟨v, h1, a, ea, oa, na, vs, c1, c2⟩ := R.slot i _ e
    subst ea
    split at h
    · rename_i d ed
      split at h
      · exact h.elim
      · obtain ⟨u, h3, h4⟩ := c2.get ed
        rw [← c2.length] at h3
        refine ⟨.ref a, h1, .inl ⟨rfl, vs, SqL.of c1⟩, a, vs, u, rfl, rfl, c1, h3, ?_⟩
        have R1 := R.write (o := .lst vs.dropLast) (d' := .lst xs.dropLast) e h1 ⟨_, upd_same, by rw [off_upd oa]; exact c2.dropLast⟩
        exact h _ _ O (R1.set (v := u) (x := (d, .fz)) (by show Rep _ _ _ _; rw [off_upd oa]; exact h4) fun z => nomatch z)
    · exact h.elim
  · exact h.elim
/-! ### x[e] = v -/
def putD {κ : Type} [DecidableEq κ] (kvs : List (κ × D)) (k : κ) (v : D) : List (κ × D) := if kvs.any (fun kv => decide (kv.1 = k)) then kvs.map (fun kv => if kv.1 = k then (kv.1, v) else kv) else kvs ++ [(k, v)]
def rSetG : TSet := fun o i v H Q => rSetL o i v H Q ∨ ∃ a H', o = .ref a ∧ DPut H a i v H' ∧ Q H'
theorem set_all {k : Nat} (hr : Room k X.A) : PSet X rSetG := by
  intro pins s σ H o i v ov iv u Q I ro ri rv h
  rcases h with h | ⟨a, H', rfl, g, q⟩
  · exact set_list pins s σ H o i v ov iv u Q I ro ri rv h
  · cases ro
    exact d_setItem (hu_of hr) I g ri rv fun s4 I4 => ⟨H', I4, q⟩
def putS (i : Nat) (ρ : Env) (d : D) (v k : DV) : SO := match keep1 v with
  | none => .no
  | some x => (match d with
    | .lst xs => (match k.1 with | .int n => (match ixN xs.length n with | some j => .nx (ρ.set i (some (.lst (xs.set j x), .ow))) | none => .no) | _ => .no)
    | .dk kvs => (match keyD k.1 with | some key => if kvs.length < sizeLine then .nx (ρ.set i (some (.dk (putD kvs key x), .ow))) else .no | none => .no)
    | .dt kvs => (match k.2 with | .fz => (match keysD k.1 with | some key => if kvs.length < sizeLine then .nx (ρ.set i (some (.dt (putD kvs key x), .ow))) else .no | none => .no) | _ => .no)
    | _ => .no)
theorem RepK.any {K : PySem.W.Frag} {H : Hp} (k : Key) : ∀ {vs : List (Key × V)} {ds : List (Key × D)}, RepK K H vs ds → (vs.any fun kv => decide (kv.1 = k)) = ds.any fun kv => decide (kv.1 = k)
  | _, _, .nil => rfl
  | _, _, .cons a b => by rw [List.any_cons, List.any_cons, RepK.any k b]
theorem RepK.rpl {K : PySem.W.Frag} {H : Hp} (k : Key) {v : V} {d : D} (h : Rep K H v d) : ∀ {vs : List (Key × V)} {ds : List (Key × D)}, RepK K H vs ds → RepK K H (vs.map fun kv => if kv.1 = k then (kv.1, v) else kv) (ds.map fun kv => if kv.1 = k then (kv.1, d) else kv)
  | _, _, .nil => .nil
  | _, _, .cons (k := k') a b => by
    rw [List.map_cons, List.map_cons]
    by_cases e : k' = k
    · rw [if_pos e, if_pos e]; exact .cons h (RepK.rpl k h b)
    · rw [if_neg e, if_neg e]; exact .cons a (RepK.rpl k h b)
theorem RepK.append {K : PySem.W.Frag} {H : Hp} : ∀ {vs ws : List (Key × V)} {ds es : List (Key × D)}, RepK K H vs ds → RepK K H ws es → RepK K H (vs ++ ws) (ds ++ es)
  | _, _, _, _, .nil, h => h
  | _, _, _, _, .cons a b, h => .cons a (RepK.append b h)
theorem RepK.put {K : PySem.W.Frag} {H : Hp} {vs : List (Key × V)} {ds : List (Key × D)} {v : V} {d : D} (r : RepK K H vs ds) (k : Key) (h : Rep K H v d) : RepK K H (putK vs k v) (putD ds k d) := by
  unfold putK putD
  rw [r.any k]
  split
  · exact r.rpl k h
  · exact r.append (.cons h .nil)
theorem RepT.length {K : PySem.W.Frag} {H : Hp} : ∀ {v : List (List Key × V)} {d : List (List Key × D)}, RepT K H v d → v.length = d.length
  | _, _, .nil => rfl
  | _, _, .cons _ b => congrArg (· + 1) (RepT.length b)
theorem RepT.any {K : PySem.W.Frag} {H : Hp} (k : List Key) : ∀ {vs : List (List Key × V)} {ds : List (List Key × D)}, RepT K H vs ds → (vs.any fun kv => decide (kv.1 = k)) = ds.any fun kv => decide (kv.1 = k)
  | _, _, .nil => rfl
  | _, _, .cons a b => by rw [List.any_cons, List.any_cons, RepT.any k b]
theorem RepT.rpl {K : PySem.W.Frag} {H : Hp} (k : List Key) {v : V} {d : D} (h : Rep K H v d) : ∀ {vs : List (List Key × V)} {ds : List (List Key × D)}, RepT K H vs ds → RepT K H (vs.map fun kv => if kv.1 = k then (kv.1, v) else kv) (ds.map fun kv => if kv.1 = k then (kv.1, d) else kv)
  | _, _, .nil => .nil
  | _, _, .cons (k := k') a b => by
    rw [List.map_cons, List.map_cons]
    by_cases e : k' = k
    · rw [if_pos e, if_pos e]; exact .cons h (RepT.rpl k h b)
    · rw [if_neg e, if_neg e]; exact .cons a (RepT.rpl k h b)
theorem RepT.append {K : PySem.W.Frag} {H : Hp} : ∀ {vs ws : List (List Key × V)} {ds es : List (List Key × D)}, RepT K H vs ds → RepT K H ws es → RepT K H (vs ++ ws) (ds ++ es)
  | _, _, _, _, .nil, h => h
  | _, _, _, _, .cons a b, h => .cons a (RepT.append b h)
theorem RepT.put {K : PySem.W.Frag} {H : Hp} {vs : List (List Key × V)} {ds : List (List Key × D)} {v : V} {d : D} (r : RepT K H vs ds) (k : List Key) (h : Rep K H v d) : RepT K H (putK vs k v) (putD ds k d) := by
  unfold putK putD
  rw [r.any k]
  split
  · exact r.rpl k h
  · exact r.append (.cons h .nil)
abbrev sPut (i : Nat) (pv pk : Env → R DV) : Env → SO := fun ρ => (pv ρ).st fun v => match ρ[i]? with
  | some (some (d, .ow)) => (pk ρ).st fun k => putS i ρ d v k
  | _ => .no
theorem ds_put {n : Nat} (i : Nat) (hr : Room n X.A) {v key : Expr} {p2 : Pos} (hp : PE X (.Name x p2) (tVar i)) (hk : DE X E key pk) (hv : DE X E v pv)
    (ha : ∀ u, assign (.Subscript (.Name x p2) key pos') X.env u = (do
      let ov ← holding [u] (eval (.Name x p2) X.env)
      let iv ← holding [u, ov] (eval key X.env)
      standAt pos'
      holding [u, ov, iv] (setItem ov iv u)
      release [u, ov, iv] []) := by intro _; rfl)
    (hs : swapsWithSole [.Subscript (.Name x p2) key pos'] v pos.line X.env = pure false := by rfl) (hw : swappedStores [.Subscript (.Name x p2) key pos'] v X.env = pure none := by rfl)
    (h1 : (assignEach [.Subscript (.Name x p2) key pos'] X.env).map (·.2) = [assign (.Subscript (.Name x p2) key pos') X.env] := by rfl) :
    DS X E (.Assign [.Subscript (.Name x p2) key pos'] v pos) (sPut i pv pk) := by
  obtain ⟨t, a1, a2⟩ := hv.ex
  obtain ⟨u, b1, b2⟩ := hk.ex
  refine ⟨_, ps_asg a1 (pg_sub hp b1 (set_all hr) ha) hs hw h1, fun B F O0 H O σ ρ D R h => ?_⟩
  refine ev_st (Q := fun v H1 => gSub (tVar i) u rSetG v σ H1 D.nx) R.base R.sub (a2 B F O0 H O σ ρ R) h fun x v H1 ex s1 r1 h1 => ?_
  have R1 := R.more s1
  split at h1
  · rename_i dd e
    obtain ⟨w, g1, a, ea, oa, na, c⟩ := R1.slot i _ e
    subst ea
    refine ⟨.ref a, g1, ?_⟩
    refine ev_st (Q := fun kx H2 => rSetG (.ref a) kx v H2 fun H3 => D.nx σ H3) R1.base R1.sub (b2 B F O0 H1 O σ ρ R1) h1 fun y kx H2 ex2 s2 r2 h2 => ?_
    have R2 := R1.more s2
    unfold putS at h2
    cases qv : keep1 x with
    | none => simp only [qv] at h2; exact h2.elim
    | some d =>
      simp only [qv] at h2
      have rv : Rep X.K (off O H2) v d := Rep.mono (off_mono s2) (r1.keep qv)
      cases dd <;> first | exact h2.elim | skip
      · rename_i xs
        obtain ⟨vs, c1, c2⟩ := c
        obtain ⟨d2, k2⟩ := y
        cases d2 <;> first | exact h2.elim | skip
        rename_i n'
        cases Out.int r2
        cases q : ixN xs.length n' with
        | none => simp only [q] at h2; exact h2.elim
        | some j =>
          simp only [q] at h2
          refine .inl ⟨a, vs, n', j, rfl, rfl, s2 _ _ c1, by rw [c2.length]; exact q, ?_⟩
          refine h2 σ _ O (R2.write e g1 ⟨_, upd_same, ?_⟩)
          rw [off_upd oa]
          exact (c2.mono (off_mono s2)).set j rv
      · rename_i kvs
        obtain ⟨vs, c1, c2⟩ := c
        obtain ⟨d2, k2⟩ := y
        cases q : keyD d2 with
        | none => simp only [q] at h2; exact h2.elim
        | some key =>
          simp only [q] at h2
          split at h2
          · rename_i hl
            have ek := keyD_out q r2
            subst ek
            rw [← c2.length] at hl
            refine .inr ⟨a, _, rfl, DPut.k (s2 _ _ c1) hl, ?_⟩
            refine h2 σ _ O (R2.write e g1 ⟨_, upd_same, ?_⟩)
            rw [off_upd oa]
            exact (c2.mono (off_mono s2)).put key rv
          · exact h2.elim
      · rename_i kvs
        obtain ⟨vs, c1, c2⟩ := c
        obtain ⟨d2, k2⟩ := y
        cases k2 <;> first | exact h2.elim | skip
        cases q : keysD d2 with
        | none => simp only [q] at h2; exact h2.elim
        | some key =>
          simp only [q] at h2
          split at h2
          · rename_i hl
            obtain ⟨b, rfl, eb⟩ := keysD_out q r2
            rw [← c2.length] at hl
            refine .inr ⟨a, _, rfl, DPut.t (s2 _ _ c1) eb hl, ?_⟩
            refine h2 σ _ O (R2.write e g1 ⟨_, upd_same, ?_⟩)
            rw [off_upd oa]
            exact (c2.mono (off_mono s2)).put key rv
          · exact h2.elim
  · exact h1.elim
end
end FK
/-! enumerate(tuple) -/
namespace PySem
open Sem (wp)
open Builtin Builtin.Str
set_option maxHeartbeats 1000000 in
theorem fk_enum_newB {v : Value} {o : Obj} {H : Heap → Prop} (B : Begins v o H) :
    Meets (Builtin.«enumerate.__new__» ⟨[.type "enumerate", v], []⟩) (fun _ R s => H s.heap ∧
      R (.ok (.ret (.ref (s.heap.push o).objs.size))) { s with heap := (s.heap.push o).push { cls := .type "enumerate", data := .fields #[.none, .bool false, .ref s.heap.objs.size, rawInt 0, .none, .none] } }) :=
  .of_wp fun prog w A R s h => by
    obtain ⟨hp, g, d, tk, os⟩ := s; obtain ⟨h1, h⟩ := h
    have hsub := sub_enumerate
    have q1 : ∀ {A' : Around} {E : Value → Shared → Prop} {Q : Value → Shared → Prop}, Q (.ref hp.objs.size) ⟨hp.push o, g, d, tk, os⟩ → wpAny (model prog w) A' (pyIter v) Q E ⟨hp, g, d, tk, os⟩ :=
      fun q => B.iter prog w _ _ ⟨hp, g, d, tk, os⟩ _ h1 q
    wp_walk using q1
    refine wpAny_stack_any fun st => wpAny_pure ?_
    split
    · rename_i c _ _ _ _ _
      cases (c == Value.type "enumerate")
      · wp_walk using q1
        exact ⟨_, rfl, h⟩
      · wp_walk using q1
        exact ⟨_, rfl, h⟩
    · wp_walk using q1
      exact ⟨_, rfl, h⟩
end PySem
namespace FK
open PySem PySem.Spec L2
open PyProof.Rows hiding St
section
variable {prog : Program} {w : World} {A : Around} {E : Value → Shared → Prop} {s : Shared}
theorem enum_tuple {l : Addr} {items : Array Value} {Q : Value → Shared → Prop} (hL : s.heap.IsTuple l items)
    (h : ∀ h', IsEnum h' (s.heap.objs.size + 1) s.heap.objs.size 0 .none → h'.IsTupleIter s.heap.objs.size l 0 → h'.objs.size = s.heap.objs.size + 2 →
      (∀ b o, s.heap.get? b = some o → h'.get? b = some o) → Q (.ref (s.heap.objs.size + 1)) { s with heap := h' }) :
    wpAny (model prog w) A (call (.type "enumerate") [.ref l]) Q E s := by
  refine callType_new F.called_enumerate (by decide) (F.typeCall_enumerate_1 _) (F.newCall_enumerate_1 _) (fun obj => F.args_object_init_2 obj _) F.entry_enumerate_new
    (fk_enum_newB (begins_tuple l items)) ⟨hL, ?_⟩
  have hz : (s.heap.push { cls := .type "tuple_iterator", data := .fields #[.ref l, .int 0 0] }).objs.size = s.heap.objs.size + 1 := Heap.size_push ..
  show _ ∧ _
  rw [hz]
  have he : IsEnum ((s.heap.push { cls := .type "tuple_iterator", data := .fields #[.ref l, .int 0 0] }).push
      { cls := .type "enumerate", data := .fields #[.none, .bool false, .ref s.heap.objs.size, rawInt 0, .none, .none] }) (s.heap.objs.size + 1) s.heap.objs.size 0 .none := by
    have := Heap.get?_push_size (s.heap.push { cls := .type "tuple_iterator", data := .fields #[.ref l, .int 0 0] })
      (o := { cls := .type "enumerate", data := .fields #[.none, .bool false, .ref s.heap.objs.size, rawInt 0, .none, .none] }) rfl
    rw [hz] at this; exact this
  refine ⟨⟨_, he, rfl⟩, h _ he ⟨_, Heap.get?_push_of_some _ (Heap.get?_push_size _ rfl), rfl, rfl⟩ (by rw [Heap.size_push, hz]) fun b o x => Heap.get?_push_of_some _ (Heap.get?_push_of_some _ x)⟩
end
def IteT (K : PySem.W.Frag) (a : Addr) : It :=
  ⟨fun i H => ∃ (xs : List V) (x : V), SqT K H a xs ∧ xs[i]? = some x, fun i H v H' => ∃ T x, v = .ref T ∧ H T = none ∧ H' = upd H T (.tup [.int (i : Nat), x]) ∧ ∀ xs, SqT K H a xs → xs[i]? = some x, fun i H => ∃ xs : List V, SqT K H a xs ∧ xs.length ≤ i⟩
theorem turn_enumT {P : Program} {w : World} {K : PySem.W.Frag} {elts : List Expr} {kk : Nat} {tpos : Pos} (a e it : Addr) :
    Turn P w K (.Tuple elts kk tpos) (IteT K a) [e, it] e (fun i h => (∃ old, IsEnum h e it ((i : Nat) : Int) old) ∧ h.IsTupleIter it a i ∧ e ≠ it) where
  mem := by simp
  obj := fun i h st b hb => by
    obtain ⟨⟨old, he⟩, ⟨o, ho, hc, hd⟩, _⟩ := st
    have e' : b = e ∨ b = it := by simpa using hb
    rcases e' with z | z
    · rw [z]; exact ⟨_, he, fun v q => nomatch q⟩
    · rw [z]; exact ⟨o, ho, fun v q => by rw [hd] at q; cases q⟩
  keep := fun i h h' st k => let ⟨⟨old, he⟩, hi, hne⟩ := st; ⟨⟨old, k e (by simp) _ he⟩, hi.at fun o q => k it (by simp) o q, hne⟩
  item := by
    intro X hP hw hK hc i pins s σ H E I hf st hg
    subst hP hw hK
    obtain ⟨⟨old, he⟩, hit, hne⟩ := st
    obtain ⟨xs, x, hq, hx⟩ := hg
    obtain ⟨its, rv, p, hz⟩ := I.tuple hq
    obtain ⟨u, hu, ru⟩ := rv.get hx
    have hel : e < s.heap.objs.size := Heap.lt_size he
    have hil : it < s.heap.objs.size := by obtain ⟨_, q, _⟩ := hit; exact Heap.lt_size q
    have ptup : s.heap.IsTuple a its.toArray := p
    have hai : a ≠ it := by
      rintro rfl
      obtain ⟨o, ho, hc', _⟩ := id hit
      obtain ⟨o2, ho2, hc2, _⟩ := id ptup
      rw [ho] at ho2; cases ho2; rw [hc'] at hc2; simp at hc2
    have hae : a ≠ e := by
      rintro rfl
      obtain ⟨o2, ho2, hc2, _⟩ := id ptup
      rw [show s.heap.get? a = some _ from he] at ho2; cases ho2; simp at hc2
    refine wpAny_pyNext_enum_itemD (Draws.tuple (prog := X.prog) (w := X.w) (A := X.A.in1) (show X.A.in1.handled = none from I.ok.hd hc) it a hai its.toArray) he ⟨hit, ptup⟩ (i := i) (by
      have := (List.getElem?_eq_some_iff.mp hu).1
      simpa using this) hne (by simp; exact ⟨hne, hae.symm⟩) fun u' h' tk hu' ho st' hT hsz hk => ?_
    have hu'' : u' = u := by
      have h1 : its.toArray[i]? = some u := by simpa using hu
      rw [h1] at hu'
      exact (Option.some.inj hu').symm
    subst hu''
    refine ⟨_, rfl, wpAny_letOwnedTupleGo_enum (s := { s with heap := h', toks := tk + 1 }) ho fun h'' he' sb => ?_⟩
    have hT2 : h''.get? s.heap.objs.size = some { cls := .type "tuple", data := .seq #[.int i tk, u'] } := (sb.2 _ (Nat.ne_of_gt hel)).trans hT
    have new : ObjOk X.prog X.w (upd H s.heap.objs.size (.tup [.int (i : Nat), x])) h'' s.heap.objs.size (.tup [.int (i : Nat), x]) :=
      ⟨by show 2 ≤ sizeLine; decide, [.int i tk, u'], .cons ⟨_, rfl⟩ (.cons ru .nil), ⟨_, hT2, rfl, _, rfl⟩⟩
    have I1 : Inv X pins σ (upd H s.heap.objs.size (.tup [.int (i : Nat), x])) { s with heap := h'', toks := tk + 1 } :=
      I.turnedNew (ch := [e, it]) (fun b ob hb q => (sb.2 b (fun z => hb (by simp [z]))).trans (hk b ob (fun z => hb (by simp [z])) (fun z => hb (by simp [z])) q)) hf (Nat.le_refl _) new
    refine ⟨.ref s.heap.objs.size, _, I1, rfl, ⟨_, x, rfl, I.hok.fresh (Nat.le_refl _), rfl, fun ys hy => by rw [I.tuple_inj hy hq]; exact hx⟩, ⟨⟨u', ?_⟩, st'.1.at fun o q => (sb.2 it (Ne.symm hne)).trans q, hne⟩, fun b hb => ?_⟩
    · have e1 : ((i + 1 : Nat) : Int) = (i : Int) + 1 := by omega
      rw [e1]; exact he'
    · have hb' : b < s.heap.objs.size := by
        have e' : b = e ∨ b = it := by simpa using hb
        rcases e' with z | z
        · rw [z]; exact hel
        · rw [z]; exact hil
      rw [upd_ne (Nat.ne_of_lt hb')]
      exact (hf b hb).1
  done := by
    intro X hP hw hK hc i pins s σ H E I hf st hg
    subst hP hw hK
    obtain ⟨⟨old, he⟩, hit, hne⟩ := st
    obtain ⟨xs, hq, hx⟩ := hg
    obtain ⟨its, rv, p, hz⟩ := I.tuple hq
    obtain ⟨f0, f1, f2, f3, f4, f5⟩ := hf it (by simp)
    have hl := rv.length
    have ptup : s.heap.IsTuple a its.toArray := p
    have hT : s.TypeIs (.ref e) "enumerate" := ⟨_, he, rfl⟩
    unfold pyNext
    refine wpAny_bind (wpAny_attempt (wpAny_callSpecial?_slot (name := Str.ofString "__next__") hT F.slot_enumerate_next
      (wpAny_call_entry F.slot_enumerate_next hT F.entry_enumerate_next ?_ (F.args_enumerate_next_1 _))))
    show wpAny _ _ (field (.ref e) 2 >>= _) _ _ _
    refine wpAny_bind (wpAny_field he rfl (x := .ref it) rfl ?_)
    refine wpAny_bind (wpAny_nextOf_tuple_end (show X.A.in1.handled = none from I.ok.hd hc) hit ptup (by simp; omega) fun h' x he' hx' => ?_)
    obtain ⟨o, ho, hc⟩ := hx'
    refine wpAny_bind (wpAny_isInstance (T := "StopIteration") (b := true) ⟨o, ho, hc⟩ isSubtype_stop ?_)
    exact wpAny_pure ⟨rfl, I.turned (t' := s.toks) (fun b o hb q => he' b o hb q) f0 f1 f3 f4 f5⟩
  self := fun A i s Q E st h => let ⟨⟨_, he⟩, _⟩ := st; wpAny_pyIter_enum he h
def iEnumA (K : PySem.W.Frag) (ta : TA) : TI := fun σ H R => ta σ H fun vs H1 => ∃ a xs, vs = [.ref a] ∧ ((SqL K H1 a xs ∧ R (Ite K a) H1) ∨ (SqT K H1 a xs ∧ R (IteT K a) H1))
theorem pi_enumA {X : Cx} {e : Expr} {ta : TA} {p pos tpos : Pos} {elts : List Expr} {kk : Nat} (hg : Gl X "enumerate") (hm : X.mg "enumerate" = none) (ha : PA X [e] ta) (hs : starEach [e] X.env = [(false, eval e X.env)] := by rfl) :
    PI X (.Tuple elts kk tpos) (.Call (.Name "enumerate" p) [e] [] pos) (iEnumA X.K ta) := by
  refine ⟨fun pins s σ H R I h => ?_⟩
  refine Call_ (ld_blt I hg hm boot_enumerate (PyProof.Rows.callWith_type1 (thn (ha.run pos pins s σ H _ I h) fun us s1 ⟨vs, H1, I1, r1, q1⟩ => ?_) hs rfl))
  obtain ⟨a, xs, ex, hq⟩ := q1
  subst ex
  cases r1 with
  | cons r rr =>
    cases rr
    cases r
    have fp : ∀ b, b ∈ [s1.heap.objs.size + 1, s1.heap.objs.size] → FpOk X pins H1 b := fun b hb => by
      have e' : b = s1.heap.objs.size + 1 ∨ b = s1.heap.objs.size := by simpa using hb
      have hle : s1.heap.objs.size ≤ b := by
        rcases e' with z | z
        · rw [z]; exact Nat.le_add_right _ _
        · rw [z]; exact Nat.le_refl _
      exact I1.fpOk hle (I1.hok.fresh hle)
    rcases hq with ⟨hq, q⟩ | ⟨hq, q⟩
    · obtain ⟨its, rv, p', hz⟩ := I1.list hq
      refine call_enumerate_list p'.isList fun h' he hit hsz hk => wpAny_pyIter_enum he ?_
      have I2 : Inv X pins σ H1 { s1 with heap := h' } := I1.kept (t' := s1.toks) hk
      exact ⟨s1.heap.objs.size + 1, [s1.heap.objs.size + 1, s1.heap.objs.size], _, _, H1, rfl, I2, turn_enum a (s1.heap.objs.size + 1) s1.heap.objs.size, ⟨⟨.none, he⟩, hit, Nat.succ_ne_self _⟩, fp, q⟩
    · obtain ⟨its, rv, p', hz⟩ := I1.tuple hq
      refine enum_tuple (show s1.heap.IsTuple a its.toArray from p') fun h' he hit hsz hk => wpAny_pyIter_enum he ?_
      have I2 : Inv X pins σ H1 { s1 with heap := h' } := I1.kept (t' := s1.toks) hk
      exact ⟨s1.heap.objs.size + 1, [s1.heap.objs.size + 1, s1.heap.objs.size], _, _, H1, rfl, I2, turn_enumT a (s1.heap.objs.size + 1) s1.heap.objs.size, ⟨⟨.none, he⟩, hit, Nat.succ_ne_self _⟩, fp, q⟩
/-- a list, a tuple or a text, whichever it is -/
def iSeq (K : PySem.W.Frag) (tl : TE) : TI := fun σ H R => tl σ H fun x H1 => (∃ a, x = .ref a ∧ (∃ xs, SqL K H1 a xs) ∧ R (Itl K a) H1) ∨ (∃ a, x = .ref a ∧ (∃ xs, SqT K H1 a xs) ∧ R (Itt K a) H1) ∨ (∃ z, x = .str z ∧ R (Its z) H1)
/-- what stands behind the reading of a walked value -/
theorem pi_of {X : Cx} {tg l : Expr} {tl : TE} {w1 : V → Hp → (It → Hp → Prop) → Prop} (hl : PE X l tl)
    (h1 : ∀ (u : V) (pins : List (Addr × Obj)) (s : Shared) (σ : L2.St) (H : Hp) (R : It → Hp → Prop) (v : Value), Inv X pins σ H s → RelV u v → w1 u H R → wpAny (model X.prog X.w) X.A (pyIter v) (PIE X pins σ tg R) X.xe s) : PI X tg l (fun σ H R => tl σ H fun x H1 => w1 x H1 R) := by
  refine ⟨fun pins s σ H R I h => ?_⟩
  exact thn (hl.run pins s σ H _ I h) fun v s1 ⟨x, H1, I1, r1, q1⟩ => h1 x pins s1 σ H1 R v I1 r1 q1
theorem pi_seq {X : Cx} {tg l : Expr} {tl : TE} (hl : PE X l tl) : PI X tg l (iSeq X.K tl) := by
  refine pi_of (w1 := fun x H1 R => (∃ a, x = .ref a ∧ (∃ xs, SqL X.K H1 a xs) ∧ R (Itl X.K a) H1) ∨ (∃ a, x = .ref a ∧ (∃ xs, SqT X.K H1 a xs) ∧ R (Itt X.K a) H1) ∨ (∃ z, x = .str z ∧ R (Its z) H1)) hl fun x pins s1 σ H1 R v I1 r1 q1 => ?_
  rcases q1 with ⟨a, e, ⟨xs, hq⟩, q⟩ | ⟨a, e, ⟨xs, hq⟩, q⟩ | ⟨z, e, q⟩
  · subst e
    cases r1
    obtain ⟨its, rv, p, hz⟩ := I1.list hq
    refine wpAny_pyIter_list p.isList ?_
    refine ⟨s1.heap.objs.size, [s1.heap.objs.size], _, _, H1, rfl, I1.kept (t' := s1.toks) fun b o e => Heap.get?_push_of_some _ e, turn_list a _, ⟨_, Heap.get?_push_size _ rfl, rfl, rfl⟩, fun b hb => ?_, q⟩
    have e : b = s1.heap.objs.size := by simpa using hb
    subst e
    exact I1.fpOk (Nat.le_refl _) (I1.hok.fresh (Nat.le_refl _))
  · subst e
    cases r1
    obtain ⟨its, rv, p, hz⟩ := I1.tuple hq
    refine wpAny_pyIter_tuple (show s1.heap.IsTuple a its.toArray from p) ?_
    refine ⟨s1.heap.objs.size, [s1.heap.objs.size], _, _, H1, rfl, I1.kept (t' := s1.toks) fun b o e => Heap.get?_push_of_some _ e, turn_tuple a _, ⟨_, Heap.get?_push_size _ rfl, rfl, rfl⟩, fun b hb => ?_, q⟩
    have e : b = s1.heap.objs.size := by simpa using hb
    subst e
    exact I1.fpOk (Nat.le_refl _) (I1.hok.fresh (Nat.le_refl _))
  · subst e
    obtain ⟨t, rfl⟩ := r1
    cases ha : z.cps.all (· < 128)
    · exact wpAny_pyIter_wide ha (pi_one (tk := s1.toks) I1 _ (turn_str _ z t "str_iterator" (.inr rfl)) ⟨_, Heap.get?_push_size _ rfl, rfl, rfl⟩ q)
    · exact wpAny_pyIter_ascii ha (pi_one (tk := s1.toks) I1 _ (turn_str _ z t "str_ascii_iterator" (.inl rfl)) ⟨_, Heap.get?_push_size _ rfl, rfl, rfl⟩ q)
end FK
namespace FK
open PySem PySem.Spec L2
open PyProof.Rows hiding St

/-! ### what a loop walks -/
def ItOk (K : PySem.W.Frag) (S Src : Hp) (J : It) (ds : List D) : Prop := ∀ (i : Nat) (H3 : Hp), Same Src H3 →
  (i < ds.length → J.go i H3) ∧ (ds.length ≤ i → J.stop i H3) ∧
  ∀ (x : V) (H4 : Hp) (d : D), J.yld i H3 x H4 → ds[i]? = some d → Same H3 H4 ∧ ∀ O3 : Own, (∀ a, O3 a → H3 a ≠ none) → Same S (off O3 H3) → Rep K (off O3 H4) x d
noncomputable def srcH (B : Hp) (O : Own) (H : Hp) : Kd → Hp | .fz => off O H | .ow => off O H | .bo => B | .al => H
structure DI (X : Cx) (E : XK) (tg iter : Expr) (q : Env → R (List D × Kd)) : Prop where
  ex : ∃ wi, PI X tg iter wi ∧ ∀ (B F : Hp) (O0 : Own) (H : Hp) (O : Own) (σ : L2.St) (ρ : Env), SR X.K B F O0 H O σ ρ → EvG X.K X.mg O E H (q ρ) (fun x J H' => ItOk X.K (off O H') (srcH B O H' x.2) J x.1) (wi σ H)
theorem it_list {K : PySem.W.Frag} {S Src : Hp} {a : Addr} {vs : List V} {ds : List D} (h : SqL K Src a vs) (r : RepL K S vs ds) : ItOk K S Src (Itl K a) ds := fun i H3 s => by
  have hl := r.length
  refine ⟨fun hi => ?_, fun hi => ⟨vs, s.seq h, by omega⟩, fun x H4 d y e => ?_⟩
  · obtain ⟨u, h1, _⟩ := r.get (List.getElem?_eq_getElem hi)
    exact ⟨vs, u, s.seq h, h1⟩
  · obtain ⟨rfl, y⟩ := y
    obtain ⟨u, h1, h2⟩ := r.get e
    have := y vs (s.seq h)
    rw [h1] at this
    cases this
    exact ⟨Same.refl _, fun O3 _ s3 => h2.mono s3⟩
theorem it_tup {K : PySem.W.Frag} {S Src : Hp} {a : Addr} {vs : List V} {ds : List D} (h : SqT K Src a vs) (r : RepL K S vs ds) : ItOk K S Src (Itt K a) ds := fun i H3 s => by
  have hl := r.length
  refine ⟨fun hi => ?_, fun hi => ⟨vs, same_seqT s h, by omega⟩, fun x H4 d y e => ?_⟩
  · obtain ⟨u, h1, _⟩ := r.get (List.getElem?_eq_getElem hi)
    exact ⟨vs, u, same_seqT s h, h1⟩
  · obtain ⟨rfl, y⟩ := y
    obtain ⟨u, h1, h2⟩ := r.get e
    have := y vs (same_seqT s h)
    rw [h1] at this
    cases this
    exact ⟨Same.refl _, fun O3 _ s3 => h2.mono s3⟩
def enumL (n : Nat) : List D → List D | [] => [] | d :: r => .tup [.int n, d] :: enumL (n + 1) r
theorem enumL_length : ∀ (ds : List D) (n : Nat), (enumL n ds).length = ds.length
  | [], _ => rfl
  | d :: r, n => congrArg (· + 1) (enumL_length r (n + 1))
theorem enumL_get : ∀ (ds : List D) (n i : Nat), (enumL n ds)[i]? = ds[i]?.map fun d => .tup [.int ((n + i : Nat) : Int), d]
  | [], n, i => by simp [enumL]
  | d :: r, n, 0 => rfl
  | d :: r, n, i + 1 => by
    show (enumL (n + 1) r)[i]? = r[i]?.map _
    rw [enumL_get r (n + 1) i, show n + 1 + i = n + (i + 1) by omega]
theorem off_newU {O : Own} {H : Hp} {p : Addr} {o : HO} (dom : ∀ a, O a → H a ≠ none) (hp : H p = none) : off O (upd H p o) p = some o := off_of (fun z => dom p z hp) upd_same
theorem rep_pair {K : PySem.W.Frag} {S H3 : Hp} {O3 : Own} {T : Addr} {x y : V} {d e : D} (dom : ∀ a, O3 a → H3 a ≠ none) (s3 : Same S (off O3 H3)) (hT : H3 T = none) (h1 : Rep K S x d) (h2 : Rep K S y e) : Rep K (off O3 (upd H3 T (.tup [x, y]))) (.ref T) (.tup [d, e]) :=
  rep_tup (O := O3) dom hT (.cons (h1.mono s3) (.cons (h2.mono s3) .nil))
theorem it_enum {K : PySem.W.Frag} {S Src : Hp} {a : Addr} {vs : List V} {ds : List D} (h : SqL K Src a vs) (r : RepL K S vs ds) : ItOk K S Src (Ite K a) (enumL 0 ds) := fun i H3 s => by
  have hl := r.length
  rw [enumL_length]
  refine ⟨fun hi => ?_, fun hi => ⟨vs, s.seq h, by omega⟩, fun x H4 d y e => ?_⟩
  · obtain ⟨u, h1, _⟩ := r.get (List.getElem?_eq_getElem hi)
    exact ⟨vs, u, s.seq h, h1⟩
  · obtain ⟨T, z, rfl, hT, rfl, y⟩ := y
    rw [enumL_get] at e
    cases q : ds[i]? with
    | none => rw [q] at e; cases e
    | some d' =>
      rw [q] at e
      cases e
      obtain ⟨u, h1, h2⟩ := r.get q
      have := y vs (s.seq h)
      rw [h1] at this
      cases this
      refine ⟨same_upd hT, fun O3 dom s3 => ?_⟩
      rw [Nat.zero_add]
      exact rep_pair dom s3 hT (.int _) h2
theorem it_enumT {K : PySem.W.Frag} {S Src : Hp} {a : Addr} {vs : List V} {ds : List D} (h : SqT K Src a vs) (r : RepL K S vs ds) : ItOk K S Src (IteT K a) (enumL 0 ds) := fun i H3 s => by
  have hl := r.length
  rw [enumL_length]
  refine ⟨fun hi => ?_, fun hi => ⟨vs, same_seqT s h, by omega⟩, fun x H4 d y e => ?_⟩
  · obtain ⟨u, h1, _⟩ := r.get (List.getElem?_eq_getElem hi)
    exact ⟨vs, u, same_seqT s h, h1⟩
  · obtain ⟨T, z, rfl, hT, rfl, y⟩ := y
    rw [enumL_get] at e
    cases q : ds[i]? with
    | none => rw [q] at e; cases e
    | some d' =>
      rw [q] at e
      cases e
      obtain ⟨u, h1, h2⟩ := r.get q
      have := y vs (same_seqT s h)
      rw [h1] at this
      cases this
      refine ⟨same_upd hT, fun O3 dom s3 => ?_⟩
      rw [Nat.zero_add]
      exact rep_pair dom s3 hT (.int _) h2
def rangeL (lo c : Int) (n : Nat) : List D := (List.range n).map fun i => D.int (lo + (i : Nat) * c)
theorem it_range {K : PySem.W.Frag} {S Src : Hp} (lo c : Int) (n : Nat) : ItOk K S Src (Itc lo c n) (rangeL lo c n) := fun i H3 s => by
  have hl : (rangeL lo c n).length = n := by simp [rangeL]
  rw [hl]
  refine ⟨fun hi => hi, fun hi => hi, fun x H4 d y e => ?_⟩
  obtain ⟨rfl, rfl⟩ := y
  have hi : i < n := by
    have := (List.getElem?_eq_some_iff.mp e).1
    omega
  have : d = .int (lo + (i : Nat) * c) := by
    unfold rangeL at e
    rw [List.getElem?_map, List.getElem?_range hi] at e
    exact (Option.some.inj e).symm
  subst this
  exact ⟨Same.refl _, fun O3 _ _ => .int _⟩
theorem it_range1 {K : PySem.W.Frag} {S Src : Hp} (lo : Int) (n : Nat) : ItOk K S Src (Itr lo n) (rangeL lo 1 n) := fun i H3 s => by
  have hl : (rangeL lo 1 n).length = n := by simp [rangeL]
  rw [hl]
  refine ⟨fun hi => hi, fun hi => hi, fun x H4 d y e => ?_⟩
  obtain ⟨rfl, rfl⟩ := y
  have hi : i < n := by
    have := (List.getElem?_eq_some_iff.mp e).1
    omega
  have : d = .int (lo + (i : Nat) * 1) := by
    unfold rangeL at e
    rw [List.getElem?_map, List.getElem?_range hi] at e
    exact (Option.some.inj e).symm
  subst this
  rw [Int.mul_one]
  exact ⟨Same.refl _, fun O3 _ _ => .int _⟩
section
variable {X : Cx} {E : XK} {tg iter e a b c l elt : Expr} {es : List Expr} {p pa pb pc pe : Env → R DV} {pt : Env → R Bool} {pl : Env → R (List DV)} {pos : Pos} {k : Nat}
/-- a sequence's place and items, where they are known to stay -/
theorem Out.src {B H0 H : Hp} {O0 O : Own} {v : V} {x : DV} {ds : List D} (sb : Same B H) (fb : Same (off O0 B) (off O H)) (h : Out X.K B O0 H0 H O v x) (e : x.1 = .lst ds) : ∃ a vs, v = .ref a ∧ SqL X.K (srcH B O H x.2) a vs ∧ RepL X.K (off O H) vs ds ∧ SqL X.K H a vs := by
  obtain ⟨d, k⟩ := x
  cases (show d = .lst ds from e)
  cases k with
  | fz =>
    cases (show Rep _ _ _ _ from h) with
    | lst h1 h2 => exact ⟨_, _, rfl, h1, h2, Same.seq off_sub h1⟩
  | ow =>
    have hh := Out.fzD h
    obtain ⟨a, ea, na, oa, vs, c1, c2⟩ := h
    exact ⟨a, vs, ea, SqL.of (off_of oa c1), c2.mono (off_anti fun b z => .inl z), SqL.of c1⟩
  | bo =>
    obtain ⟨a, ea, ⟨vs, c1, c2⟩, ⟨ws, c3, c4⟩⟩ := h
    exact ⟨a, vs, ea, c1, c2.mono fb, sb.seq c1⟩
  | al =>
    obtain ⟨a, ea, vs, c1, c2⟩ := h
    exact ⟨a, vs, ea, c1, c2, c1⟩
theorem Out.srcT {B H0 H : Hp} {O0 O : Own} {v : V} {x : DV} {ds : List D} (sb : Same B H) (fb : Same (off O0 B) (off O H)) (h : Out X.K B O0 H0 H O v x) (e : x.1 = .tup ds) : ∃ a vs, v = .ref a ∧ SqT X.K (srcH B O H x.2) a vs ∧ RepL X.K (off O H) vs ds ∧ SqT X.K H a vs := by
  obtain ⟨d, k⟩ := x
  cases (show d = .tup ds from e)
  cases k with
  | fz =>
    cases (show Rep _ _ _ _ from h) with
    | tup h1 h2 => exact ⟨_, _, rfl, SqT.of h1, h2, SqT.of (off_sub _ _ h1)⟩
  | ow =>
    obtain ⟨a, ea, na, oa, c⟩ := h
    exact c.elim
  | bo =>
    obtain ⟨a, ea, ⟨vs, c1, c2⟩, _⟩ := h
    exact ⟨a, vs, ea, c1, c2.mono fb, same_seqT sb c1⟩
  | al =>
    obtain ⟨a, ea, vs, c1, c2⟩ := h
    exact ⟨a, vs, ea, c1, c2, c1⟩
def itemsD (x : DV) : R (List D × Kd) := match x.1 with
  | .lst xs => .ok (xs, x.2)
  | .tup xs => .ok (xs, x.2)
  | .str z => .ok (z.cps.toList.map fun c => .str ⟨#[c]⟩, .fz)
  | _ => .no
theorem it_str {K : PySem.W.Frag} {S Src : Hp} (z : Str) : ItOk K S Src (Its z) (z.cps.toList.map fun c => .str ⟨#[c]⟩) := fun i H3 s => by
  have hl : (z.cps.toList.map fun c => D.str ⟨#[c]⟩).length = z.cps.size := by simp
  rw [hl]
  refine ⟨fun hi => hi, fun hi => hi, fun x H4 d y e => ?_⟩
  obtain ⟨rfl, c, hc, rfl⟩ := y
  have : d = .str ⟨#[c]⟩ := by
    rw [List.getElem?_map, Array.getElem?_toList, hc] at e
    exact (Option.some.inj e).symm
  subst this
  exact ⟨Same.refl _, fun O3 _ _ => .str _⟩
theorem di_seq (hl : DE X E l p) : DI X E tg l (fun ρ => (p ρ).bind itemsD) := by
  obtain ⟨t, a1, a2⟩ := hl.ex
  refine ⟨_, pi_seq a1, fun B F O0 H O σ ρ R => ?_⟩
  refine EvG.bind (T1 := fun x H1 R => (∃ a, x = .ref a ∧ (∃ xs, SqL X.K H1 a xs) ∧ R (Itl X.K a) H1) ∨ (∃ a, x = .ref a ∧ (∃ xs, SqT X.K H1 a xs) ∧ R (Itt X.K a) H1) ∨ (∃ z, x = .str z ∧ R (Its z) H1)) (a2 B F O0 H O σ ρ R) fun x v H1 s1 r1 => ?_
  have R1 := R.more s1
  unfold itemsD
  obtain ⟨d, kk⟩ := x
  cases d <;> first | exact True.intro | skip
  · cases r1.str
    exact fun Q hQ => .inr (.inr ⟨_, rfl, hQ _ _ (Same.refl _) (it_str _)⟩)
  · obtain ⟨a, vs, rfl, h1, h2, h3⟩ := Out.src R1.base R1.fb r1 rfl
    exact fun Q hQ => .inl ⟨a, rfl, ⟨vs, h3⟩, hQ _ _ (Same.refl _) (it_list h1 h2)⟩
  · obtain ⟨a, vs, rfl, h1, h2, h3⟩ := Out.srcT R1.base R1.fb r1 rfl
    exact fun Q hQ => .inr (.inl ⟨a, rfl, ⟨vs, h3⟩, hQ _ _ (Same.refl _) (it_tup h1 h2)⟩)
def enumD (x : DV) : R (List D × Kd) := match x.1 with
  | .lst xs => .ok (enumL 0 xs, x.2)
  | .tup xs => .ok (enumL 0 xs, x.2)
  | _ => .no
theorem di_enum {elts : List Expr} {kk : Nat} {tpos pp : Pos} (hg : Gl X "enumerate") (hm : X.mg "enumerate" = none) (he : DE X E e p) (hs : starEach [e] X.env = [(false, eval e X.env)] := by rfl) (hs1 : starEach [e] X.env = (false, eval e X.env) :: starEach [] X.env := by rfl) :
    DI X E (.Tuple elts kk tpos) (.Call (.Name "enumerate" pp) [e] [] pos) (fun ρ => (p ρ).bind enumD) := by
  obtain ⟨t, a1, a2⟩ := he.ex
  refine ⟨_, pi_enumA hg hm (pa_cons a1 pa_nil hs1) hs, fun B F O0 H O σ ρ R => ?_⟩
  refine EvG.bind (T1 := fun x H1 R => ∃ a xs, [x] = [V.ref a] ∧ ((SqL X.K H1 a xs ∧ R (Ite X.K a) H1) ∨ (SqT X.K H1 a xs ∧ R (IteT X.K a) H1))) (a2 B F O0 H O σ ρ R) fun x v H1 s1 r1 => ?_
  have R1 := R.more s1
  unfold enumD
  obtain ⟨d, kk⟩ := x
  cases d <;> first | exact True.intro | skip
  · obtain ⟨a, vs, rfl, h1, h2, h3⟩ := Out.src R1.base R1.fb r1 rfl
    exact fun Q hQ => ⟨a, vs, rfl, .inl ⟨h3, hQ _ _ (Same.refl _) (it_enum h1 h2)⟩⟩
  · obtain ⟨a, vs, rfl, h1, h2, h3⟩ := Out.srcT R1.base R1.fb r1 rfl
    exact fun Q hQ => ⟨a, vs, rfl, .inr ⟨h3, hQ _ _ (Same.refl _) (it_enumT h1 h2)⟩⟩
def rg1 (x : DV) : R (List D × Kd) := match x.1 with | .int j => if -(2 ^ 62) ≤ j ∧ j < 2 ^ 62 then .ok (rangeL 0 1 j.toNat, .fz) else .no | _ => .no
def rg2 (x y : DV) : R (List D × Kd) := match x.1, y.1 with | .int i, .int j => if -(2 ^ 62) ≤ i ∧ i < 2 ^ 62 ∧ -(2 ^ 62) ≤ j ∧ j < 2 ^ 62 then .ok (rangeL i 1 (j - i).toNat, .fz) else .no | _, _ => .no
theorem di_range1 {pp : Pos} (hg : Gl X "range") (hm : X.mg "range" = none) (he : DE X E e p) (hs : starEach [e] X.env = [(false, eval e X.env)] := by rfl) (hs1 : starEach [e] X.env = (false, eval e X.env) :: starEach [] X.env := by rfl) :
    DI X E tg (.Call (.Name "range" pp) [e] [] pos) (fun ρ => (p ρ).bind rg1) := by
  obtain ⟨t, a1, a2⟩ := he.ex
  refine ⟨_, pi_range1 hg hm (pa_cons a1 pa_nil hs1) hs, fun B F O0 H O σ ρ R => ?_⟩
  refine EvG.bind (T1 := fun x H1 R => ∃ j : Int, [x] = [V.int j] ∧ -(2 ^ 62) ≤ j ∧ j < 2 ^ 62 ∧ R (Itr 0 j.toNat) H1) (a2 B F O0 H O σ ρ R) fun x v H1 s1 r1 => ?_
  unfold rg1
  obtain ⟨d, kk⟩ := x
  cases d <;> first | exact True.intro | skip
  cases Out.int r1
  dsimp only
  split
  · rename_i c
    exact fun Q hQ => ⟨_, rfl, c.1, c.2, hQ _ _ (Same.refl _) (it_range1 0 _)⟩
  · trivial
theorem di_range2 {e' : Expr} {p' : Env → R DV} {pp : Pos} (hg : Gl X "range") (hm : X.mg "range" = none) (he : DE X E e p) (he' : DE X E e' p') (hs : starEach [e, e'] X.env = [(false, eval e X.env), (false, eval e' X.env)] := by rfl) (hs2 : starEach [e'] X.env = [(false, eval e' X.env)] := by rfl)
    (hs1 : starEach [e, e'] X.env = (false, eval e X.env) :: starEach [e'] X.env := by rfl) (hs3 : starEach [e'] X.env = (false, eval e' X.env) :: starEach [] X.env := by rfl) :
    DI X E tg (.Call (.Name "range" pp) [e, e'] [] pos) (fun ρ => (p ρ).bind fun x => (p' ρ).bind fun y => rg2 x y) := by
  obtain ⟨t, a1, a2⟩ := he.ex
  obtain ⟨u, b1, b2⟩ := he'.ex
  refine ⟨_, pi_range2 hg hm (pa_cons a1 (pa_cons b1 pa_nil hs3) hs1) hs hs2, fun B F O0 H O σ ρ R => ?_⟩
  refine EvG.bind (T1 := fun x H1 R => u σ H1 fun y H2 => ∃ i j : Int, [x, y] = [V.int i, V.int j] ∧ (-(2 ^ 62) ≤ i ∧ i < 2 ^ 62 ∧ -(2 ^ 62) ≤ j ∧ j < 2 ^ 62) ∧ R (Itr i (j - i).toNat) H2) (a2 B F O0 H O σ ρ R) fun x v H1 s1 r1 => ?_
  refine EvG.bind (T1 := fun y H2 R => ∃ i j : Int, [v, y] = [V.int i, V.int j] ∧ (-(2 ^ 62) ≤ i ∧ i < 2 ^ 62 ∧ -(2 ^ 62) ≤ j ∧ j < 2 ^ 62) ∧ R (Itr i (j - i).toNat) H2) (b2 B F O0 H1 O σ ρ (R.more s1)) fun y w H2 s2 r2 => ?_
  unfold rg2
  obtain ⟨d, kk⟩ := x
  obtain ⟨d', kk'⟩ := y
  cases d <;> cases d' <;> first | exact True.intro | skip
  cases Out.int r1
  cases Out.int r2
  dsimp only
  split
  · rename_i c
    exact fun Q hQ => ⟨_, _, rfl, c, hQ _ _ (Same.refl _) (it_range1 _ _)⟩
  · trivial

/-! ### targets -/
structure DG (X : Cx) (tg : Expr) (is : List Nat) (f : D → Env → Option Env) : Prop where
  ex : ∃ g, PG X tg g ∧ ∀ (B F : Hp) (O0 : Own) (H : Hp) (O : Own) (σ : L2.St) (ρ ρ' : Env) (v : V) (d : D) (Q : L2.St → Hp → Prop), SR X.K B F O0 H O σ ρ → Rep X.K (off O H) v d → f d ρ = some ρ' →
    (∀ σ', SR X.K B F O0 H O σ' ρ' → (∀ vs : List Nat, (∀ i ∈ is, i ∈ vs) → wipe σ' vs = wipe σ vs) → Q σ' H) → g v σ H Q
theorem wipe_set {α : Option V} (i : Nat) : ∀ (vs : List Nat) (σ : L2.St), i ∈ vs → wipe (σ.set i α) vs = wipe σ vs
  | [], _, h => nomatch h
  | v :: vs, σ, h => by
    unfold wipe
    by_cases c : i ∈ vs
    · rw [wipe_set i vs σ c]
    · have e : i = v := by
        rcases List.mem_cons.mp h with e | e
        · exact e
        · exact absurd e c
      subst e
      have comm : ∀ (vs : List Nat), i ∉ vs → wipe (σ.set i α) vs = (wipe σ vs).set i α := by
        intro vs
        induction vs with
        | nil => intro _; rfl
        | cons w r ih =>
          intro h
          have h1 : i ≠ w := fun e => h (by rw [e]; exact List.mem_cons_self)
          have h2 : i ∉ r := fun e => h (List.mem_cons_of_mem _ e)
          show (wipe (σ.set i α) r).set w none = ((wipe σ r).set w none).set i α
          rw [ih h2, List.set_comm _ _ h1]
      rw [comm vs c, List.set_set]
theorem dg_name (i : Nat) {x : Str} (hN : X.N.Nodup) (hi : X.N[i]? = some x) (hx : Loc X.env.scope x) (hf : X.fn x = true ∨ X.env.scope.names.lookup x = some .local := by first | exact .inl rfl | exact .inr rfl | assumption) :
    DG X (.Name x pos) [i] (fun d ρ => some (ρ.set i (some (d, .fz)))) := ⟨_, pg_name hN hi hx hf, fun B F O0 H O σ ρ ρ' v d Q R r e h => by
  cases e
  exact h _ (R.set (x := (d, .fz)) r fun z => nomatch z) fun vs hv => wipe_set i vs σ (hv i List.mem_cons_self)⟩
structure DGs (X : Cx) (tgs : List Expr) (is : List Nat) (f : List D → Env → Option Env) : Prop where
  ex : ∃ g, PGs X tgs g ∧ ∀ (B F : Hp) (O0 : Own) (H : Hp) (O : Own) (σ : L2.St) (ρ ρ' : Env) (vs : List V) (ds : List D) (Q : L2.St → Hp → Prop), SR X.K B F O0 H O σ ρ → RepL X.K (off O H) vs ds → f ds ρ = some ρ' →
    (∀ σ', SR X.K B F O0 H O σ' ρ' → (∀ vs : List Nat, (∀ i ∈ is, i ∈ vs) → wipe σ' vs = wipe σ vs) → Q σ' H) → g vs σ H Q
def gsNil (ds : List D) (ρ : Env) : Option Env := match ds with | [] => some ρ | _ => none
def gsCons (f : D → Env → Option Env) (g : List D → Env → Option Env) (ds : List D) (ρ : Env) : Option Env := match ds with | d :: r => (f d ρ).bind (g r) | [] => none
theorem dgs_nil : DGs X [] [] gsNil := ⟨_, pgs_nil, fun B F O0 H O σ ρ ρ' vs ds Q R r e h => by
  cases r with
  | nil =>
    cases e
    exact ⟨rfl, h σ R fun _ _ => rfl⟩
  | cons _ _ => cases e⟩
theorem dgs_cons {is is' : List Nat} {tgs : List Expr} {f : D → Env → Option Env} {g : List D → Env → Option Env} (h1 : DG X tg is f) (h2 : DGs X tgs is' g)
    (hs : (assignEach (tg :: tgs) X.env).map (·.2) = assign tg X.env :: (assignEach tgs X.env).map (·.2) := by rfl) : DGs X (tg :: tgs) (is ++ is') (gsCons f g) := by
  obtain ⟨u, a1, a2⟩ := h1.ex
  obtain ⟨w, b1, b2⟩ := h2.ex
  refine ⟨_, pgs_cons a1 b1 hs, fun B F O0 H O σ ρ ρ' vs ds Q R r e h => ?_⟩
  cases r with
  | nil => cases e
  | cons r rr =>
    unfold gsCons at e
    dsimp only at e
    rename_i v vs' d ds'
    cases q : f d ρ with
    | none => rw [q] at e; cases e
    | some ρ1 =>
      rw [q] at e
      refine ⟨_, _, rfl, a2 B F O0 H O σ ρ ρ1 _ d _ R r q fun σ1 R1 w1 => ?_⟩
      refine b2 B F O0 H O σ1 ρ1 ρ' _ ds' Q R1 rr e fun σ2 R2 w2 => h σ2 R2 fun vs hv => ?_
      rw [w2 vs fun i hi => hv i (List.mem_append_right _ hi), w1 vs fun i hi => hv i (List.mem_append_left _ hi)]
theorem dg_tup {is : List Nat} {es : List Expr} {f : List D → Env → Option Env} {kk n : Nat} (hc : X.calm = true) (h : DGs X es is f) (hn : (assignEach es X.env).length = n := by rfl) (hst : (assignEach es X.env).findIdx? (·.1) = none := by rfl) :
    DG X (.Tuple es kk pos) is (fun d ρ => match d with | .tup ds => if ds.length = n then f ds ρ else none | _ => none) := by
  obtain ⟨u, a1, a2⟩ := h.ex
  refine ⟨_, pg_tup hc a1 hn hst, fun B F O0 H O σ ρ ρ' v d Q R r e h => ?_⟩
  cases r <;> first | (cases e; done) | skip
  rename_i a vs ds h1 h2
  dsimp only at e
  split at e
  · rename_i hl
    exact ⟨a, vs, rfl, SqT.of (off_sub _ _ h1), by rw [h2.length]; exact hl, a2 B F O0 H O σ ρ ρ' vs ds Q R h2 e h⟩
  · cases e

/-! ### for, while -/
def forM (f : D → Env → Option Env) (body : Env → SO) : List D → Env → SO
  | [], ρ => .nx ρ
  | d :: ds, ρ => match f d ρ with
    | none => .no
    | some ρ1 => match body ρ1 with
      | .nx ρ2 => forM f body ds ρ2
      | .ct ρ2 => forM f body ds ρ2
      | .bk ρ2 => .nx ρ2
      | r => r
abbrev sFor (q : Env → R (List D × Kd)) (f : D → Env → Option Env) (body : Env → SO) : Env → SO := fun ρ => (q ρ).st fun x => if x.2 = .al then .no else forM f body x.1 ρ
theorem EndsOk.frame {K : PySem.W.Frag} {mg : Str → Option Value} {B F F' : Hp} {O0 : Own} {D : Ends} {E : XK} {r : SO} (s : Same F F') (h : EndsOk K mg B F O0 D E r) : EndsOk K mg B F' O0 D E r := by
  cases r with
  | nx ρ => exact fun σ H O R => h σ H O (R.weaken s)
  | rt x => exact h
  | bk ρ => exact fun σ H O R => h σ H O (R.weaken s)
  | ct ρ => exact fun σ H O R => h σ H O (R.weaken s)
  | ex e => exact h
  | no => exact h
theorem ds_for {is : List Nat} {q : Env → R (List D × Kd)} {f : D → Env → Option Env} {body : List Stmt} {m : Env → SO} (hp : PassesOwn (model X.prog X.w) X.A X.env X.xe) (hc : X.calm = true) (hi : DI X E tg iter q) (hg : DG X tg is f) (hb : DSs X E body m)
    (hs : ∀ x, foldedSetIterable iter X.env x = pure x := by intro _; rfl) : DS X E (.For tg iter body [] pos) (sFor q f m) := by
  obtain ⟨wi, a1, a2⟩ := hi.ex
  obtain ⟨g, b1, b2⟩ := hg.ex
  obtain ⟨t, c1, c2⟩ := hb.ex
  refine ⟨_, ps_for hp hc a1 b1 c1 hs, fun B F O0 H O σ ρ D R h => ?_⟩
  refine ev_st (Q := fun J H1 => ∃ W : Nat → Nat → L2.St → Hp → Prop, (∃ m, W 0 m σ H1) ∧ ∀ i m σ H, W i m σ H →
    (J.stop i H ∧ D.nx σ H) ∨ (J.go i H ∧ ∃ N : L2.St → Hp → Prop, (∀ σ' H', N σ' H' → ∃ m', m' < m ∧ W (i + 1) m' σ' H') ∧ ∀ x H', J.yld i H x H' → g x σ H' fun σ2 H2 => t { D with nx := N, ct := N, bk := D.nx } σ2 H2)) R.base R.sub (a2 B F O0 H O σ ρ R) h fun x J H1 ex s1 it h1 => ?_
  obtain ⟨ds, kk⟩ := x
  dsimp only at h1 it ex
  have R1 := R.more s1
  have hF : Same F (off O H1) := R1.frz
  split at h1
  · exact h1.elim
  · rename_i nk
    have src : ∀ {H' : Hp} {O' : Own} {σ' : L2.St} {ρ' : Env}, SR X.K B (off O H1) O0 H' O' σ' ρ' → Same (srcH B O H1 kk) H' := fun {H' O' σ' ρ'} R' => by
      cases kk with
      | fz => exact R'.frz.trans off_sub
      | ow => exact R'.frz.trans off_sub
      | bo => exact R'.base
      | al => exact absurd rfl nk
    refine ⟨fun i mm σ' H' => mm = ds.length - i ∧ i ≤ ds.length ∧ ∃ O' ρ', SR X.K B (off O H1) O0 H' O' σ' ρ' ∧ EndsOk X.K X.mg B F O0 D E (forM f m (ds.drop i) ρ'), ⟨ds.length, by omega, Nat.zero_le _, O, ρ, R1.reframe (Same.refl _), h1⟩, ?_⟩
    rintro i mm σ' H' ⟨rfl, hi, O', ρ', R', ends⟩
    obtain ⟨i1, i2, i3⟩ := it i H' (src R')
    by_cases hlt : i < ds.length
    · refine .inr ⟨i1 hlt, fun σ2 H2 => ∃ O2 ρ2, SR X.K B (off O H1) O0 H2 O2 σ2 ρ2 ∧ EndsOk X.K X.mg B F O0 D E (forM f m (ds.drop (i + 1)) ρ2), fun σ2 H2 ⟨O2, ρ2, R2, e2⟩ => ⟨ds.length - (i + 1), by omega, rfl, hlt, O2, ρ2, R2, e2⟩, fun v H4 y => ?_⟩
      rw [List.drop_eq_getElem_cons hlt] at ends
      unfold forM at ends
      obtain ⟨s4, r4⟩ := i3 v H4 ds[i] y (List.getElem?_eq_getElem hlt)
      have R4 := R'.more s4
      cases q1 : f ds[i] ρ' with
      | none => simp only [q1] at ends; exact ends.elim
      | some ρ1 =>
        simp only [q1] at ends
        refine b2 B _ O0 H4 O' σ' ρ' ρ1 v ds[i] _ R4 (r4 O' R'.dom R'.frz) q1 fun σ5 R5 _ => ?_
        refine c2 B _ O0 H4 O' σ5 ρ1 _ R5 ?_
        cases q2 : m ρ1 with
        | nx ρ2 => simp only [q2] at ends; exact fun σ6 H6 O6 R6 => ⟨O6, ρ2, R6, ends⟩
        | ct ρ2 => simp only [q2] at ends; exact fun σ6 H6 O6 R6 => ⟨O6, ρ2, R6, ends⟩
        | bk ρ2 => simp only [q2] at ends; exact fun σ6 H6 O6 R6 => ends σ6 H6 O6 (R6.weaken hF)
        | rt x => simp only [q2] at ends; exact ends
        | ex x => simp only [q2] at ends; exact ends
        | no => simp only [q2] at ends; exact ends
    · have e : i = ds.length := by omega
      subst e
      rw [List.drop_length] at ends
      exact .inl ⟨i2 (Nat.le_refl _), ends σ' H' O' (R'.weaken hF)⟩
def whileM (pt : Env → R Bool) (body : Env → SO) : Nat → Env → SO
  | 0, _ => .no
  | n + 1, ρ => (pt ρ).st fun b => if b then (match body ρ with
      | .nx ρ2 => whileM pt body n ρ2
      | .ct ρ2 => whileM pt body n ρ2
      | .bk ρ2 => .nx ρ2
      | r => r) else .nx ρ
theorem ds_while {pt : Env → R Bool} {m : Env → SO} {body : List Stmt} (n : Nat) (hp : PassesOwn (model X.prog X.w) X.A X.env X.xe) (hc : DT X E c pt) (hb : DSs X E body m) : DS X E (.While c body [] pos) (whileM pt m n) := by
  obtain ⟨t, a1, a2⟩ := hc.ex
  obtain ⟨u, b1, b2⟩ := hb.ex
  refine ⟨_, ps_while hp a1 b1, fun B F O0 H O σ ρ D R h => ?_⟩
  refine ⟨fun n σ H => ∃ O ρ, SR X.K B F O0 H O σ ρ ∧ EndsOk X.K X.mg B F O0 D E (whileM pt m n ρ), ⟨n, O, ρ, R, h⟩, ?_⟩
  rintro n σ' H' ⟨O', ρ', R', h'⟩
  cases n with
  | zero => exact h'.elim
  | succ n =>
    unfold whileM at h'
    refine ev_st (Q := fun b H1 => if b = true then ∃ N : L2.St → Hp → Prop, (∀ σ2 H2, N σ2 H2 → ∃ m', m' < n + 1 ∧ ∃ O ρ, SR X.K B F O0 H2 O σ2 ρ ∧ EndsOk X.K X.mg B F O0 D E (whileM pt m m' ρ)) ∧ u { D with nx := N, ct := N, bk := D.nx } σ' H1 else D.nx σ' H1) R'.base R'.sub (a2 B F O0 H' O' σ' ρ' R') h' fun b c H1 ex s1 e h1 => ?_
    subst e
    have R1 := R'.more s1
    cases c with
    | false => exact h1 σ' H1 O' R1
    | true =>
      refine ⟨fun σ2 H2 => ∃ O ρ, SR X.K B F O0 H2 O σ2 ρ ∧ EndsOk X.K X.mg B F O0 D E (whileM pt m n ρ), fun σ2 H2 q => ⟨n, Nat.lt_succ_self _, q⟩, ?_⟩
      refine b2 B F O0 H1 O' σ' ρ' _ R1 ?_
      cases q : m ρ' with
      | nx ρ2 => rw [q] at h1; exact fun σ2 H2 O2 R2 => ⟨O2, ρ2, R2, h1⟩
      | ct ρ2 => rw [q] at h1; exact fun σ2 H2 O2 R2 => ⟨O2, ρ2, R2, h1⟩
      | bk ρ2 => rw [q] at h1; exact h1
      | rt x => rw [q] at h1; exact h1
      | ex x => rw [q] at h1; exact h1
      | no => rw [q] at h1; exact h1
end
end FK
namespace FK
open PySem PySem.Spec L2
open PyProof.Rows hiding St

/-! ### readings by the mirror alone (the same for every context) -/
abbrev E0 : XK := fun _ _ _ => False
def cT (K : PySem.W.Frag) (p : Env → R DV) : TE := fun σ H Q => ∃ (B F : Hp) (O0 O : Own) (ρ : Env) (x : DV), SR K B F O0 H O σ ρ ∧ p ρ = .ok x ∧ ∀ v H', Same H H' → Out K B O0 H H' O v x → Q v H'
def cTT (K : PySem.W.Frag) (p : Env → R Bool) : TT := fun σ H Q => ∃ (B F : Hp) (O0 O : Own) (ρ : Env) (x : Bool), SR K B F O0 H O σ ρ ∧ p ρ = .ok x ∧ ∀ H', Same H H' → Q x H'
def cG (K : PySem.W.Frag) (is : List Nat) (f : D → Env → Option Env) : TG := fun v σ H Q => ∃ (B F : Hp) (O0 O : Own) (ρ ρ' : Env) (d : D), SR K B F O0 H O σ ρ ∧ Rep K (off O H) v d ∧ f d ρ = some ρ' ∧
  ∀ σ', SR K B F O0 H O σ' ρ' → (∀ vs : List Nat, (∀ i ∈ is, i ∈ vs) → wipe σ' vs = wipe σ vs) → Q σ' H
section
variable {X : Cx} {E : XK} {tg iter e a b c l elt : Expr} {es : List Expr} {p pa pb pc pe : Env → R DV} {pt : Env → R Bool} {pl : Env → R (List DV)} {pos : Pos} {k : Nat} {is : List Nat} {f : D → Env → Option Env}
theorem DE.canon (h : DE X E e p) : PE X e (cT X.K p) := by
  obtain ⟨t, h1, h2⟩ := h.ex
  refine ⟨fun pins s σ H Q I q => ?_⟩
  obtain ⟨B, F, O0, O, ρ, x, R, ex, hQ⟩ := q
  have := h2 B F O0 H O σ ρ R
  rw [ex] at this
  exact h1.run pins s σ H Q I (this Q hQ)
theorem DT.canon (h : DT X E e pt) : PT X e (cTT X.K pt) := by
  obtain ⟨t, h1, h2⟩ := h.ex
  refine ⟨fun pins s σ H Q I q => ?_⟩
  obtain ⟨B, F, O0, O, ρ, x, R, ex, hQ⟩ := q
  have := h2 B F O0 H O σ ρ R
  rw [ex] at this
  exact h1.run pins s σ H Q I (this Q fun v H' s' e => by cases e; exact hQ H' s')
theorem DG.canon (h : DG X tg is f) : PG X tg (cG X.K is f) := by
  obtain ⟨t, h1, h2⟩ := h.ex
  refine ⟨fun pins s σ H v u Q I r q => ?_⟩
  obtain ⟨B, F, O0, O, ρ, ρ', d, R, rr, ef, hQ⟩ := q
  exact h1.run pins s σ H v u Q I r (h2 B F O0 H O σ ρ ρ' v d Q R rr ef hQ)
/-- tests of a comprehension -/
structure DTs (X : Cx) (E : XK) (ifs : List Expr) (p : Env → R Bool) : Prop where
  ex : PTs X ifs (cTT X.K p)
theorem dts_nil : DTs X E [] (fun _ => .ok true) := ⟨⟨fun pins s σ H Q I h => by
  obtain ⟨B, F, O0, O, ρ, x, R, ex, hQ⟩ := h
  cases ex
  exact pts_nil.run pins s σ H Q I (hQ H (Same.refl _))⟩⟩
theorem dts_one (h : DT X E c pt) : DTs X E [c] pt := ⟨pts_one h.canon⟩

/-! ### comprehensions -/
def R.quiet {α : Type} : R α → R α | .ex _ => .no | r => r
def wipeD (ρ : Env) : List Nat → Env
  | [] => ρ
  | v :: vs => (wipeD ρ vs).set v none
def lcM (f : D → Env → Option Env) (pt : Env → R Bool) (pe : Env → R DV) : List D → Env → R (List D)
  | [], _ => .ok []
  | d :: ds, ρ => match f d ρ with
    | none => .no
    | some ρ1 => (pt ρ1).quiet.bind fun b => if b then (pe ρ1).quiet.bind fun x => (match keep1 x with
        | none => .no
        | some y => (lcM f pt pe ds ρ).bind fun r => .ok (y :: r))
      else lcM f pt pe ds ρ
abbrev mLc (q : Env → R (List D × Kd)) (f : D → Env → Option Env) (pt : Env → R Bool) (pe : Env → R DV) (vs : List Nat) : Env → R DV := fun ρ => (q ρ).bind fun x => if x.1.length ≤ sizeLine then (lcM f pt pe x.1 (wipeD ρ vs)).bind fun r => .ok (.lst r, .ow) else .no
theorem SR.unset {K : PySem.W.Frag} {B F H : Hp} {O0 O : Own} {σ : L2.St} {ρ : Env} (R : SR K B F O0 H O σ ρ) (i : Nat) : SR K B F O0 H O (σ.set i none) (ρ.set i none) where
  len := by rw [List.length_set, List.length_set]; exact R.len
  base := R.base
  frz := R.frz
  fb := R.fb
  dom := R.dom
  dom0 := R.dom0
  sub := R.sub
  slot := fun j y e => by
    by_cases c : j = i
    · subst c
      by_cases hl : j < ρ.length
      · rw [List.getElem?_set_self hl] at e; cases e
      · rw [List.getElem?_eq_none (by rw [List.length_set]; omega)] at e; cases e
    · rw [List.getElem?_set_ne (Ne.symm c)] at e ⊢
      exact R.slot j y e
  sep := fun j l y z a hjl e1 k1 e2 k2 g1 g2 => by
    have c1 : j ≠ i := fun c => by
      subst c
      by_cases hl : j < ρ.length
      · rw [List.getElem?_set_self hl] at e1; cases e1
      · rw [List.getElem?_eq_none (by rw [List.length_set]; omega)] at e1; cases e1
    have c2 : l ≠ i := fun c => by
      subst c
      by_cases hl : l < ρ.length
      · rw [List.getElem?_set_self hl] at e2; cases e2
      · rw [List.getElem?_eq_none (by rw [List.length_set]; omega)] at e2; cases e2
    rw [List.getElem?_set_ne (Ne.symm c1)] at e1 g1
    rw [List.getElem?_set_ne (Ne.symm c2)] at e2 g2
    exact R.sep j l y z a hjl e1 k1 e2 k2 g1 g2
theorem SR.wipe {K : PySem.W.Frag} {B F H : Hp} {O0 O : Own} {σ : L2.St} {ρ : Env} (R : SR K B F O0 H O σ ρ) : ∀ vs : List Nat, SR K B F O0 H O (wipe σ vs) (wipeD ρ vs)
  | [] => R
  | v :: vs => (SR.wipe R vs).unset v
/-- an owned object that no slot holds is written -/
theorem SR.writeT {K : PySem.W.Frag} {B F H : Hp} {O0 O : Own} {σ : L2.St} {ρ : Env} {a : Addr} {o : HO} (R : SR K B F O0 H O σ ρ) (oa : O a) (na : B a = none) (ns : ∀ (j : Nat) (y : DV), ρ[j]? = some (some y) → y.2 = .ow → σ[j]? ≠ some (some (.ref a))) : SR K B F O0 (upd H a o) O σ ρ where
  len := R.len
  base := fun b x h => by rw [upd_ne (ne_of_none h na)]; exact R.base b x h
  frz := by rw [off_upd oa]; exact R.frz
  fb := by rw [off_upd oa]; exact R.fb
  dom := fun b z => by
    by_cases q : b = a
    · subst q; rw [upd_same]; exact fun z => nomatch z
    · rw [upd_ne q]; exact R.dom b z
  dom0 := R.dom0
  sub := R.sub
  slot := fun j y ej => by
    obtain ⟨v, h1, h2⟩ := R.slot j y ej
    refine ⟨v, h1, ?_⟩
    have hn := ns j y ej
    obtain ⟨d2, k2⟩ := y
    cases k2 with
    | fz => show Rep _ _ _ _; rw [off_upd oa]; exact h2
    | ow =>
      obtain ⟨b, eb, ob2, nb2, c2⟩ := h2
      subst eb
      have hne : b ≠ a := fun z => by subst z; exact hn rfl h1
      exact ⟨b, rfl, ob2, nb2, c2.mono (fun o' h => by rw [upd_ne hne]; exact h) (by rw [off_upd oa]; exact Same.refl _)⟩
    | bo => exact h2
    | al => exact h2
  sep := R.sep
/-- the reading of a comprehension by the mirror's -/
theorem ev_lc {wi : TI} {own : List (Str × Nat)} {q : Env → R (List D × Kd)} {B F H : Hp} {O0 O : Own} {σ : L2.St} {ρ : Env} (R : SR X.K B F O0 H O σ ρ) (hi : EvG X.K X.mg O E H (q ρ) (fun x J H' => ItOk X.K (off O H') (srcH B O H' x.2) J x.1) (wi σ H)) (his : ∀ i ∈ is, i ∈ own.map (·.2)) :
    EvG X.K X.mg O E H (mLc q f pt pe (own.map (·.2)) ρ) (ORel X.K B O0 H O) (tLc wi (cG X.K is f) (cTT X.K pt) (cT X.K pe) (own.map (·.2)) σ H) := by
  generalize hvs : own.map (·.2) = vs at *
  refine EvG.bind (T1 := fun J H1 Q => ∀ D, H1 D = none → ∃ W : Nat → Nat → Hp → Prop, (∃ m, W 0 m (upd H1 D (.lst []))) ∧ ∀ i m H, W i m H →
    (J.stop i H ∧ Q (V.ref D) H) ∨ (J.go i H ∧ ∃ Nx : Hp → Prop, (∀ H', Nx H' → ∃ m', m' < m ∧ W (i + 1) m' H') ∧ ∀ x H', J.yld i H x H' → cG X.K is f x (wipe σ vs) H' fun σ2 H2 => wipe σ2 vs = wipe σ vs ∧ cTT X.K pt σ2 H2 fun b H3 =>
      if b = true then cT X.K pe σ2 H3 fun y H4 => ∃ acc, H4 D = some (.lst acc) ∧ acc.length < sizeLine ∧ Nx (upd H4 D (.lst (acc ++ [y]))) else Nx H3)) hi fun x J H1 s1 it => ?_
  obtain ⟨ds, kk⟩ := x
  dsimp only at it ⊢
  split
  · rename_i hsz
    cases qr : lcM f pt pe ds (wipeD ρ vs) with
    | no => trivial
    | ex z =>
      exfalso
      have : ∀ (ds : List D) (ρ : Env) (z : Exn), lcM f pt pe ds ρ ≠ .ex z := by
        intro ds
        induction ds with
        | nil => intro ρ z h; cases h
        | cons d ds ih =>
          intro ρ z h
          unfold lcM at h
          split at h
          · cases h
          · rename_i ρ1 _
            cases q1 : pt ρ1 with
            | no => rw [q1] at h; cases h
            | ex _ => rw [q1] at h; cases h
            | ok b =>
              rw [q1] at h
              cases b with
              | false => exact ih ρ z h
              | true =>
                have h : ((pe ρ1).quiet.bind fun x => (match keep1 x with
                  | none => FK.R.no
                  | some y => (lcM f pt pe ds ρ).bind fun r => .ok (y :: r))) = .ex z := h
                cases q2 : pe ρ1 with
                | no => rw [q2] at h; cases h
                | ex _ => rw [q2] at h; cases h
                | ok x =>
                  rw [q2] at h
                  have h : (match keep1 x with
                    | none => FK.R.no
                    | some y => (lcM f pt pe ds ρ).bind fun r => .ok (y :: r)) = .ex z := h
                  split at h
                  · cases h
                  · cases q3 : lcM f pt pe ds ρ with
                    | no => rw [q3] at h; cases h
                    | ok _ => rw [q3] at h; cases h
                    | ex z' => exact ih ρ z' q3
      exact this _ _ _ qr
    | ok r =>
      refine fun Q hQ D hD => ?_
      have R1 := R.more s1
      have nD : ¬ O D := fun z => R1.dom D z hD
      have oD : plus O D D := .inr rfl
      have bD : B D = none := R1.base.free hD
      have hw := R1.wipe vs
      have noslot : ∀ (j : Nat) (y : DV), (wipeD ρ vs)[j]? = some (some y) → y.2 = .ow → (wipe σ vs)[j]? ≠ some (some (.ref D)) := fun j y e1 e2 e3 => by
        obtain ⟨v, g1, g2⟩ := hw.slot j y e1
        rw [e3] at g1
        cases g1
        obtain ⟨d2, k2⟩ := y
        cases (show k2 = .ow from e2)
        obtain ⟨b, eb, ob, _, _⟩ := g2
        cases eb
        exact nD ob
      have srcS : Same (srcH B O H1 kk) H1 := by
        cases kk with
        | fz => exact off_sub
        | ow => exact off_sub
        | bo => exact R1.base
        | al => exact Same.refl _
      refine ⟨fun i m H' => m = ds.length - i ∧ i ≤ ds.length ∧ Same H1 H' ∧ ∃ acc done rr, H' D = some (.lst acc) ∧ RepL X.K (off (plus O D) H') acc done ∧ done.length ≤ i ∧ lcM f pt pe (ds.drop i) (wipeD ρ vs) = .ok rr ∧ done ++ rr = r ∧ SR X.K B F O0 H' (plus O D) (wipe σ vs) (wipeD ρ vs),
        ⟨ds.length, by omega, Nat.zero_le _, same_upd hD, [], [], r, upd_same, .nil, Nat.le_refl _, qr, rfl, hw.grow (same_upd hD) hD (by rw [upd_same]; exact fun z => nomatch z)⟩, ?_⟩
      rintro i m H' ⟨rfl, hi, sH, acc, done, rr, hacc, hdone, hlen, hrr, htot, R'⟩
      obtain ⟨i1, i2, i3⟩ := it i H' (srcS.trans sH)
      by_cases hlt : i < ds.length
      · rw [List.drop_eq_getElem_cons hlt] at hrr
        unfold lcM at hrr
        cases q1 : f ds[i] (wipeD ρ vs) with
        | none => simp only [q1] at hrr; cases hrr
        | some ρ1 =>
          simp only [q1] at hrr
          refine .inr ⟨i1 hlt, fun H' => Same H1 H' ∧ ∃ acc done rr, H' D = some (.lst acc) ∧ RepL X.K (off (plus O D) H') acc done ∧ done.length ≤ i + 1 ∧ lcM f pt pe (ds.drop (i + 1)) (wipeD ρ vs) = .ok rr ∧ done ++ rr = r ∧ SR X.K B F O0 H' (plus O D) (wipe σ vs) (wipeD ρ vs),
            fun H' h => ⟨ds.length - (i + 1), by omega, rfl, hlt, h⟩, fun v H4 y => ?_⟩
          obtain ⟨s4, r4⟩ := i3 v H4 ds[i] y (List.getElem?_eq_getElem hlt)
          have R4 := R'.more s4
          have fS : Same (off O H1) (off (plus O D) H') := fun b o h => by
            obtain ⟨h1, h2⟩ := off_some h
            exact off_of (fun z => z.elim h1 fun e => by subst e; rw [hD] at h2; cases h2) (sH _ _ h2)
          refine ⟨B, F, O0, plus O D, wipeD ρ vs, ρ1, ds[i], R4, r4 _ R'.dom fS, q1, fun σ5 R5 w5 => ?_⟩
          have w5' : wipe σ5 vs = wipe (wipe σ vs) vs := w5 vs fun i hi => by exact his i hi
          have ww : ∀ (vs : List Nat) (σ : L2.St), wipe (wipe σ vs) vs = wipe σ vs := by
            intro vs
            induction vs with
            | nil => intro σ; rfl
            | cons v r ih =>
              intro σ
              show (wipe ((wipe σ r).set v none) r).set v none = (wipe σ r).set v none
              by_cases c : v ∈ r
              · rw [wipe_set v r _ c, ih]
              · have comm : ∀ (r : List Nat) (τ : L2.St), v ∉ r → wipe (τ.set v none) r = (wipe τ r).set v none := by
                  intro r
                  induction r with
                  | nil => intro _ _; rfl
                  | cons w r ih2 =>
                    intro τ h
                    have h1 : v ≠ w := fun e => h (by rw [e]; exact List.mem_cons_self)
                    have h2 : v ∉ r := fun e => h (List.mem_cons_of_mem _ e)
                    show (wipe (τ.set v none) r).set w none = ((wipe τ r).set w none).set v none
                    rw [ih2 τ h2, List.set_comm _ _ h1]
                rw [comm r _ c, ih, List.set_set]
          refine ⟨w5'.trans (ww vs σ), ?_⟩
          have nslot5 : True := trivial
          cases q2 : pt ρ1 with
          | no => rw [q2] at hrr; cases hrr
          | ex _ => rw [q2] at hrr; cases hrr
          | ok b =>
            rw [q2] at hrr
            refine ⟨B, F, O0, plus O D, ρ1, b, R5, q2, fun H6 s6 => ?_⟩
            have s46 := s4.trans s6
            cases b with
            | false =>
              have hrr : lcM f pt pe (ds.drop (i + 1)) (wipeD ρ vs) = .ok rr := hrr
              exact ⟨sH.trans s46, acc, done, rr, s46 _ _ hacc, hdone.mono (off_mono s46), by omega, hrr, htot, R'.more s46⟩
            | true =>
              have hrr : ((pe ρ1).quiet.bind fun x => (match keep1 x with
                  | none => FK.R.no
                  | some y => (lcM f pt pe (ds.drop (i + 1)) (wipeD ρ vs)).bind fun r => .ok (y :: r))) = .ok rr := hrr
              cases q3 : pe ρ1 with
              | no => rw [q3] at hrr; cases hrr
              | ex _ => rw [q3] at hrr; cases hrr
              | ok x =>
                rw [q3] at hrr
                have hrr : (match keep1 x with
                  | none => FK.R.no
                  | some y => (lcM f pt pe (ds.drop (i + 1)) (wipeD ρ vs)).bind fun r => .ok (y :: r)) = .ok rr := hrr
                show cT X.K pe σ5 H6 _
                refine ⟨B, F, O0, plus O D, ρ1, x, R5.more s6, q3, fun y H7 s7 o7 => ?_⟩
                have s47 := s46.trans s7
                cases q4 : keep1 x with
                | none => rw [q4] at hrr; cases hrr
                | some yd =>
                  rw [q4] at hrr
                  have hrr : ((lcM f pt pe (ds.drop (i + 1)) (wipeD ρ vs)).bind fun r => FK.R.ok (yd :: r)) = .ok rr := hrr
                  cases q5 : lcM f pt pe (ds.drop (i + 1)) (wipeD ρ vs) with
                  | no => rw [q5] at hrr; cases hrr
                  | ex _ => rw [q5] at hrr; cases hrr
                  | ok rr2 =>
                    rw [q5] at hrr
                    cases hrr
                    refine ⟨acc, s47 _ _ hacc, ?_, ?_⟩
                    · have := hdone.length
                      omega
                    · have hk : Rep X.K (off (plus O D) H7) y yd := Out.keep o7 q4
                      refine ⟨fun b o h => by rw [upd_ne (ne_of_none h hD)]; exact s47 _ _ (sH _ _ h), acc ++ [y], done ++ [yd], rr2, upd_same, ?_, ?_, rfl, ?_, (R'.more s47).writeT oD bD noslot⟩
                      · rw [off_upd oD]
                        exact (hdone.mono (off_mono s47)).append (.cons hk .nil)
                      · rw [List.length_append, List.length_singleton]; omega
                      · rw [List.append_assoc]; exact htot
      · have e : i = ds.length := by omega
        subst e
        rw [List.drop_length] at hrr
        cases hrr
        rw [List.append_nil] at htot
        subst htot
        refine .inl ⟨i2 (Nat.le_refl _), hQ _ _ sH ⟨D, rfl, s1.free hD, nD, acc, hacc, hdone⟩⟩
  · trivial
theorem de_lc {ifs : List Expr} {scope : Scope} {own : List (Str × Nat)} {q : Env → R (List D × Kd)} (hc : X.calm = true) (hN : X.N.Nodup) (hi : DI X E tg iter q) (ok : BlkOk X.N X.env.scope scope own) (his : ∀ i ∈ is, i ∈ own.map (·.2))
    (hg : ∀ (s : Shared) (H : Hp) (C : Addr) (cl : List (Str × Addr)) (fp : List Addr), DG (X.blk s H scope (compEnvC scope cl C X.env) fp) tg is f)
    (ht : ∀ (s : Shared) (H : Hp) (C : Addr) (cl : List (Str × Addr)) (fp : List Addr), DTs (X.blk s H scope (compEnvC scope cl C X.env) fp) E0 ifs pt)
    (he : ∀ (s : Shared) (H : Hp) (C : Addr) (cl : List (Str × Addr)) (fp : List Addr), DE (X.blk s H scope (compEnvC scope cl C X.env) fp) E0 elt pe) (hs : ∀ x, foldedSetIterable iter X.env x = pure x := by intro _; rfl) :
    DE X E (.ListComp elt [⟨tg, iter, ifs, 0⟩] scope pos) (mLc q f pt pe (own.map (·.2))) := by
  obtain ⟨wi, a1, a2⟩ := hi.ex
  refine ⟨_, pe_lc hc hN a1 ok (g := cG X.K is f) (tt := cTT X.K pt) (te := cT X.K pe) (fun s H C cl fp => (hg s H C cl fp).canon) (fun s H C cl fp => (ht s H C cl fp).ex) (fun s H C cl fp => (he s H C cl fp).canon) hs, fun B F O0 H O σ ρ R => ?_⟩
  exact ev_lc R (a2 B F O0 H O σ ρ R) his
/-- name = [..] -/
theorem ds_setLc (i : Nat) {y : Str} {py : Pos} {spos : Pos} {ifs : List Expr} {scope : Scope} {own : List (Str × Nat)} {q : Env → R (List D × Kd)} (hc : X.calm = true) (hN : X.N.Nodup) (hy : X.N[i]? = some y) (hyl : X.env.scope.names.lookup y = some .local)
    (hsw : swapsWith (.ListComp elt [⟨tg, iter, ifs, 0⟩] scope pos) (some (.Name y py)) spos.line X.env = pure true) (hi : DI X E tg iter q) (ok : BlkOk X.N X.env.scope scope own) (his : ∀ i ∈ is, i ∈ own.map (·.2))
    (hg : ∀ (s : Shared) (H : Hp) (C : Addr) (cl : List (Str × Addr)) (fp : List Addr), DG (X.blk s H scope (compEnvC scope cl C X.env) fp) tg is f)
    (ht : ∀ (s : Shared) (H : Hp) (C : Addr) (cl : List (Str × Addr)) (fp : List Addr), DTs (X.blk s H scope (compEnvC scope cl C X.env) fp) E0 ifs pt)
    (he : ∀ (s : Shared) (H : Hp) (C : Addr) (cl : List (Str × Addr)) (fp : List Addr), DE (X.blk s H scope (compEnvC scope cl C X.env) fp) E0 elt pe) (hs : ∀ x, foldedSetIterable iter X.env x = pure x := by intro _; rfl) :
    DS X E (.Assign [.Name y py] (.ListComp elt [⟨tg, iter, ifs, 0⟩] scope pos) spos) (sSet i (mLc q f pt pe (own.map (·.2)))) := by
  obtain ⟨wi, a1, a2⟩ := hi.ex
  refine ⟨_, ps_setLc hc hN hy hyl hsw a1 ok (g := cG X.K is f) (tt := cTT X.K pt) (te := cT X.K pe) (fun s H C cl fp => (hg s H C cl fp).canon) (fun s H C cl fp => (ht s H C cl fp).ex) (fun s H C cl fp => (he s H C cl fp).canon) hs, fun B F O0 H O σ ρ D R h => ?_⟩
  exact ev_st (Q := fun v H1 => D.nx (σ.set i (some v)) H1) R.base R.sub (ev_lc R (a2 B F O0 H O σ ρ R) his) h fun x v H1 ex s1 r1 h1 => setS_nx R s1 r1 h1
end

/-! ### a def -/
def runD (n : Nat) (m : Env → SO) (as : List DV) : R DV := match m (as.map some ++ List.replicate (n - as.length) none) with
  | .nx _ => .ok (.non, .fz)
  | .rt x => .ok x
  | .ex e => .ex e
  | _ => .no
section
variable {P : Program} {w : World} {K : PySem.W.Frag} {mg : Str → Option Value} {base : Heap}
theorem args_slot {H : Hp} {O : Own} : ∀ {vs : List V} {as : List DV} {i : Nat} {x : DV}, ArgsOk K H O vs as → as[i]? = some x → ∃ v, vs[i]? = some v ∧ ArgOk K H O v x
  | _, _, _, _, .nil, e => by simp at e
  | _, _, 0, _, .cons a b, e => by simp at e; subst e; exact ⟨_, rfl, a⟩
  | _, _, i + 1, x, .cons a b, e => by
    obtain ⟨u, h1, h2⟩ := args_slot (i := i) b (by simpa using e)
    exact ⟨u, by simpa using h1, h2⟩
theorem start_sr {N : List Str} {H : Hp} {O : Own} {vs : List V} {as : List DV} (dom : ∀ a, O a → H a ≠ none) (h : ArgsOk K H O vs as) : SR K H (off O H) O H O (L2.start N vs) (as.map some ++ List.replicate (N.length - as.length) none) := by
  have hl := h.length
  have own : ∀ (i : Nat) (x : DV), (as.map some ++ List.replicate (N.length - as.length) none)[i]? = some (some x) → as[i]? = some x := fun i x e => by
    by_cases c : i < as.length
    · rw [List.getElem?_append_left (by simpa using c), List.getElem?_map] at e
      cases q : as[i]? with
      | none => rw [q] at e; cases e
      | some y => rw [q] at e; cases e; rfl
    · rw [List.getElem?_append_right (by simpa using c), List.getElem?_replicate] at e
      split at e <;> cases e
  refine ⟨by unfold L2.start; simp [hl], Same.refl _, Same.refl _, Same.refl _, dom, dom, fun _ z => z, fun i x e => ?_, fun i j x y a hij e1 k1 _ _ _ _ => ?_⟩
  · have e' := own i x e
    obtain ⟨v, h1, h2⟩ := args_slot h e'
    refine ⟨v, ?_, ?_⟩
    · unfold L2.start
      have c : i < vs.length := (List.getElem?_eq_some_iff.mp h1).1
      rw [List.getElem?_append_left (by simpa using c), List.getElem?_map, h1]
      rfl
    · obtain ⟨d, k⟩ := x
      cases k with
      | fz => exact h2
      | bo => exact h2
      | ow => exact h2.elim
      | al => exact h2.elim
  · obtain ⟨v, h1, h2⟩ := args_slot h (own i x e1)
    obtain ⟨d, k⟩ := x
    cases (show k = .ow from k1)
    exact h2.elim
/-- the context of a def's body -/
abbrev bodyX (P : Program) (w : World) (K : PySem.W.Frag) (mg : Str → Option Value) (base : Heap) (N : List Str) (qual : Str) (st : Stmt) (f : Addr) (cdv : Value) (A : Around) (outer : List PySem.Env) (s : Shared) (H : Hp) (E : XK) : Cx :=
  cxOf (L2.CX P w) P w K mg base N qual (defScope st) f cdv A outer s H E
theorem body_passes {N : List Str} {qual : Str} {st : Stmt} {f : Addr} {cdv : Value} {A : Around} {outer : List PySem.Env} {s : Shared} {H : Hp} {E : XK} : Passes (L2.CX P w) (bodyX P w K mg base N qual st f cdv A outer s H E) E :=
  passes_call (takes_of rfl rfl rfl rfl) fun _ _ _ _ h => h
theorem body_own {N : List Str} {qual : Str} {st : Stmt} {f : Addr} {cdv : Value} {A : Around} {outer : List PySem.Env} {s : Shared} {H : Hp} {E : XK} :
    PassesOwn (model (bodyX P w K mg base N qual st f cdv A outer s H E).prog (bodyX P w K mg base N qual st f cdv A outer s H E).w) (bodyX P w K mg base N qual st f cdv A outer s H E).A (bodyX P w K mg base N qual st f cdv A outer s H E).env (bodyX P w K mg base N qual st f cdv A outer s H E).xe := passes_of rfl
/-- THE RULE for a def by its mirror -/
theorem fn_rule {x qual : Str} {st : Stmt} {f : Addr} {fd : FuncData} {N ps : List Str} {k n : Nat} {m : Env → SO} (F : Fun K x qual st f fd) (S : FnScope N ps (defScope st)) (hn : ps.length = n) (hm : mg x = some (.ref f)) (hb : Binds K fd ps [])
    (body : ∀ (cdv : Value) (A : Around) (outer : List PySem.Env) (s : Shared) (H : Hp) (E : XK), Room k (bodyX P w K mg base N qual st f cdv A outer s H E).A → DSs (bodyX P w K mg base N qual st f cdv A outer s H E) E (defBody st) m) :
    CallOk P w K mg base x (k + 1) n (runD N.length m) := by
  refine ⟨f, fd, ps, hm, F.okX S (fun vs H Q E h => by rw [hn]; exact h.1) fun cdv A outer s H vs Q E hr h => ?_, F.kp, hb⟩
  obtain ⟨hl, O, as, dom, ha, hend⟩ := h
  obtain ⟨t, h1, h2⟩ := (body cdv A outer s H E hr).ex
  refine ⟨t, h1, h2 H (off O H) O H O _ _ _ (start_sr dom ha) ?_⟩
  unfold runD at hend
  show EndsOk K mg H (off O H) O { nx := fun _ H' => Q .non H', rt := Q } E (m (as.map some ++ List.replicate (N.length - as.length) none))
  cases q : m (as.map some ++ List.replicate (N.length - as.length) none) with
  | nx ρ => rw [q] at hend; exact fun σ' H' O' R => hend .non H' R.base (show Rep _ _ _ _ from .non)
  | rt y => rw [q] at hend; exact fun v H' s' r => hend v H' s' r
  | bk ρ => rw [q] at hend; exact hend.elim
  | ct ρ => rw [q] at hend; exact hend.elim
  | ex e => rw [q] at hend; exact hend
  | no => rw [q] at hend; exact hend.elim
end
end FK
namespace FK
open PySem PySem.Spec L2
open PyProof.Rows hiding St

def FUEL : Nat := 1000000

/-! ### repr -/
section
variable {X : Cx} {E : XK} {k : Nat}
def rReprF (K : PySem.W.Frag) : List V → Hp → VK → Prop := fun vs H Q => ∃ v d, vs = [v] ∧ Dp K H v d ∧ d.showable = true ∧ d.hasDict = false ∧ d.depth ≤ 100 ∧ d.shown.length ≤ sizeLine ∧ (∃ a, v = .ref a) ∧ Q (.str d.shown) H
def rRepr (K : PySem.W.Frag) : List V → Hp → VK → Prop := fun vs H Q => rReprF K vs H Q ∨ ∃ i, vs = [V.int i] ∧ i.natAbs.log2 < 1920 ∧ Q (.str (toString i)) H
theorem cr_repr (hgd : X.A.guards = some []) (hr : Room k X.A) : CallR X (.builtin "repr") (rRepr X.K) := by
  intro pins s σ H vs us Q I rv hq
  rcases hq.symm with hq | hq
  · exact SkE.call_repr_int pins s σ H vs us Q I rv hq
  obtain ⟨v, d, rfl, hd, h1, h2, h3, h4, ⟨a, rfl⟩, q⟩ := hq
  obtain ⟨u, rfl, ru⟩ := vals1 rv
  obtain ⟨as, rd⟩ := Dp.reads I d _ u hd ru
  cases ru
  have hu := hr.un
  exact repr_of_reads' rd h1 (fun z => by rw [h2] at z; cases z) hgd (by omega) (fun _ _ e => e) (fun h' u tk hk => ⟨.str _, H, I.kept hk, ⟨_, rfl⟩, q⟩) h4
def reprD (d : D) : R Str := if d.py.plain = true ∧ d.py.showable = true ∧ d.py.hasDict = false ∧ d.py.depth ≤ 100 ∧ d.py.shown.length ≤ sizeLine then .ok d.py.shown else .no
def D.isRf : D → Bool | .lst _ => true | .tup _ => true | _ => false
def reprI (d : D) : R DV := match d with | .int i => if i.natAbs.log2 < 1920 then .ok (.str (toString i), .fz) else .no | _ => .no
def gRepr (x : DV) : R DV := if x.1.isRf = true then (reprD x.1).bind fun s => .ok (.str s, .fz) else reprI x.1
theorem cb_repr (hgd : X.A.guards = some []) (hr : Room k X.A) : CB X E (.builtin "repr") (one gRepr) := cb1 (cr_repr hgd hr) fun B O0 H0 H O x v s dom hx => by
  unfold gRepr reprD
  by_cases c : x.1.isRf = true
  · rw [if_pos c]
    split
    · rename_i z
      obtain ⟨z1, z2, z3, z4, z5⟩ := z
      have hd := hx.dp z1
      refine fun Q hQ => .inl ⟨v, _, rfl, hd, z2, z3, z4, z5, ?_, hQ _ _ (Same.refl _) (show Rep _ _ _ _ from .str _)⟩
      obtain ⟨d, kk⟩ := x
      cases d <;> first | (cases c; done) | skip
      · obtain ⟨a, vs, rfl, _⟩ := hx.lst
        exact ⟨a, rfl⟩
      · simp only [D.py] at hd
        cases hd
        exact ⟨_, rfl⟩
    · trivial
  · rw [if_neg c]
    obtain ⟨d, kk⟩ := x
    cases d <;> first | exact True.intro | skip
    unfold reprI
    dsimp only
    split
    · rename_i z
      cases hx.int
      exact fun Q hQ => .inr ⟨_, rfl, z, hQ _ _ (Same.refl _) (show Rep _ _ _ _ from .str _)⟩
    · trivial
end

/-! ### sorted -/
def sortD (ds : List D) : List D := ds.mergeSort fun a b => !PySem.W.dataLt b.py a.py
def D.nonTup : D → Bool | .non => false | .tup _ => false | _ => true
def D.tup1 : D → Bool | .tup (_ :: _) => true | _ => false
def sortOk (ds : List D) : Bool := decide (ds.length ≤ sizeLine) && PyData.plainAll (D.pyL ds) && (ds.all fun a => ds.all fun b => PySem.W.alike a.py b.py) && (ds.all D.nonTup || ds.all D.tup1) && ds.all fun a => decide (a.py.depth ≤ 100)
section
variable {X : Cx} {E : XK} {k : Nat}
def rSortG (K : PySem.W.Frag) : List V → Hp → VK → Prop := fun vs H Q => ∃ a xs ds, vs = [V.ref a] ∧ SqL K H a xs ∧ DpAll K H xs (D.pyL ds) ∧ sortOk ds = true ∧ ∀ (ps : List (V × D)) (p : Addr), ps.map (·.2) = sortD ds → (∀ q ∈ ps, q ∈ xs.zip ds) → ps.length = ds.length → H p = none → Q (.ref p) (upd H p (.lst (ps.map (·.1))))
theorem DpAll.len {K : PySem.W.Frag} {H : Hp} : ∀ {vs : List V} {ds : List D}, DpAll K H vs (D.pyL ds) → vs.length = ds.length
  | _, [], .nil => rfl
  | _, _ :: _, .cons _ b => congrArg (· + 1) (DpAll.len b)
theorem each_zip {K : PySem.W.Frag} {σ : L2.St} {pins : List (Addr × Obj)} {H : Hp} {s : Shared} (I : Inv X pins σ H s) : ∀ {xs : List V} {ds : List D} {us : List Value}, DpAll X.K H xs (D.pyL ds) → Vals xs us →
    PySem.W.EachIs (fun u (b : V × D) => RelV b.1 u) us (xs.zip ds) ∧ PySem.W.EachIs (fun u (b : V × D) => ∃ as, Reads s.heap u b.2.py as) us (xs.zip ds)
  | _, [], _, .nil, .nil => ⟨.nil, .nil⟩
  | _, d :: ds, _, .cons a b, .cons r rs => by
    obtain ⟨h1, h2⟩ := each_zip (K := K) I b rs
    exact ⟨.cons r h1, .cons (Dp.reads I _ _ _ a r) h2⟩
theorem each_vals : ∀ {us : List Value} {ps : List (V × D)}, PySem.W.EachIs (fun u (b : V × D) => RelV b.1 u) us ps → Vals (ps.map (·.1)) us
  | _, _, .nil => .nil
  | _, _, .cons a b => .cons a (each_vals b)
theorem zip_snd {α β : Type} : ∀ {xs : List α} {ys : List β}, xs.length = ys.length → (xs.zip ys).map (·.2) = ys
  | [], [], _ => rfl
  | [], _ :: _, h => by cases h
  | _ :: _, [], h => by cases h
  | x :: xs, y :: ys, h => by
    show y :: (xs.zip ys).map (·.2) = _
    rw [zip_snd (by simpa using h)]
theorem cr_sortG (hr : Room k X.A) : CallR X (.builtin "sorted") (rSortG X.K) := by
  intro pins s σ H vs us Q I rv hq
  obtain ⟨a, xs, ds, rfl, hs, hd, ok, q⟩ := hq
  obtain ⟨its, ri, hl, hz⟩ := I.list hs
  rw [Vals.ref1 rv]
  obtain ⟨e1, e2⟩ := each_zip (K := X.K) I hd ri
  have hlen := DpAll.len hd
  have hsnd : (xs.zip ds).map (·.2) = ds := zip_snd hlen
  have hmem : ∀ b ∈ xs.zip ds, b.2 ∈ ds := fun b hb => by rw [← hsnd]; exact List.mem_map_of_mem hb
  simp only [sortOk, Bool.and_eq_true, Bool.or_eq_true, decide_eq_true_eq] at ok
  obtain ⟨⟨⟨⟨k1, k2⟩, k3⟩, k4⟩, k5⟩ := ok
  have hlz : (xs.zip ds).length = ds.length := by rw [List.length_zip]; omega
  have hu := hr.un
  refine PySem.W.sorted_data (enc := fun b : V × D => b.2.py) hl.isList e1 e2 ?_ ?_ (by omega) (fun b hb => ?_) fun out ho eo => ?_
  · intro d h1 d' h2
    obtain ⟨b, hb, rfl⟩ := List.mem_map.mp h1
    obtain ⟨b', hb', rfl⟩ := List.mem_map.mp h2
    have := List.all_eq_true.mp k3 _ (hmem b hb)
    exact List.all_eq_true.mp this _ (hmem b' hb')
  · rcases k4 with c | c
    · refine .inr fun d h1 => ?_
      obtain ⟨b, hb, rfl⟩ := List.mem_map.mp h1
      have := List.all_eq_true.mp c _ (hmem b hb)
      cases e : b.2 <;> rw [e] at this <;> first | (cases this; done) | exact ⟨(fun z => by simp only [D.py] at z; cases z), (fun ys z => by simp only [D.py] at z; cases z)⟩
    · refine .inl fun d h1 => ?_
      obtain ⟨b, hb, rfl⟩ := List.mem_map.mp h1
      have := List.all_eq_true.mp c _ (hmem b hb)
      cases e : b.2 <;> rw [e] at this <;> first | (cases this; done) | skip
      rename_i ys
      cases ys with
      | nil => cases this
      | cons y r => exact ⟨y.py, D.pyL r, by simp only [D.py, D.pyL]⟩
  · have := List.all_eq_true.mp k5 _ (hmem b hb)
    have : b.2.py.depth ≤ 100 := of_decide_eq_true this
    omega
  · obtain ⟨ep, he'⟩ := PyProof.Rows.sortedAll_at s.heap its out.toArray
    have hp : ((xs.zip ds).mergeSort (PySem.W.dataLe false fun b => b.2.py)).length = ds.length := by rw [List.length_mergeSort]; exact hlz
    refine ⟨.ref _, upd H (s.heap.objs.size + 1) (.lst (((xs.zip ds).mergeSort (PySem.W.dataLe false fun b => b.2.py)).map (·.1))), I.laid (t' := s.toks) (fun _ _ => PyProof.Rows.sortedAll_old) (Nat.le_succ _) ⟨by rw [List.length_map]; omega, out, ep, each_vals eo, he'⟩, rfl, q _ _ ?_ ?_ hp (I.hok.fresh (Nat.le_succ _))⟩
    · unfold sortD
      rw [List.map_mergeSort (s := fun a b : D => !PySem.W.dataLt b.py a.py), hsnd]
      intro a _ b _
      rfl
    · exact fun z hz => (List.mergeSort_perm _ _).mem_iff.mp hz
def gSorted (x : DV) : R DV := match x.1 with
  | .lst ds => if sortOk ds = true then .ok (.lst (sortD ds), .ow) else .no
  | _ => .no
theorem repl_zip {K : PySem.W.Frag} {H : Hp} : ∀ {vs : List V} {ds : List D}, RepL K H vs ds → ∀ q ∈ vs.zip ds, Rep K H q.1 q.2
  | _, _, .nil, q, h => nomatch h
  | _, _, .cons a b, q, h => by
    rcases List.mem_cons.mp h with e | e
    · subst e; exact a
    · exact repl_zip b q e
theorem repl_of {K : PySem.W.Frag} {H : Hp} : ∀ {ps : List (V × D)}, (∀ q ∈ ps, Rep K H q.1 q.2) → RepL K H (ps.map (·.1)) (ps.map (·.2))
  | [], _ => .nil
  | p :: r, h => .cons (h p List.mem_cons_self) (repl_of fun q hq => h q (List.mem_cons_of_mem _ hq))
theorem cb_sorted (hr : Room k X.A) : CB X E (.builtin "sorted") (one gSorted) := cb1 (cr_sortG hr) fun B O0 H0 H O x v s dom hx => by
  obtain ⟨d, kk⟩ := x
  cases d <;> first | exact True.intro | skip
  rename_i ds
  obtain ⟨a, vs, rfl, h1, h2⟩ := hx.lst
  unfold gSorted
  dsimp only
  split
  · rename_i c
    have pl : PyData.plainAll (D.pyL ds) = true := by
      simp only [sortOk, Bool.and_eq_true] at c
      exact c.1.1.1.2
    refine fun Q hQ => ⟨a, vs, ds, rfl, h1, (h2.mono off_sub).dp pl, c, fun ps p e1 e2 e3 hp => ?_⟩
    have rr : RepL X.K (off O H) (ps.map (·.1)) (ps.map (·.2)) := repl_of fun q hq => repl_zip h2 q (e2 q hq)
    rw [e1] at rr
    have hz : (ps.map (·.1)).length ≤ sizeLine := by
      rw [List.length_map, e3]
      simp only [sortOk, Bool.and_eq_true, decide_eq_true_eq] at c
      exact c.1.1.1.1
    exact (ev_lst (mg := X.mg) (E := E) (B := B) (O0 := O0) dom rr Q fun v' H' s' o => hQ v' H' s' o) p hp
  · trivial
end
end FK
namespace FK
open PySem PySem.Spec L2
open PyProof.Rows hiding St

/-! ### list(range(n)) -/
def lrg1 (x : DV) : R DV := match x.1 with
  | .int j => if 0 ≤ j ∧ j ≤ 16777216 then .ok (.lst (rangeL 0 1 j.toNat), .ow) else .no
  | _ => .no
theorem repl_rg {K : PySem.W.Frag} {H : Hp} (j : Int) : RepL K H (rgV 0 j) (rangeL 0 1 j.toNat) := by
  unfold rgV rangeL
  rw [Int.sub_zero]
  generalize List.range j.toNat = l
  induction l with
  | nil => exact .nil
  | cons i r ih => exact .cons (show Rep K H (V.int (0 + (i : Nat))) (D.int (0 + (i : Nat) * 1)) by rw [Int.mul_one]; exact .int _) ih
section
variable {X : Cx} {E : XK} {e : Expr} {p : Env → R DV} {pos pp : Pos}
theorem de_listRg1 {pos2 : Pos} {pp2 : Pos} (hc : X.calm = true) (hg2 : Gl X "list") (hm2 : X.mg "list" = none) (hg : Gl X "range") (hm : X.mg "range" = none) (ha : DE X E e p)
    (na : starEach [e] X.env = (false, eval e X.env) :: starEach [] X.env := by rfl) (na2 : starEach [.Call (.Name "range" pp) [e] [] pos] X.env = (false, eval (.Call (.Name "range" pp) [e] [] pos) X.env) :: starEach [] X.env := by rfl) :
    DE X E (.Call (.Name "list" pp2) [.Call (.Name "range" pp) [e] [] pos] [] pos2) (fun ρ => (p ρ).bind lrg1) := by
  obtain ⟨t, h1, h2⟩ := ha.ex
  refine ⟨_, pe_listRg hc hg2 hm2 (prg_1 hg hm h1 na) na2, fun B F O0 H O σ ρ R => ?_⟩
  refine EvG.bind (T1 := fun x H1 Q => ∃ n, x = .int n ∧ RgOk 0 n ∧ ∀ q, H1 q = none → Q (V.ref q) (upd H1 q (.lst (rgV 0 n)))) (h2 B F O0 H O σ ρ R) fun x v H1 s1 r1 => ?_
  obtain ⟨d, kk⟩ := x
  cases d <;> first | exact True.intro | skip
  rename_i j
  obtain rfl := r1.int
  unfold lrg1
  dsimp only
  split
  · rename_i c
    refine fun Q hQ => ⟨j, rfl, RgOk.of_le (Int.le_refl _) c.2 (by omega) c.1, ?_⟩
    exact ev_lst (mg := X.mg) (E := E) (B := B) (O0 := O0) (R.more s1).dom (repl_rg j) Q fun v' H' s' o => hQ v' H' s' (Out.mono o s1 (Same.refl _))
  · trivial
end

/-! ### the law's own def: called once, by the claim's caller, where no guard stands -/
section
variable {P : Program} {w : World} {K : PySem.W.Frag} {mg : Str → Option Value} {base : Heap}
/-- what the law's def keeps when it is called from a place without guards -/
def GRun (P : Program) (w : World) (K : PySem.W.Frag) (mg : Str → Option Value) (base : Heap) (k : Nat) (f : Addr) (fd : FuncData) (ps : List Str) (sp : Sp) : Prop :=
  ∀ (A : Around) (s : Shared) (H : Hp) (args : Args) (us : List Value) (vs : List V) (Q : VK) (E : XK), A.guards = some [] → Room k A → Env0 P w K mg base A [] s H →
    BindsTo s fd args (ps.zip us) → Vals vs us → sp vs H Q E → codeAny (model P w) A (.call (.ref f) args) (CR (L2.CX P w) [] P w H s Q E) s
theorem grun_of {x qual : Str} {st : Stmt} {f : Addr} {fd : FuncData} {N ps : List Str} {k : Nat} {sp : Sp} (F : Fun K x qual st f fd) (S : FnScope N ps (defScope st)) (len : ∀ vs H Q E, sp vs H Q E → vs.length = ps.length)
    (body : ∀ (cdv : Value) (A : Around) (s : Shared) (H : Hp) (vs : List V) (Q : VK) (E : XK), A.guards = some [] → Room k (A.deeper (envOfC qual (defScope st) s.heap.objs.size f cdv)) → sp vs H Q E →
      ∃ t, PSs (bodyX P w K mg base N qual st f cdv A [] s H E) (defBody st) t ∧ t { nx := fun _ H' => Q .non H', rt := Q } (L2.start N vs) H) : GRun P w K mg base (k + 1) f fd ps sp := by
  obtain ⟨oc, od, kV, doc, pm, an, cdv, ct, osl, rfl, lk, hcd⟩ := F.ex
  intro A s H args us vs Q E hg hr e0 hb r hsp
  have hl := len _ _ _ _ hsp
  have old := fun b o e => (e0.bs b o e).1
  have inK : K.In s.heap := e0.mod.kin.keeps old
  have slots : ∀ y ∈ ps.zip us, (defScope st).names.lookup y.1 = some .local ∨ ((defScope st).names.lookup y.1 = some .cell ∧ ((cellsFrom (s.heap.objs.size + 1) (defScope st).names []).lookup y.1).isSome = true) := by
    rintro ⟨n, v⟩ hy
    exact (S.par n (List.of_mem_zip hy).1).imp id fun q => ⟨q, PySem.W.cellsFrom_some _ _ _ (.inl q)⟩
  refine codeAny_call_function hr.depth (inK _ _ lk) rfl S.co S.gen rfl (PySem.W.codeRec_of inK hcd) (hb _ _ _ _ (wpAny_newFunctionEnv_cells S.kind slots ?_))
  rintro env rfl s1 x
  refine ⟨(e0.mod.nolimit.keeps old).keeps x.toInCall.keep, codeAny_func ?_⟩
  obtain ⟨t, ht, hq⟩ := body cdv A s H vs Q E hg (hr.deeper _) hsp
  refine wpAny_mono (ht.run [] s1 (L2.start N vs) H _ (inv_start S hr.hd e0 hl r x) hq) ?_ fun _ _ z => z
  rintro (_ | _ | _ | u) s' hs
  all_goals first
    | (obtain ⟨v, σ', H', J, rv, q⟩ := hs; exact ⟨v, H', J.os, J.bare, J.base, J.hok, rv, q⟩)
    | (obtain ⟨σ', H', J, q⟩ := hs; exact ⟨V.non, H', J.os, J.bare, J.base, J.hok, rfl, q⟩)
    | (obtain ⟨_, _, _, q⟩ := hs; exact q.elim)
/-- the law's def by its mirror -/
theorem law_rule {x qual : Str} {st : Stmt} {f : Addr} {fd : FuncData} {N ps : List Str} {k n : Nat} {m : Env → SO} (F : Fun K x qual st f fd) (S : FnScope N ps (defScope st)) (hn : ps.length = n)
    (body : ∀ (cdv : Value) (A : Around) (s : Shared) (H : Hp) (E : XK), (bodyX P w K mg base N qual st f cdv A [] s H E).A.guards = some [] → Room k (bodyX P w K mg base N qual st f cdv A [] s H E).A → DSs (bodyX P w K mg base N qual st f cdv A [] s H E) E (defBody st) m) :
    GRun P w K mg base (k + 1) f fd ps (spD K mg n (runD N.length m)) := by
  refine grun_of F S (fun vs H Q E h => by rw [hn]; exact h.1) fun cdv A s H vs Q E hg hr h => ?_
  obtain ⟨hl, O, as, dom, ha, hend⟩ := h
  obtain ⟨t, h1, h2⟩ := (body cdv A s H E hg hr).ex
  refine ⟨t, h1, h2 H (off O H) O H O _ _ _ (start_sr dom ha) ?_⟩
  unfold runD at hend
  show EndsOk K mg H (off O H) O { nx := fun _ H' => Q .non H', rt := Q } E (m (as.map some ++ List.replicate (N.length - as.length) none))
  cases q : m (as.map some ++ List.replicate (N.length - as.length) none) with
  | nx ρ => rw [q] at hend; exact fun σ' H' O' R => hend .non H' R.base (show Rep _ _ _ _ from .non)
  | rt y => rw [q] at hend; exact fun v H' s' r => hend v H' s' r
  | bk ρ => rw [q] at hend; exact hend.elim
  | ct ρ => rw [q] at hend; exact hend.elim
  | ex e => rw [q] at hend; exact hend
  | no => rw [q] at hend; exact hend.elim
end

/-! ### the end of a row -/
theorem walk_fk {l : PySem.W.OpenLaw} {n k : Nat} {q : Program} {loose : List Str} {XP : (Str → Option Value) → Heap → Prop} {YP : World → Heap → Prop} {d : DefRec} {K : Params → PySem.W.Frag} {x : Str} {m : List DV → R DV}
    (hn : l.most = some n) (hn2 : n ≤ sizeLine) (hdf : d.params.defaults = []) (hr : Room k callerA) (hY : ∀ (w : World) (h : Heap), YP w h → (K w.params).In h)
    (F : ∀ (w : World) (mg : Str → Option Value) (fa : Addr) (h : Heap), (K w.params).In h → h.Ns mainGlobals mg → mg d.name = some (.ref fa) →
      ∃ fd : FuncData, (∀ (s : Shared) (u : Value), BindsTo s fd ⟨[u], []⟩ [(x, u)]) ∧ ∀ base : Heap, (K w.params).In base → base.Ns mainGlobals mg → GRun l.prog w (K w.params) mg base k fa fd [x] (spD (K w.params) mg 1 m))
    (hm : ∀ ns : List Int, ns.length ≤ n → m [(.lst (ns.map .int), .fz)] = .ok (.bl true, .fz)) :
    PySem.W.WalkO q loose XP YP l.row.toRowW d [] (fun f vs => PySem.call f vs) := by
  refine Att.attach_call hn hdf ?_
  intro w s₀ s₁ mg mb fa o pm cd doc a vs ns G Y ho hd hcd hmg hobj hints hlen hg
  have KX := hY w _ Y
  obtain ⟨fd, hb, hF⟩ := F w mg fa _ KX G.T.g hmg
  have rv := vals_ints hints
  have hz : ns.length ≤ sizeLine := Nat.le_trans hlen hn2
  -- the heap as it is tracked: the script alone, or nothing where the script is one of the module's objects
  obtain ⟨H, hA, hS, hok, hK⟩ : ∃ H : Hp, (∀ b, H b = none ∨ (b = a ∧ ∃ ob u, H b = some (.frz ob u))) ∧ SqL (K w.params) H a (ns.map V.int) ∧ HOk l.prog w H s₁.heap ∧ (∀ b o, (K w.params).lookup b = some o → H b = none) := by
    cases hk : (K w.params).lookup a with
    | some ob =>
      have e := KX a ob hk
      rw [hobj] at e
      cases e
      exact ⟨fun _ => none, fun _ => .inl rfl, .inr ⟨_, vs.toArray, _, hk, rfl, rfl, rfl, by rw [List.size_toArray, hints.length]; exact hz, by simpa using rv⟩, (fun b u z => by cases z), fun _ _ _ => rfl⟩
    | none =>
      refine ⟨upd (fun _ => none) a (.frz { cls := .type "list", data := .seq vs.toArray } (.lst (ns.map V.int))), fun b => ?_, .inl (.inr ⟨_, upd_same⟩), fun b u z => ?_, fun b o hb => ?_⟩
      · by_cases c : b = a
        · subst c; exact .inr ⟨rfl, _, _, upd_same⟩
        · rw [upd_ne c]; exact .inl rfl
      · by_cases c : b = a
        · subst c
          rw [upd_same] at z
          cases z
          exact ⟨hobj, by rw [List.length_map]; exact hz, vs, _, rv, hobj⟩
        · rw [upd_ne c] at z; cases z
      · by_cases c : b = a
        · subst c; rw [hk] at hb; cases hb
        · rw [upd_ne c]
  have free : ∀ {b : Addr} {ob : Obj} {es : Array DictEntry} {ep : Nat}, s₁.heap.get? b = some ob → ob.data = .dict es ep → H b = none := by
    intro b ob es ep e ed
    rcases hA b with z | ⟨rfl, _⟩
    · exact z
    · rw [hobj] at e
      cases e
      exact absurd (show Data.seq vs.toArray _ = Data.dict es ep from ed) (fun z => nomatch z)
  have nsH : ∀ {b : Addr} {mm : Str → Option Value}, s₁.heap.Ns b mm → (hidT s₁.heap H).Ns b mm := by
    rintro b mm ⟨ob, es, ep, e, ed, r⟩
    exact ⟨ob, es, ep, hidT_get e (free e ed), ed, r⟩
  have kH : (K w.params).In (hidT s₁.heap H) := fun b ob e => hidT_get (KX b ob e) (hK b ob e)
  have hM : Mod (K w.params) mg (hidT s₁.heap H) := by
    obtain ⟨mc, z1, z2⟩ := G.T.nolimit
    exact ⟨kH, nsH G.T.g, ⟨mb, nsH G.T.b, G.T.builtins⟩, mc, nsH z1, z2⟩
  have e0 : Env0 l.prog w (K w.params) mg (hidT s₁.heap H) callerA [] s₁ H := by
    refine ⟨rfl, hM, fun b ob e => of_hidT e, Nat.le_of_eq (hidT_size _ _), trivial, fun b z => ?_, hok, .of_eq hg⟩
    cases z
  have hsp : spD (K w.params) mg 1 m [.ref a] H (fun v _ => v = .bl true) fun _ _ _ => False := by
    refine ⟨rfl, fun _ => False, [(.lst (ns.map .int), .fz)], fun _ z => z.elim, .cons ?_ .nil, ?_⟩
    · refine show Rep _ _ _ _ from .lst (vs := ns.map V.int) ?_ ?_
      · have : off (fun _ => False) H = H := by
          funext b
          unfold off
          simp
        rw [this]; exact hS
      · generalize ns = l
        induction l with
        | nil => exact .nil
        | cons z r ih => exact .cons (.int _) ih
    · rw [hm ns hlen]
      intro v H' _ r
      cases (show Rep _ _ v (.bl true) from r)
      rfl
  refine codeAny_mono (hF _ kH (nsH G.T.g) callerA s₁ H ⟨[.ref a], []⟩ [.ref a] [.ref a] _ _ rfl hr e0 (hb s₁ (.ref a)) (.cons rfl .nil) hsp) ?_
  intro r s' h
  rcases r with e | (_ | _ | _ | u)
  all_goals first
    | (obtain ⟨v, H', os, bare, un, hok', r', q⟩ := h
       cases (show v = .bl true from q)
       obtain rfl : u = Value.bool true := r'
       refine ⟨rfl, OldK.of_keep fun b ob e => ?_, os, bare⟩
       rcases hA b with z | ⟨_, ob', uu, z⟩
       · exact un.keep b ob e z (fun zz => nomatch zz) (fun zz => nomatch zz)
       · have e1 := (hok b _ z).1
         rw [e] at e1
         cases e1
         exact (hok' b _ (un.frzs b _ _ z)).1)
    | exact h.elim
    | (obtain ⟨_, _, _, _, _, _, _, _, _, _, _, _, z⟩ := h; exact z.elim)
end FK
namespace FK
open PySem PySem.Spec L2
open PyProof.Rows hiding St
/-! ### the mirror's words -/
abbrev kNon : Env → R DV := fun _ => .ok (.non, .fz)
abbrev kBl (b : Bool) : Env → R DV := fun _ => .ok (.bl b, .fz)
abbrev kInt (i : Int) : Env → R DV := fun _ => .ok (.int i, .fz)
abbrev kStr (s : Str) : Env → R DV := fun _ => .ok (.str s, .fz)
abbrev kDk : Env → R DV := fun _ => .ok (.dk [], .ow)
abbrev kDt : Env → R DV := fun _ => .ok (.dt [], .ow)
abbrev kTrue : Env → R Bool := fun _ => .ok true
abbrev aNil : Env → R (List DV) := fun _ => .ok []
abbrev aCons (p : Env → R DV) (q : Env → R (List DV)) : Env → R (List DV) := fun ρ => (p ρ).bind fun x => (q ρ).bind fun xs => .ok (x :: xs)
abbrev oNone : Env → R (Option Int) := fun _ => .ok none
abbrev oSome (p : Env → R DV) : Env → R (Option Int) := fun ρ => (p ρ).bind intD
abbrev mTup (q : Env → R (List DV)) : Env → R DV := fun ρ => (q ρ).bind mkTup
abbrev mLst (q : Env → R (List DV)) : Env → R DV := fun ρ => (q ρ).bind mkLst
abbrev mSlice (p : Env → R DV) (a b : Env → R (Option Int)) : Env → R DV := fun ρ => (p ρ).bind fun x => (a ρ).bind fun l => (b ρ).bind fun u => slD x l u
abbrev mLrg1 (p : Env → R DV) : Env → R DV := fun ρ => (p ρ).bind lrg1
abbrev mIs (p : Env → R DV) (T : String) : Env → R DV := fun ρ => (p ρ).bind fun d => isTy T d.1
abbrev mNeg (p : Env → R DV) : Env → R DV := fun ρ => (p ρ).bind negD
abbrev mItems (p : Env → R DV) : Env → R (List D × Kd) := fun ρ => (p ρ).bind itemsD
abbrev mRg1 (p : Env → R DV) : Env → R (List D × Kd) := fun ρ => (p ρ).bind rg1
abbrev mRg2 (p q : Env → R DV) : Env → R (List D × Kd) := fun ρ => (p ρ).bind fun x => (q ρ).bind fun y => rg2 x y
abbrev mEnum (p : Env → R DV) : Env → R (List D × Kd) := fun ρ => (p ρ).bind enumD
abbrev gName (i : Nat) : D → Env → Option Env := fun d ρ => some (ρ.set i (some (d, .fz)))
abbrev gTup (n : Nat) (f : List D → Env → Option Env) : D → Env → Option Env := fun d ρ => match d with | .tup ds => if ds.length = n then f ds ρ else none | _ => none
abbrev mPass : Env → SO := fun ρ => .nx ρ
abbrev mBreak : Env → SO := fun ρ => .bk ρ
abbrev mCont : Env → SO := fun ρ => .ct ρ
abbrev mRetN : Env → SO := fun _ => .rt (.non, .fz)
abbrev mNever : Env → SO := fun _ => .no
abbrev mRet (p : Env → R DV) : Env → SO := fun ρ => (p ρ).st retD
abbrev mExpr (p : Env → R DV) : Env → SO := fun ρ => (p ρ).st fun _ => .nx ρ
abbrev mIf (t : Env → R Bool) (a b : Env → SO) : Env → SO := fun ρ => (t ρ).st fun c => if c then a ρ else b ρ
abbrev mSeq (a b : Env → SO) : Env → SO := fun ρ => (a ρ).seq b
abbrev mFrz (i : Nat) (m : Env → SO) : Env → SO := fun ρ => m (frzS i ρ)
end FK
namespace FK
open PySem PySem.Spec L2
open PyProof.Rows hiding St

/-! ### min, max of three -/
def gI3 (f : Int → Int → Int → Int) (x y z : DV) : R DV := match x.1, y.1, z.1 with | .int i, .int j, .int k => .ok (.int (f i j k), .fz) | _, _, _ => .no
def mn2 (i j : Int) : Int := if j < i then j else i
def mx2 (i j : Int) : Int := if i < j then j else i
section
variable {X : Cx} {E : XK}
theorem cb3 {f : Value} {r : List V → Hp → VK → Prop} {g : DV → DV → DV → R DV} (hc : CallR X f r)
    (h : ∀ (B : Hp) (O0 : Own) (H0 H : Hp) (O : Own) (x y z : DV) (v w u : V), Same H0 H → (∀ a, O a → H a ≠ none) → Out X.K B O0 H0 H O v x → Out X.K B O0 H0 H O w y → Out X.K B O0 H0 H O u z → EvG X.K X.mg O E H (g x y z) (ORel X.K B O0 H O) (fun Q => r [v, w, u] H Q)) : CB X E f (three g) :=
  ⟨r, hc, fun B O0 H0 H O xs vs s d o => match xs, vs, o with
    | [], _, _ => True.intro
    | [_], _, _ => True.intro
    | [_, _], _, _ => True.intro
    | [x, y, z], _, .cons a (.cons b (.cons c .nil)) => h B O0 H0 H O x y z _ _ _ s d a b c
    | _ :: _ :: _ :: _ :: _, _, _ => True.intro⟩
theorem ev_i3 {f : Int → Int → Int → Int} {r : List V → Hp → VK → Prop} (hr : ∀ H i j k (Q : VK), Q (.int (f i j k)) H → r [.int i, .int j, .int k] H Q) (B : Hp) (O0 : Own) (H0 H : Hp) (O : Own) (x y z : DV) (v w u : V) (s : Same H0 H) (dom : ∀ a, O a → H a ≠ none) (hx : Out X.K B O0 H0 H O v x) (hy : Out X.K B O0 H0 H O w y) (hz : Out X.K B O0 H0 H O u z) :
    EvG X.K X.mg O E H (gI3 f x y z) (ORel X.K B O0 H O) (fun Q => r [v, w, u] H Q) := by
  obtain ⟨d, kk⟩ := x
  obtain ⟨d2, k2⟩ := y
  obtain ⟨d3, k3⟩ := z
  cases d <;> first | exact True.intro | skip
  cases d2 <;> first | exact True.intro | skip
  cases d3 <;> first | exact True.intro | skip
  cases hx.int
  cases hy.int
  cases hz.int
  exact fun Q hQ => hr _ _ _ _ _ (hQ _ _ (Same.refl _) (show Rep _ _ _ _ from .int _))
theorem cb_min3 (hc : X.calm = true) : CB X E (.builtin "min") (three (gI3 fun i j k => mn2 (mn2 i j) k)) := cb3 (call_min3Nu hc) (ev_i3 fun H i j k Q q => ⟨_, _, _, _, rfl, (by
  show nuMin3 (.int i) (.int j) (.int k) = some (.int (mn2 (mn2 i j) k))
  unfold nuMin3 nuMin2 nuLt nuCB mn2
  by_cases h : j < i
  · simp [h]
    by_cases h2 : k < j <;> simp [h2]
  · simp [h]
    by_cases h2 : k < i <;> simp [h2]), q⟩)
theorem cb_max3 (hc : X.calm = true) : CB X E (.builtin "max") (three (gI3 fun i j k => mx2 (mx2 i j) k)) := cb3 (call_max3Nu hc) (ev_i3 fun H i j k Q q => ⟨_, _, _, _, rfl, (by
  show nuMax3 (.int i) (.int j) (.int k) = some (.int (mx2 (mx2 i j) k))
  unfold nuMax3 nuMax2 nuLt nuCB mx2
  by_cases h : i < j
  · simp [h]
    by_cases h2 : j < k <;> simp [h2]
  · simp [h]
    by_cases h2 : i < k <;> simp [h2]), q⟩)
end
/-! ### is True, is False -/
def isBoolD (g : Bool → Bool) (x y : DV) : R DV := match x, y with
  | (.bl a, .fz), (.bl b, .fz) => .ok (.bl (g (decide (a = b))), .fz)
  | _, _ => .no
section
variable {X : Cx} {E : XK}
theorem co_isB : CO X E .Is (isBoolD id) := ⟨_, op_isBl, fun B O0 H0 H O x y v w s dom hx hy => by
  obtain ⟨d, kk⟩ := x
  obtain ⟨d2, k2⟩ := y
  cases d <;> first | exact True.intro | skip
  cases kk <;> first | exact True.intro | skip
  cases d2 <;> first | exact True.intro | skip
  cases k2 <;> first | exact True.intro | skip
  cases hx.bl
  cases hy.bl
  exact fun Q hQ => ⟨_, _, rfl, rfl, hQ _ _ (Same.refl _) (show Rep _ _ _ _ from .bl _)⟩⟩
theorem co_isnB : CO X E .IsNot (isBoolD (!·)) := ⟨_, op_notBl, fun B O0 H0 H O x y v w s dom hx hy => by
  obtain ⟨d, kk⟩ := x
  obtain ⟨d2, k2⟩ := y
  cases d <;> first | exact True.intro | skip
  cases kk <;> first | exact True.intro | skip
  cases d2 <;> first | exact True.intro | skip
  cases k2 <;> first | exact True.intro | skip
  cases hx.bl
  cases hy.bl
  exact fun Q hQ => ⟨_, _, rfl, rfl, hQ _ _ (Same.refl _) (show Rep _ _ _ _ from .bl _)⟩⟩
end
end FK
namespace FK
open PySem PySem.Spec L2
open PyProof.Rows hiding St

/-! ### comprehensions of two fors -/
def cI (K : PySem.W.Frag) (q : Env → R (List D × Kd)) : TI := fun σ H Q => ∃ (B F : Hp) (O0 O : Own) (ρ : Env) (x : List D × Kd), SR K B F O0 H O σ ρ ∧ q ρ = .ok x ∧ ∀ J H', Same H H' → ItOk K (off O H') (srcH B O H' x.2) J x.1 → Q J H'
theorem DI.canon {X : Cx} {E : XK} {tg iter : Expr} {q : Env → R (List D × Kd)} (h : DI X E tg iter q) : PI X tg iter (cI X.K q) := by
  obtain ⟨t, h1, h2⟩ := h.ex
  refine ⟨fun pins s σ H Q I z => ?_⟩
  obtain ⟨B, F, O0, O, ρ, x, R, ex, hQ⟩ := z
  have := h2 B F O0 H O σ ρ R
  rw [ex] at this
  exact h1.run pins s σ H Q I (this Q hQ)
def lcM2 (f : D → Env → Option Env) (pt : Env → R Bool) (q1 : Env → R (List D × Kd)) (f1 : D → Env → Option Env) (pt1 : Env → R Bool) (pe : Env → R DV) (vs1 : List Nat) : List D → Env → R (List D)
  | [], _ => .ok []
  | d :: ds, ρ => match f d ρ with
    | none => .no
    | some ρ1 => (pt ρ1).quiet.bind fun b => if b then (q1 ρ1).quiet.bind fun x => if x.2 = .al then .no else (lcM f1 pt1 pe x.1 (wipeD ρ1 vs1)).bind fun r1 => (lcM2 f pt q1 f1 pt1 pe vs1 ds ρ).bind fun r => .ok (r1 ++ r)
      else lcM2 f pt q1 f1 pt1 pe vs1 ds ρ
abbrev mLc2 (q : Env → R (List D × Kd)) (f : D → Env → Option Env) (pt : Env → R Bool) (q1 : Env → R (List D × Kd)) (f1 : D → Env → Option Env) (pt1 : Env → R Bool) (pe : Env → R DV) (vs vs1 : List Nat) : Env → R DV := fun ρ =>
  (q ρ).bind fun x => (lcM2 f pt q1 f1 pt1 pe vs1 x.1 (wipeD ρ vs)).quiet.bind fun r => if r.length ≤ sizeLine then .ok (.lst r, .ow) else .no
theorem wipe_wipe (vs : List Nat) (σ : L2.St) : wipe (wipe σ vs) vs = wipe σ vs := by
  induction vs generalizing σ with
  | nil => rfl
  | cons v r ih =>
    show (wipe ((wipe σ r).set v none) r).set v none = (wipe σ r).set v none
    by_cases c : v ∈ r
    · rw [wipe_set v r _ c, ih]
    · have comm : ∀ (r : List Nat) (τ : L2.St), v ∉ r → wipe (τ.set v none) r = (wipe τ r).set v none := by
        intro r
        induction r with
        | nil => intro _ _; rfl
        | cons w r ih2 =>
          intro τ h
          have h1 : v ≠ w := fun e => h (by rw [e]; exact List.mem_cons_self)
          have h2 : v ∉ r := fun e => h (List.mem_cons_of_mem _ e)
          show (wipe (τ.set v none) r).set w none = ((wipe τ r).set w none).set v none
          rw [ih2 τ h2, List.set_comm _ _ h1]
      rw [comm r _ c, ih, List.set_set]
/-- targets store frozen values, at their own names alone -/
def TgOk (is : List Nat) (f : D → Env → Option Env) : Prop := ∀ d ρ ρ', f d ρ = some ρ' → ∀ j, (j ∈ is → ∀ y, ρ'[j]? = some (some y) → y.2 = .fz ∨ ρ[j]? = some (some y)) ∧ (j ∉ is → ρ'[j]? = ρ[j]?)
def TgsOk (is : List Nat) (f : List D → Env → Option Env) : Prop := ∀ ds ρ ρ', f ds ρ = some ρ' → ∀ j, (j ∈ is → ∀ y, ρ'[j]? = some (some y) → y.2 = .fz ∨ ρ[j]? = some (some y)) ∧ (j ∉ is → ρ'[j]? = ρ[j]?)
theorem tk_name (i : Nat) : TgOk [i] (fun d ρ => some (ρ.set i (some (d, .fz)))) := fun d ρ ρ' e j => by
  cases e
  refine ⟨fun h y z => ?_, fun h => ?_⟩
  · cases List.mem_singleton.mp h
    by_cases c : i < ρ.length
    · rw [List.getElem?_set_self c] at z
      cases z
      exact .inl rfl
    · rw [List.getElem?_eq_none (by rw [List.length_set]; omega)] at z; cases z
  · have : i ≠ j := fun z => h (by rw [z]; exact List.mem_singleton.mpr rfl)
    exact List.getElem?_set_ne this
theorem tks_nil : TgsOk [] gsNil := fun ds ρ ρ' e j => by
  cases ds with
  | nil => cases e; exact ⟨(fun h => nomatch h), fun _ => rfl⟩
  | cons => cases e
theorem tks_cons {is js : List Nat} {f : D → Env → Option Env} {g : List D → Env → Option Env} (h : TgOk is f) (k : TgsOk js g) : TgsOk (is ++ js) (gsCons f g) := fun ds ρ ρ' e j => by
  cases ds with
  | nil => cases e
  | cons d r =>
    have e : (f d ρ).bind (g r) = some ρ' := e
    cases q : f d ρ with
    | none => rw [q] at e; cases e
    | some ρ1 =>
      rw [q] at e
      obtain ⟨a1, a2⟩ := h d ρ ρ1 q j
      obtain ⟨b1, b2⟩ := k r ρ1 ρ' e j
      refine ⟨fun hj y z => ?_, fun hj => ?_⟩
      · by_cases c : j ∈ js
        · rcases b1 c y z with w | w
          · exact .inl w
          · by_cases c2 : j ∈ is
            · exact a1 c2 y w
            · rw [a2 c2] at w; exact .inr w
        · rw [b2 c] at z
          exact a1 ((List.mem_append.mp hj).resolve_right c) y z
      · rw [b2 fun z => hj (List.mem_append_right _ z), a2 fun z => hj (List.mem_append_left _ z)]
theorem tk_tup {is : List Nat} {n : Nat} {f : List D → Env → Option Env} (h : TgsOk is f) : TgOk is (fun d ρ => match d with | .tup ds => if ds.length = n then f ds ρ else none | _ => none) := fun d ρ ρ' e j => by
  cases d <;> first | (cases e; done) | skip
  dsimp only at e
  split at e
  · exact h _ _ _ e j
  · cases e
theorem wipeD_get : ∀ (vs : List Nat) (ρ : Env) (j : Nat) (y : DV), (wipeD ρ vs)[j]? = some (some y) → j ∉ vs ∧ ρ[j]? = some (some y)
  | [], ρ, j, y, h => ⟨(fun z => nomatch z), h⟩
  | v :: vs, ρ, j, y, h => by
    by_cases c : v = j
    · subst c
      have h : ((wipeD ρ vs).set v none)[v]? = some (some y) := h
      by_cases l : v < (wipeD ρ vs).length
      · rw [List.getElem?_set_self l] at h; cases h
      · rw [List.getElem?_eq_none (by rw [List.length_set]; omega)] at h; cases h
    · have h : ((wipeD ρ vs).set v none)[j]? = some (some y) := h
      rw [List.getElem?_set_ne c] at h
      obtain ⟨h1, h2⟩ := wipeD_get vs ρ j y h
      exact ⟨fun z => (List.mem_cons.mp z).elim (fun e => c e.symm) h1, h2⟩
theorem wipe_at : ∀ (vs : List Nat) (σ : L2.St) (j : Nat), j ∉ vs → (wipe σ vs)[j]? = σ[j]?
  | [], _, _, _ => rfl
  | v :: vs, σ, j, h => by
    show ((wipe σ vs).set v none)[j]? = _
    rw [List.getElem?_set_ne fun z => h (by rw [z]; exact List.mem_cons_self)]
    exact wipe_at vs σ j fun z => h (List.mem_cons_of_mem _ z)
section
variable {X : Cx} {E : XK} {tg iter tg1 iter1 elt : Expr} {pe : Env → R DV} {pt pt1 : Env → R Bool} {pos : Pos} {is is1 : List Nat} {f f1 : D → Env → Option Env} {q1 : Env → R (List D × Kd)}
theorem bind_ok_inv {α β : Type} {r : R α} {f : α → R β} {y : β} (h : r.bind f = .ok y) : ∃ x, r = .ok x ∧ f x = .ok y := by
  cases r with
  | ok x => exact ⟨x, rfl, h⟩
  | ex e => cases h
  | no => cases h
theorem quiet_ok {α : Type} {r : R α} {y : α} (h : r.quiet = .ok y) : r = .ok y := by
  cases r with
  | ok x => exact h
  | ex e => cases h
  | no => cases h
theorem ev_lc2 {wi : TI} {own : List (Str × Nat)} {vs1 : List Nat} {q : Env → R (List D × Kd)} {B F H : Hp} {O0 O : Own} {σ : L2.St} {ρ : Env} (R : SR X.K B F O0 H O σ ρ) (hi : EvG X.K X.mg O E H (q ρ) (fun x J H' => ItOk X.K (off O H') (srcH B O H' x.2) J x.1) (wi σ H)) (his : ∀ i ∈ is, i ∈ own.map (·.2)) (his1 : ∀ i ∈ is1, i ∈ vs1) (tk : TgOk is f) :
    EvG X.K X.mg O E H (mLc2 q f pt q1 f1 pt1 pe (own.map (·.2)) vs1 ρ) (ORel X.K B O0 H O) (tLc2 wi (cG X.K is f) (cTT X.K pt) (cI X.K q1) (cG X.K is1 f1) (cTT X.K pt1) (cT X.K pe) (own.map (·.2)) vs1 σ H) := by
  generalize hvs : own.map (·.2) = vs at *
  refine EvG.bind (T1 := fun J H1 Q => ∀ D, H1 D = none → ∃ W : Nat → Nat → Hp → Prop, (∃ m, W 0 m (upd H1 D (.lst []))) ∧ ∀ i m H, W i m H →
    (J.stop i H ∧ Q (V.ref D) H) ∨ (J.go i H ∧ ∃ Nx : Hp → Prop, (∀ H', Nx H' → ∃ m', m' < m ∧ W (i + 1) m' H') ∧ ∀ x H', J.yld i H x H' → cG X.K is f x (wipe σ vs) H' fun σ2 H2 => wipe σ2 vs = wipe σ vs ∧ cTT X.K pt σ2 H2 fun b H3 =>
      if b = true then cI X.K q1 σ2 H3 fun J1 H4 => ∃ W1 : Nat → Nat → Hp → Prop, (∃ m, W1 0 m H4) ∧ ∀ j k H, W1 j k H →
        (J1.stop j H ∧ Nx H) ∨ (J1.go j H ∧ ∃ Nx1 : Hp → Prop, (∀ H', Nx1 H' → ∃ k', k' < k ∧ W1 (j + 1) k' H') ∧ ∀ x H', J1.yld j H x H' → cG X.K is1 f1 x (wipe σ2 vs1) H' fun σ3 H5 => wipe σ3 vs1 = wipe σ2 vs1 ∧ cTT X.K pt1 σ3 H5 fun b H6 =>
          if b = true then cT X.K pe σ3 H6 fun y H7 => ∃ acc, H7 D = some (.lst acc) ∧ acc.length < sizeLine ∧ Nx1 (upd H7 D (.lst (acc ++ [y]))) else Nx1 H6)
      else Nx H3)) hi fun x J H1 s1 it => ?_
  obtain ⟨ds, kk⟩ := x
  dsimp only at it ⊢
  cases qr : (lcM2 f pt q1 f1 pt1 pe vs1 ds (wipeD ρ vs)).quiet with
  | no => trivial
  | ex z => cases h : lcM2 f pt q1 f1 pt1 pe vs1 ds (wipeD ρ vs) <;> rw [h] at qr <;> cases qr
  | ok r =>
    have qr := quiet_ok qr
    rw [FK.R.bind_ok]
    split
    · rename_i hsz
      refine fun Q hQ D hD => ?_
      have R1 := R.more s1
      have nD : ¬ O D := fun z => R1.dom D z hD
      have oD : plus O D D := .inr rfl
      have bD : B D = none := R1.base.free hD
      have hw := R1.wipe vs
      have noslot : ∀ (j : Nat) (y : DV), (wipeD ρ vs)[j]? = some (some y) → y.2 = .ow → (wipe σ vs)[j]? ≠ some (some (.ref D)) := fun j y e1 e2 e3 => by
        obtain ⟨v, g1, g2⟩ := hw.slot j y e1
        rw [e3] at g1
        cases g1
        obtain ⟨d2, k2⟩ := y
        cases (show k2 = .ow from e2)
        obtain ⟨b, eb, ob, _, _⟩ := g2
        cases eb
        exact nD ob
      have srcS : Same (srcH B O H1 kk) H1 := by
        cases kk with
        | fz => exact off_sub
        | ow => exact off_sub
        | bo => exact R1.base
        | al => exact Same.refl _
      refine ⟨fun i m H' => m = ds.length - i ∧ i ≤ ds.length ∧ Same H1 H' ∧ ∃ acc done rr, H' D = some (.lst acc) ∧ RepL X.K (off (plus O D) H') acc done ∧ lcM2 f pt q1 f1 pt1 pe vs1 (ds.drop i) (wipeD ρ vs) = .ok rr ∧ done ++ rr = r ∧ SR X.K B F O0 H' (plus O D) (wipe σ vs) (wipeD ρ vs),
        ⟨ds.length, by omega, Nat.zero_le _, same_upd hD, [], [], r, upd_same, .nil, qr, rfl, hw.grow (same_upd hD) hD (by rw [upd_same]; exact fun z => nomatch z)⟩, ?_⟩
      rintro i m H' ⟨rfl, hi, sH, acc, done, rr, hacc, hdone, hrr, htot, R'⟩
      obtain ⟨i1, i2, i3⟩ := it i H' (srcS.trans sH)
      by_cases hlt : i < ds.length
      · rw [List.drop_eq_getElem_cons hlt] at hrr
        unfold lcM2 at hrr
        cases e1 : f ds[i] (wipeD ρ vs) with
        | none => simp only [e1] at hrr; cases hrr
        | some ρ1 =>
          simp only [e1] at hrr
          refine .inr ⟨i1 hlt, fun H' => Same H1 H' ∧ ∃ acc done rr, H' D = some (.lst acc) ∧ RepL X.K (off (plus O D) H') acc done ∧ lcM2 f pt q1 f1 pt1 pe vs1 (ds.drop (i + 1)) (wipeD ρ vs) = .ok rr ∧ done ++ rr = r ∧ SR X.K B F O0 H' (plus O D) (wipe σ vs) (wipeD ρ vs),
            fun H' h => ⟨ds.length - (i + 1), by omega, rfl, hlt, h⟩, fun v H4 y => ?_⟩
          obtain ⟨s4, r4⟩ := i3 v H4 ds[i] y (List.getElem?_eq_getElem hlt)
          have R4 := R'.more s4
          have fS : Same (off O H1) (off (plus O D) H') := fun b o h => by
            obtain ⟨h1, h2⟩ := off_some h
            exact off_of (fun z => z.elim h1 fun e => by subst e; rw [hD] at h2; cases h2) (sH _ _ h2)
          refine ⟨B, F, O0, plus O D, wipeD ρ vs, ρ1, ds[i], R4, r4 _ R'.dom fS, e1, fun σ5 R5 w5 => ?_⟩
          refine ⟨(w5 vs fun i hi => by exact his i hi).trans (wipe_wipe vs σ), ?_⟩
          obtain ⟨b, e2, hrr⟩ := bind_ok_inv hrr
          have e2 := quiet_ok e2
          refine ⟨B, F, O0, plus O D, ρ1, b, R5, e2, fun H6 s6 => ?_⟩
          have s46 := s4.trans s6
          cases b with
          | false => exact ⟨sH.trans s46, acc, done, rr, s46 _ _ hacc, hdone.mono (off_mono s46), hrr, htot, R'.more s46⟩
          | true =>
            obtain ⟨⟨ds1, k1⟩, e3, hrr⟩ := bind_ok_inv hrr
            have e3 := quiet_ok e3
            dsimp only at hrr
            by_cases hal : k1 = .al
            · rw [if_pos hal] at hrr; cases hrr
            rw [if_neg hal] at hrr
            obtain ⟨r1, e4, hrr⟩ := bind_ok_inv hrr
            obtain ⟨r2, e5, hrr⟩ := bind_ok_inv hrr
            cases hrr
            show cI X.K q1 σ5 H6 _
            refine ⟨B, F, O0, plus O D, ρ1, (ds1, k1), R5.more s6, e3, fun J1 H7 s7 it1 => ?_⟩
            dsimp only at it1
            have s47 := s46.trans s7
            have R7 := (R5.more s6).more s7
            have sD7 : H7 D = some (.lst acc) := s47 _ _ hacc
            have noslot1 : ∀ (j : Nat) (y : DV), (wipeD ρ1 vs1)[j]? = some (some y) → y.2 = .ow → (wipe σ5 vs1)[j]? ≠ some (some (.ref D)) := fun j y h1 h2 => by
              obtain ⟨n1, h1⟩ := wipeD_get vs1 ρ1 j y h1
              rw [wipe_at vs1 σ5 j n1]
              obtain ⟨t1, t2⟩ := tk _ _ _ e1 j
              by_cases c : j ∈ is
              · rcases t1 c y h1 with z | z
                · rw [h2] at z; cases z
                · exact absurd (his j c) (wipeD_get vs ρ j y z).1
              · rw [t2 c] at h1
                have := w5 is fun _ z => z
                have h3 : (wipe σ5 is)[j]? = (wipe (wipe σ vs) is)[j]? := by rw [this]
                rw [wipe_at is σ5 j c, wipe_at is _ j c] at h3
                rw [h3]
                exact noslot j y h1 h2
            refine ⟨fun j k H' => k = ds1.length - j ∧ j ≤ ds1.length ∧ Same H1 H' ∧ Same (srcH B (plus O D) H7 k1) H' ∧ Same (off (plus O D) H7) (off (plus O D) H') ∧ ∃ acc done rr1, H' D = some (.lst acc) ∧ RepL X.K (off (plus O D) H') acc done ∧ lcM f1 pt1 pe (ds1.drop j) (wipeD ρ1 vs1) = .ok rr1 ∧ done ++ (rr1 ++ r2) = done ++ (rr1 ++ r2) ∧ done ++ (rr1 ++ r2) = r ∧ SR X.K B F O0 H' (plus O D) (wipe σ5 vs1) (wipeD ρ1 vs1) ∧ SR X.K B F O0 H' (plus O D) (wipe σ vs) (wipeD ρ vs),
              ⟨ds1.length, by omega, Nat.zero_le _, sH.trans s47, ?_, Same.refl _, acc, done, r1, sD7, hdone.mono (off_mono s47), e4, rfl, htot, R7.wipe vs1, R'.more s47⟩, ?_⟩
            · cases k1 with
              | fz => exact off_sub
              | ow => exact off_sub
              | bo => exact R7.base
              | al => exact absurd rfl hal
            rintro j k H8 ⟨rfl, hj, sH8, sS8, sO8, acc, done, rr1, hacc, hdone, hrr1, _, htot, R8, R8'⟩
            obtain ⟨j1, j2, j3⟩ := it1 j H8 sS8
            by_cases hlt1 : j < ds1.length
            · rw [List.drop_eq_getElem_cons hlt1] at hrr1
              unfold lcM at hrr1
              cases g1 : f1 ds1[j] (wipeD ρ1 vs1) with
              | none => simp only [g1] at hrr1; cases hrr1
              | some ρ2 =>
                simp only [g1] at hrr1
                refine .inr ⟨j1 hlt1, fun H' => Same H1 H' ∧ Same (srcH B (plus O D) H7 k1) H' ∧ Same (off (plus O D) H7) (off (plus O D) H') ∧ ∃ acc done rr1, H' D = some (.lst acc) ∧ RepL X.K (off (plus O D) H') acc done ∧ lcM f1 pt1 pe (ds1.drop (j + 1)) (wipeD ρ1 vs1) = .ok rr1 ∧ done ++ (rr1 ++ r2) = done ++ (rr1 ++ r2) ∧ done ++ (rr1 ++ r2) = r ∧ SR X.K B F O0 H' (plus O D) (wipe σ5 vs1) (wipeD ρ1 vs1) ∧ SR X.K B F O0 H' (plus O D) (wipe σ vs) (wipeD ρ vs),
                  fun H' h => ⟨ds1.length - (j + 1), by omega, rfl, hlt1, h⟩, fun v H9 y => ?_⟩
                obtain ⟨s9, r9⟩ := j3 v H9 ds1[j] y (List.getElem?_eq_getElem hlt1)
                have R9 := R8.more s9
                refine ⟨B, F, O0, plus O D, wipeD ρ1 vs1, ρ2, ds1[j], R9, r9 _ R8.dom sO8, g1, fun σ10 R10 w10 => ?_⟩
                refine ⟨(w10 vs1 fun i hi => by exact his1 i hi).trans (wipe_wipe vs1 σ5), ?_⟩
                obtain ⟨b1, g2, hrr1⟩ := bind_ok_inv hrr1
                have g2 := quiet_ok g2
                refine ⟨B, F, O0, plus O D, ρ2, b1, R10, g2, fun H11 s11 => ?_⟩
                have s911 := s9.trans s11
                cases b1 with
                | false => exact ⟨sH8.trans s911, sS8.trans s911, sO8.trans (off_mono s911), acc, done, rr1, s911 _ _ hacc, hdone.mono (off_mono s911), hrr1, rfl, htot, R8.more s911, R8'.more s911⟩
                | true =>
                  obtain ⟨x, g3, hrr1⟩ := bind_ok_inv hrr1
                  have g3 := quiet_ok g3
                  show cT X.K pe σ10 H11 _
                  refine ⟨B, F, O0, plus O D, ρ2, x, R10.more s11, g3, fun y H12 s12 o12 => ?_⟩
                  have s912 := s911.trans s12
                  cases g4 : keep1 x with
                  | none => rw [g4] at hrr1; cases hrr1
                  | some yd =>
                    rw [g4] at hrr1
                    obtain ⟨rr3, g5, hrr1⟩ := bind_ok_inv hrr1
                    cases hrr1
                    refine ⟨acc, s912 _ _ hacc, ?_, ?_⟩
                    · have h1 := hdone.length
                      have h2 := congrArg List.length htot
                      simp only [List.length_append, List.length_cons] at h2
                      omega
                    · have hk : Rep X.K (off (plus O D) H12) y yd := Out.keep o12 g4
                      have hne : ∀ {b : Addr} {o : HO} {Hs : Hp}, Hs b = some o → Hs D = none → b ≠ D := fun h z e => by subst e; rw [z] at h; cases h
                      refine ⟨fun b o h => by rw [upd_ne (hne h hD)]; exact s912 _ _ (sH8 _ _ h), fun b o h => ?_, fun b o h => ?_, acc ++ [y], done ++ [yd], rr3, upd_same, ?_, g5, rfl, ?_, (R8.more s912).writeT oD bD noslot1, (R8'.more s912).writeT oD bD noslot⟩
                      · have sd : srcH B (plus O D) H7 k1 D = none := by
                          cases k1 with
                          | fz => show off (plus O D) H7 D = none; unfold off; rw [if_pos oD]
                          | ow => show off (plus O D) H7 D = none; unfold off; rw [if_pos oD]
                          | bo => exact bD
                          | al => exact absurd rfl hal
                        rw [upd_ne (hne h sd)]
                        exact s912 _ _ (sS8 _ _ h)
                      · rw [off_upd oD]
                        exact off_mono s912 _ _ (sO8 _ _ h)
                      · rw [off_upd oD]
                        exact (hdone.mono (off_mono s912)).append (.cons hk .nil)
                      · rw [List.append_assoc]; exact htot
            · have e : j = ds1.length := by omega
              subst e
              rw [List.drop_length] at hrr1
              cases hrr1
              exact .inl ⟨j2 (Nat.le_refl _), sH8, acc, done, r2, hacc, hdone, e5, htot, R8'⟩
      · have e : i = ds.length := by omega
        subst e
        rw [List.drop_length] at hrr
        cases hrr
        rw [List.append_nil] at htot
        subst htot
        exact .inl ⟨i2 (Nat.le_refl _), hQ _ _ sH ⟨D, rfl, s1.free hD, nD, acc, hacc, hdone⟩⟩
    · trivial
theorem de_lc2 {ifs ifs1 : List Expr} {scope : Scope} {own : List (Str × Nat)} {vs1 : List Nat} {q : Env → R (List D × Kd)} (hc : X.calm = true) (hN : X.N.Nodup) (hi : DI X E tg iter q) (ok : BlkOk X.N X.env.scope scope own) (his : ∀ i ∈ is, i ∈ own.map (·.2)) (his1 : ∀ i ∈ is1, i ∈ vs1) (hv : ∀ i ∈ vs1, i ∈ own.map (·.2)) (tk : TgOk is f)
    (hg : ∀ (s : Shared) (H : Hp) (C : Addr) (cl : List (Str × Addr)) (fp : List Addr), DG (X.blk s H scope (compEnvC scope cl C X.env) fp) tg is f)
    (ht : ∀ (s : Shared) (H : Hp) (C : Addr) (cl : List (Str × Addr)) (fp : List Addr), DTs (X.blk s H scope (compEnvC scope cl C X.env) fp) E0 ifs pt)
    (hi1 : ∀ (s : Shared) (H : Hp) (C : Addr) (cl : List (Str × Addr)) (fp : List Addr), DI (X.blk s H scope (compEnvC scope cl C X.env) fp) E0 tg1 iter1 q1)
    (hg1 : ∀ (s : Shared) (H : Hp) (C : Addr) (cl : List (Str × Addr)) (fp : List Addr), DG (X.blk s H scope (compEnvC scope cl C X.env) fp) tg1 is1 f1)
    (ht1 : ∀ (s : Shared) (H : Hp) (C : Addr) (cl : List (Str × Addr)) (fp : List Addr), DTs (X.blk s H scope (compEnvC scope cl C X.env) fp) E0 ifs1 pt1)
    (he : ∀ (s : Shared) (H : Hp) (C : Addr) (cl : List (Str × Addr)) (fp : List Addr), DE (X.blk s H scope (compEnvC scope cl C X.env) fp) E0 elt pe) (hs : ∀ x, foldedSetIterable iter X.env x = pure x := by intro _; rfl) (hs1 : ∀ env x, foldedSetIterable iter1 env x = pure x := by intro _ _; rfl) :
    DE X E (.ListComp elt [⟨tg, iter, ifs, 0⟩, ⟨tg1, iter1, ifs1, 0⟩] scope pos) (mLc2 q f pt q1 f1 pt1 pe (own.map (·.2)) vs1) := by
  obtain ⟨wi, a1, a2⟩ := hi.ex
  refine ⟨_, pe_lc2 hc hN a1 ok hv (g := cG X.K is f) (tt := cTT X.K pt) (wi1 := cI X.K q1) (g1 := cG X.K is1 f1) (tt1 := cTT X.K pt1) (te := cT X.K pe) (fun s H C cl fp => (hg s H C cl fp).canon) (fun s H C cl fp => (ht s H C cl fp).ex) (fun s H C cl fp => (hi1 s H C cl fp).canon) (fun s H C cl fp => (hg1 s H C cl fp).canon) (fun s H C cl fp => (ht1 s H C cl fp).ex) (fun s H C cl fp => (he s H C cl fp).canon) hs hs1, fun B F O0 H O σ ρ R => ?_⟩
  exact ev_lc2 R (a2 B F O0 H O σ ρ R) his his1 tk
end
end FK
namespace FK
open PySem PySem.Spec L2
open PyProof.Rows hiding St

/-! ### max(xs, default=d) -/
theorem dpAll_ints {K : PySem.W.Frag} {H : Hp} : ∀ ns : List Int, DpAll K H (ns.map V.int) (ns.map PyData.int)
  | [] => .nil
  | n :: r => .cons (.int n) (dpAll_ints r)
def gMaxDef (x y : DV) : R DV := match x.1, y.1 with
  | .lst xs, .int d => (match intsD xs with | some ns => .ok (.int (if ns = [] then d else maxI ns), .fz) | none => .no)
  | _, _ => .no
section
variable {X : Cx} {E : XK} {k : Nat}
def rMaxDef (K : PySem.W.Frag) : List V → List V → Hp → VK → Prop := fun vs zs H Q => ∃ a ns d, vs = [V.ref a] ∧ SqL K H a (ns.map V.int) ∧ zs = [V.int d] ∧ Q (.int (if ns = [] then d else maxI ns)) H
theorem cr_maxDef (hc : X.calm = true) (hr : Room k X.A) : CallRK X (.builtin "max") [Str.ofString "default"] (rMaxDef X.K) := by
  intro pins s σ H xs zs us ws Q I r rz h
  obtain ⟨a, ns, d, rfl, hs, rfl, q⟩ := h
  obtain ⟨its, ri, hl, hz⟩ := I.list hs
  rw [Vals.ref1 r]
  obtain ⟨w1, rfl, t0, rfl⟩ := vals1 rz
  obtain ⟨as, ra⟩ := Dp.readsAll I _ _ _ (dpAll_ints ns) ri
  have hdep : PyData.depthAll (ns.map PyData.int) = 0 := PySem.W.depth_ints ns
  have hu := hr.un
  refine PySem.W.max_list_default (vs := its.toArray) (xs := ns.map PyData.int) (I.ok.hd hc) hl.isList (by simpa using ra) ⟨?_, ?_⟩ (by rw [hdep]; omega) (fun e h' tk hk => ?_) fun y ys i v h' tk bs e hv rv hk => ?_
  · intro x hx y hy
    obtain ⟨i, _, rfl⟩ := List.mem_map.mp hx
    obtain ⟨j, _, rfl⟩ := List.mem_map.mp hy
    simp [PySem.W.alike]
  · intro x hx
    obtain ⟨i, _, rfl⟩ := List.mem_map.mp hx
    exact fun z => by cases z
  · have : ns = [] := List.map_eq_nil_iff.mp e
    rw [if_pos this] at q
    exact ⟨.int d, H, I.kept hk, ⟨_, rfl⟩, q⟩
  · cases ns with
    | nil => cases e
    | cons n r =>
      cases e
      rw [PySem.W.maxD_ints] at rv
      cases rv
      rw [if_neg (by simp)] at q
      exact ⟨.int _, H, I.kept hk, ⟨_, rfl⟩, q⟩
theorem de_maxDef {x : Str} {e d : Expr} {kpos pos pp : Pos} {p pd : Env → R DV} (hc : X.calm = true) (hg : Gl X x) (hm : X.mg x = none) (hv : bootBuiltins x = some (.builtin "max")) (hr : Room k X.A) (ha : DE X E e p) (hd : DE X E d pd) (hn : x ≠ "__name__" := by decide) (hdb : (x == ("__debug__" : Str)) = false := by decide)
    (hs : starEach [e] X.env = (false, eval e X.env) :: starEach [] X.env := by rfl)
    (he : backTo pos (starEach [e] X.env) = (false, eval e X.env) :: backTo pos (starEach [] X.env) := by rfl) (hpl : (backTo pos (starEach [e] X.env)).any (·.1) = false := by rfl)
    (hall : (backToKw pos (keywordEach [⟨some "default", d, kpos⟩] X.env)).all (·.1.isSome) = true := by rfl) (hnone : (backToKw pos (keywordEach [⟨some "default", d, kpos⟩] X.env)).any (·.1.isNone) = false := by rfl) (hks : (backToKw pos (keywordEach [⟨some "default", d, kpos⟩] X.env)).filterMap (·.1) = [Str.ofString "default"] := by rfl) :
    DE X E (.Call (.Name x pp) [e] [⟨some "default", d, kpos⟩] pos) (fun ρ => (p ρ).bind fun x => (pd ρ).bind fun y => gMaxDef x y) := by
  obtain ⟨t, h1, h2⟩ := ha.ex
  obtain ⟨u, g1, g2⟩ := hd.ex
  refine ⟨_, pe_callBK (cr_maxDef hc hr) hg hm hv (pa_cons h1 pa_nil hs) (pk_cons g1 pk_nil) hn hdb he hpl hall hnone hks, fun B F O0 H O σ ρ R => ?_⟩
  refine EvG.bind (T1 := fun x H1 Q => u σ H1 fun y H2 => rMaxDef X.K [x] [y] H2 Q) (h2 B F O0 H O σ ρ R) fun x v H1 s1 r1 => ?_
  refine EvG.bind (T1 := fun y H2 Q => rMaxDef X.K [v] [y] H2 Q) (g2 B F O0 H1 O σ ρ (R.more s1)) fun y w H2 s2 r2 => ?_
  obtain ⟨d1, k1⟩ := x
  obtain ⟨d2, k2⟩ := y
  cases d1 <;> first | exact True.intro | skip
  cases d2 <;> first | exact True.intro | skip
  rename_i ds n
  unfold gMaxDef
  dsimp only
  have r1' := Out.mono r1 (Same.refl _) s2
  obtain ⟨a, vs, rfl, q1, q2⟩ := r1'.lst
  cases r2.int
  cases q : intsD ds with
  | none => trivial
  | some ns =>
    cases intsD_eq q
    rw [RepL.of_ints q2] at q1
    exact fun Q hQ => ⟨a, ns, n, rfl, q1, rfl, hQ _ _ (Same.refl _) (show Rep _ _ _ _ from .int _)⟩
end
end FK
namespace FK
open PySem PySem.Spec L2
open PyProof.Rows hiding St

/-! FX: try with several clauses, each with a name or without; raise of own errors; calls by keywords; defs that call themselves. -/
section
variable {X : Cx} {pins : List (Addr × Obj)} {σ : L2.St} {H : Hp} {s : Shared}
structure Cl where
  c : Value
  i : Option Nat
  ts : Addr → Value → Option Addr → TS
def clD (i : Option Nat) (D : Ends) : Ends := match i with
  | none => D
  | some i => { nx := fun σ' H' => D.nx (σ'.set i none) H', rt := D.rt, bk := fun σ' H' => D.bk (σ'.set i none) H', ct := fun σ' H' => D.ct (σ'.set i none) H' }
def clS (i : Option Nat) (a : Addr) (σ : L2.St) : L2.St := match i with
  | none => σ
  | some i => σ.set i (some (.ref a))
def wCl (K : PySem.W.Frag) (Wout : WX) (D : Ends) : List Cl → WX
  | [] => Wout
  | x :: r => fun cls d σ H => ∃ b, PySem.W.exmOne K cls x.c = some b ∧ (b = true → ∀ a, H a = none → x.ts a cls d (clD x.i D) (clS x.i a σ) H) ∧ (b = false → wCl K Wout D r cls d σ H)
inductive HdsA (X : Cx) : List ExceptHandler → List Cl → Prop
  | nil : HdsA X [] []
  | no {x : Str} {c : Value} {ts : Addr → Value → Option Addr → TS} {b₀ : Stmt} {suite : List Stmt} {np pos' : Pos} {hds : List ExceptHandler} {l : List Cl} (hc : Names X x c)
      (hsu : ∀ (a : Addr) (oe : Obj) (cls : Value) (d : Option Addr) (pn : List (Addr × Obj)), Zc cls d oe → (∃ vs, oe.data = .fields vs) → PSs (X.suite a ((a, oe) :: pn)) (b₀ :: suite) (ts a cls d)) (r : HdsA X hds l) :
      HdsA X (.ExceptHandler (some (.Name x np)) none (b₀ :: suite) pos' :: hds) (⟨c, none, ts⟩ :: l)
  | as {x n : Str} {i : Nat} {c : Value} {ts : Addr → Value → Option Addr → TS} {b₀ : Stmt} {suite : List Stmt} {np pos' : Pos} {hds : List ExceptHandler} {l : List Cl} (hc : Names X x c) (hi : X.N[i]? = some n) (hln : X.env.kindOf n = some .local)
      (hsu : ∀ (a : Addr) (oe : Obj) (cls : Value) (d : Option Addr) (pn : List (Addr × Obj)), Zc cls d oe → (∃ vs, oe.data = .fields vs) → PSs (X.suite a ((a, oe) :: pn)) (b₀ :: suite) (ts a cls d)) (r : HdsA X hds l) :
      HdsA X (.ExceptHandler (some (.Name x np)) (some n) (b₀ :: suite) pos' :: hds) (⟨c, some i, ts⟩ :: l)
end
section
variable {X : Cx} {body : List Stmt} {h₀ : ExceptHandler} {hds : List ExceptHandler} {l : List Cl} {pos : Pos} {tb : WX → TS} {Wout : WX}
theorem ps_tryA (hs : X.stack = X.env :: X.outer) (hf : X.env.frame = some X.env.locals) (hN : X.N.Nodup) (tk : Takes X Wout)
    (hb : ∀ (W : WX) (pn : List (Addr × Obj)) (xe : Value → Shared → Prop), Takes (X.tr pn xe) W → PassesOwn (model X.prog X.w) X.A X.env xe → PSs (X.tr pn xe) body (tb W))
    (hh : HdsA X (h₀ :: hds) l) : PS X (.Try body (h₀ :: hds) [] [] pos) (fun D σ H => tb (wCl X.K Wout D l) D σ H) := by
  refine ⟨fun pins s σ H D I h => ?_⟩
  have ok := I.ok
  have hfr : X.A.frames = some (X.env :: X.outer) := by rw [ok.frames, hs]
  refine wpAny_Try_except ?_
  refine wpAny_mono ((hb (wCl X.K Wout D l) (X.pn ++ pins) (fun e s₁ => wpAny (model X.prog X.w) X.A (noteFrame e X.env) (fun _ s₂ => wpAny (model X.prog X.w) X.A (setFlight e none) (fun _ s₃ =>
    wpAny (model X.prog X.w) X.A (handleBy e X.env (h₀ :: hds)) (SP X pins D) X.xe s₃) X.xe s₂) X.xe s₁) (fun u s' xx => ?_) PassesOwn.looking).run [] s σ H D (I.toTry _) h) (fun f s1 hsp => ?_) (fun e s1 he => he)
  · obtain ⟨a, B, sI, pins', σ', H', cls, d, rfl, J', nb, up, sky, na, os, ag, w⟩ := xx
    have J : Inv X pins σ' H' sI := J'.ofTry ok
    have sky' : Sky B (X.env :: X.outer) a (Zc cls d) X.env.locals s'.heap := by rw [← hs]; exact sky
    show wpAny (model X.prog X.w) X.A (noteFrame (.ref a) X.env) _ _ _
    refine Sky.land Zc.steady hfr hf sky' fun h3 fl3 up3 => ?_
    have J3 : Inv X pins σ' H' { s' with heap := h3 } := J.landed nb fl3.1 (up.trans up3) os ag
    obtain ⟨oe3, vs3, he3, hz3, hd3⟩ := fl3.there
    have notFr : ∀ {h : Heap} {o : Obj} {vs : Array Value}, h.FunFrames B (X.env :: X.outer) → h.get? a = some o → o.data = .fields vs → a ∉ frs (X.env :: X.outer) := fun {h o vs} ff e dd hm => by
      obtain ⟨_, o', e', hnf⟩ := ff.mem hm
      rw [e] at e'; cases e'
      exact hnf _ dd
    have nfr := notFr fl3.2.2.1 he3 hd3
    have nL : a ≠ X.env.locals := fun z => nfr (List.mem_filterMap.mpr ⟨X.env, List.mem_cons_self, by rw [hf, z]⟩)
    have nF : a ∉ X.fs := fun hm => by
      obtain ⟨e, he, q⟩ := List.mem_filterMap.mp hm
      exact nfr (List.mem_filterMap.mpr ⟨e, List.mem_cons_of_mem _ he, q⟩)
    have S3 := J3.suite he3 hd3 na nL nF
    have go : ∀ {hds' : List ExceptHandler} {l' : List Cl}, HdsA X hds' l' → wCl X.K Wout D l' cls d σ' H' →
        wpAny (model X.prog X.w) X.A (handleBy (.ref a) X.env hds') (SP X pins D) X.xe { s' with heap := h3 } := by
      intro hds' l' hk
      induction hk with
      | nil =>
        intro w
        refine wpAny_handleBy_nil ?_
        obtain ⟨k1, k2, k3, oe, vs, T, oT, ts', he, hz, hd, h1, hr⟩ := id fl3
        unfold PySem.passOn
        refine wpAny_bind (wpAny_field he hd h1 ?_)
        rw [if_neg (show ¬ ((Value.ref T == Value.none) = true) from by simp)]
        have fin : wpAny (model X.prog X.w) X.A (setFlight (.ref a) X.env.frame) (fun _ s4 => wpAny (model X.prog X.w) X.A (throw (.ref a) : Sem Flow) (SP X pins D) X.xe s4) X.xe { s' with heap := h3 } := by
          rw [hf]
          refine HandSPX.setFlight_upZ fl3 fun h4 hh4 up4 => wpAny_throw (tk _ _ ?_)
          exact ⟨a, B, sI, pins, σ', H', cls, d, rfl, J, nb, (up.trans up3).trans up4, .inr (.inr (by rw [hs]; exact hh4)), na, os, ag, w⟩
        first
          | exact wpAny_bind (wpAny_pure (wpAny_bind fin))
          | exact wpAny_bind fin
      | @no x c ts b₀ suite np pos' hds2 l2 hc hsu r ih =>
        intro w
        obtain ⟨b, hb1, hyes, hno⟩ := w
        refine wpAny_handleBy_cons (codeAny_handlers_test ?_) (by intro q; cases q)
        have LT : PySem.W.Looks (model X.prog X.w) h3 (typeOf (.ref a)) cls := fun A Q E s k q => wpAny_typeOf_ref (k _ _ he3) (by rw [hz3.1]; exact q)
        have LM := PySem.W.exm_one (M := model X.prog X.w) (J3.kIn) LT hb1
        have test : ∀ {Q : Value → Shared → Prop} {E : Value → Shared → Prop}, Q c { s' with heap := h3 } → wpAny (model X.prog X.w) (X.A.mark (some (.ref a))) (eval (.Name x np) X.env) Q E { s' with heap := h3 } := fun {Q E} q => by
          obtain ⟨hg, hdbg, hm | ⟨hm, hv, hnn⟩⟩ := hc
          · exact ld_glob (X := X.suite a ((a, oe3) :: (X.pn ++ pins))) S3 hg hm q hdbg
          · exact ld_blt (X := X.suite a ((a, oe3) :: (X.pn ++ pins))) S3 hg hm hv q hnn hdbg
        refine test (LM.here ?_)
        cases b with
        | true =>
          refine codeAny_handlers_suite ?_
          refine HandSPX.lands_againZ fl3 fun h4 fl4 up4 => ?_
          have J4 : Inv X pins σ' H' { s' with heap := h4 } := J.landed nb fl4.1 ((up.trans up3).trans up4) os ag
          obtain ⟨oe4, vs4, he4, hz4, hd4⟩ := fl4.there
          have S4 := J4.suite he4 hd4 na nL nF
          refine wpAny_mono ((hsu a oe4 cls d (X.pn ++ pins) hz4 ⟨_, hd4⟩).run [] _ _ H' _ S4 (hyes rfl a na)) (fun f s6 hsp => ?_) (fun _ _ z => False.elim z)
          cases f with
          | next =>
            obtain ⟨σ6, H6, S6, q6⟩ := hsp
            exact ⟨_, _, S6.unsuite ok, q6⟩
          | brk =>
            obtain ⟨σ6, H6, S6, q6⟩ := hsp
            exact ⟨_, _, S6.unsuite ok, q6⟩
          | cont =>
            obtain ⟨σ6, H6, S6, q6⟩ := hsp
            exact ⟨_, _, S6.unsuite ok, q6⟩
          | ret u =>
            obtain ⟨v6, σ6, H6, S6, r6, q6⟩ := hsp
            exact ⟨_, _, _, S6.unsuite ok, r6, q6⟩
        | false =>
          show wpAny _ X.A (handleBy (.ref a) X.env hds2) _ _ _
          exact ih (hno rfl)
      | @as x n i c ts b₀ suite np pos' hds2 l2 hc hi hln hsu r ih =>
        intro w
        obtain ⟨b, hb1, hyes, hno⟩ := w
        have hloc : Loc X.env.scope n := .inl hln
        refine wpAny_handleBy_cons (codeAny_handlers_test ?_) (by intro q; cases q)
        have LT : PySem.W.Looks (model X.prog X.w) h3 (typeOf (.ref a)) cls := fun A Q E s k q => wpAny_typeOf_ref (k _ _ he3) (by rw [hz3.1]; exact q)
        have LM := PySem.W.exm_one (M := model X.prog X.w) (J3.kIn) LT hb1
        have test : ∀ {Q : Value → Shared → Prop} {E : Value → Shared → Prop}, Q c { s' with heap := h3 } → wpAny (model X.prog X.w) (X.A.mark (some (.ref a))) (eval (.Name x np) X.env) Q E { s' with heap := h3 } := fun {Q E} q => by
          obtain ⟨hg, hdbg, hm | ⟨hm, hv, hnn⟩⟩ := hc
          · exact ld_glob (X := X.suite a ((a, oe3) :: (X.pn ++ pins))) S3 hg hm q hdbg
          · exact ld_blt (X := X.suite a ((a, oe3) :: (X.pn ++ pins))) S3 hg hm hv q hnn hdbg
        refine test (LM.here ?_)
        cases b with
        | true =>
          refine codeAny_handlers_suite_as ?_
          refine HandSPX.lands_againZ fl3 fun h4 fl4 up4 => ?_
          have J4 : Inv X pins σ' H' { s' with heap := h4 } := J.landed nb fl4.1 ((up.trans up3).trans up4) os ag
          obtain ⟨oe4, vs4, he4, hz4, hd4⟩ := fl4.there
          have S4 := J4.suite he4 hd4 na nL nF
          refine store_ok (X := X.suite a ((a, oe4) :: (X.pn ++ pins))) (v := .ref a) S4 hN hi hloc rfl (fun s5 S5 => ?_) (.inr hln)
          refine wpAny_mono ((hsu a oe4 cls d (X.pn ++ pins) hz4 ⟨_, hd4⟩).run [] s5 _ H' _ S5 (hyes rfl a na)) (fun f s6 hsp => ?_) (fun _ _ z => False.elim z)
          have end_ : ∀ {σ6 : L2.St} {H6 : Hp} {Q : Shared → Prop}, Inv (X.suite a ((a, oe4) :: (X.pn ++ pins))) [] σ6 H6 s6 → (∀ s7, Inv X pins (σ6.set i none) H6 s7 → Q s7) →
              wpAny (model X.prog X.w) X.A (do bindName X.env n .none; unbindBehindTheSuite X.env n pos') (fun _ s7 => Q s7) X.xe s6 := fun {σ6 H6 Q} S6 hq => gone_ok (S6.unsuite ok) hN hi hln hq
          cases f with
          | next =>
            obtain ⟨σ6, H6, S6, q6⟩ := hsp
            exact end_ S6 fun s7 J7 => ⟨_, _, J7, q6⟩
          | brk =>
            obtain ⟨σ6, H6, S6, q6⟩ := hsp
            exact end_ S6 fun s7 J7 => ⟨_, _, J7, q6⟩
          | cont =>
            obtain ⟨σ6, H6, S6, q6⟩ := hsp
            exact end_ S6 fun s7 J7 => ⟨_, _, J7, q6⟩
          | ret u =>
            obtain ⟨v6, σ6, H6, S6, r6, q6⟩ := hsp
            exact end_ S6 fun s7 J7 => ⟨_, _, _, J7, r6, q6⟩
        | false =>
          show wpAny _ X.A (handleBy (.ref a) X.env hds2) _ _ _
          exact ih (hno rfl)
    exact go hh w
  · cases f with
    | next =>
      obtain ⟨σ', H', J', q⟩ := hsp
      exact wpAny_execs_nil ⟨σ', H', J'.ofTry ok, q⟩
    | brk =>
      obtain ⟨σ', H', J', q⟩ := hsp
      exact ⟨σ', H', J'.ofTry ok, q⟩
    | cont =>
      obtain ⟨σ', H', J', q⟩ := hsp
      exact ⟨σ', H', J'.ofTry ok, q⟩
    | ret u =>
      obtain ⟨v, σ', H', J', r, q⟩ := hsp
      exact ⟨v, σ', H', J'.ofTry ok, r, q⟩
end
end FK
namespace FK
open PySem PySem.Spec L2
open PyProof.Rows hiding St

/-! ### except suites: what they give back -/
def cS (K : PySem.W.Frag) (mg : Str → Option Value) (E : XK) (m : Env → SO) : TS := fun D σ H => ∃ (B F : Hp) (O0 O : Own) (ρ : Env), SR K B F O0 H O σ ρ ∧ EndsOk K mg B F O0 D E (m ρ)
theorem DSs.canon {X : Cx} {E : XK} {b : List Stmt} {m : Env → SO} (h : DSs X E b m) : PSs X b (cS X.K X.mg E m) := by
  obtain ⟨t, h1, h2⟩ := h.ex
  exact ⟨fun pins s σ H D I z => by
    obtain ⟨B, F, O0, O, ρ, R, e⟩ := z
    exact h1.run pins s σ H D I (h2 B F O0 H O σ ρ D R e)⟩
structure DQ (X : Cx) (i : Nat) (e : Expr) (p : Exn → R D) : Prop where
  run : ∀ (a : Addr) (oe : Obj) (cls : Value) (d : Option Addr) (pn : List (Addr × Obj)), Zc cls d oe → (∃ vs, oe.data = .fields vs) → ∃ t, PE (X.suite a ((a, oe) :: pn)) e t ∧
    ∀ (σ : L2.St) (H : Hp) (O : Own) (ex : Exn) (r : D), (∀ b, O b → H b ≠ none) → ExRep X.K X.mg O H cls d ex → σ[i]? = some (some (.ref a)) → p ex = .ok r → ∀ Q : VK, (∀ v H', Same H H' → Rep X.K (off O H') v r → Q v H') → t σ H Q
structure DQs (X : Cx) (i : Nat) (es : List Expr) (p : Exn → R (List D)) : Prop where
  run : ∀ (a : Addr) (oe : Obj) (cls : Value) (d : Option Addr) (pn : List (Addr × Obj)), Zc cls d oe → (∃ vs, oe.data = .fields vs) → ∃ t, PA (X.suite a ((a, oe) :: pn)) es t ∧
    ∀ (σ : L2.St) (H : Hp) (O : Own) (ex : Exn) (r : List D), (∀ b, O b → H b ≠ none) → ExRep X.K X.mg O H cls d ex → σ[i]? = some (some (.ref a)) → p ex = .ok r → ∀ Q : List V → Hp → Prop, (∀ v H', Same H H' → RepL X.K (off O H') v r → Q v H') → t σ H Q
theorem ExRep.mono {K : PySem.W.Frag} {mg : Str → Option Value} {O : Own} {H H' : Hp} {cls : Value} {d : Option Addr} {e : Exn} (h : ExRep K mg O H cls d e) (s : Same H H') : ExRep K mg O H' cls d e := by
  obtain ⟨C, d', fs, h1, h2, h3, h4, h5⟩ := h
  exact ⟨C, d', fs, h1, h2, h3, s _ _ h4, h5.mono (off_mono s)⟩
section
variable {X : Cx} {i : Nat} {e : Expr} {es : List Expr} {p : Exn → R D} {pl : Exn → R (List D)} {pos : Pos}
theorem dom_mono {O : Own} {H H' : Hp} (h : ∀ b, O b → H b ≠ none) (s : Same H H') : ∀ b, O b → H' b ≠ none := fun b ob z => h b ob (s.free z)
theorem dq_str {s j} : DQ X i (.Constant (.str s) j pos) (fun _ => .ok (.str s)) := ⟨fun a oe cls d pn _ _ => ⟨_, pe_str, fun σ H O ex r _ _ _ e Q hQ => by cases e; exact hQ _ _ (Same.refl _) (.str _)⟩⟩
theorem dq_int {s j} : DQ X i (.Constant (.int s) j pos) (fun _ => .ok (.int s)) := ⟨fun a oe cls d pn _ _ => ⟨_, pe_int, fun σ H O ex r _ _ _ e Q hQ => by cases e; exact hQ _ _ (Same.refl _) (.int _)⟩⟩
theorem dq_bl {s j} : DQ X i (.Constant (.bool s) j pos) (fun _ => .ok (.bl s)) := ⟨fun a oe cls d pn _ _ => ⟨_, pe_bl, fun σ H O ex r _ _ _ e Q hQ => by cases e; exact hQ _ _ (Same.refl _) (.bl _)⟩⟩
theorem dq_non {j} : DQ X i (.Constant .none j pos) (fun _ => .ok .non) := ⟨fun a oe cls d pn _ _ => ⟨_, pe_non, fun σ H O ex r _ _ _ e Q hQ => by cases e; exact hQ _ _ (Same.refl _) .non⟩⟩
def xFld (cn f : Str) (ex : Exn) : R D := if ex.cls = cn then (match ex.fs.lookup f with | some d => .ok d | none => .no) else .no
theorem dq_fld {cn f n : Str} {C : Addr} {p2 : Pos} (hm : X.mg cn = some (.ref C)) (T : XfC X.K C) (hno : PySem.W.findIn X.K (.ref C) f = some none)
    (hv : ∀ (a : Addr) (oe : Obj) (pn : List (Addr × Obj)), PE (X.suite a ((a, oe) :: pn)) (.Name n p2) (tVar i))
    (hb : attributeBase (.Name n p2) f X.env (eval (.Name n p2) X.env) = eval (.Name n p2) X.env := by rfl) : DQ X i (.Attribute (.Name n p2) f pos) (xFld cn f) := by
  refine ⟨fun a oe cls d pn hz hf => ⟨_, pe_xf T hno hz hf (hv a oe pn) hb, fun σ H O ex r dom hx hs e Q hQ => ?_⟩⟩
  obtain ⟨C', d', fs, h1, h2, h3, h4, h5⟩ := hx
  unfold xFld at e
  split at e
  · rename_i hc
    rw [hc, hm] at h1
    cases h1
    cases q : ex.fs.lookup f with
    | none => rw [q] at e; cases e
    | some y =>
      rw [q] at e
      cases e
      obtain ⟨v, q1, q2⟩ := h5.look q
      exact ⟨_, hs, rfl, h2, d', fs, v, h3, h4, q1, hQ v H (Same.refl _) q2⟩
  · cases e
theorem dqs_nil : DQs X i [] (fun _ => .ok []) := ⟨fun a oe cls d pn _ _ => ⟨_, pa_nil, fun σ H O ex r _ _ _ e Q hQ => by cases e; exact hQ _ _ (Same.refl _) .nil⟩⟩
theorem dqs_cons (h : DQ X i e p) (h2 : DQs X i es pl) (hs : starEach (e :: es) X.env = (false, eval e X.env) :: starEach es X.env := by rfl) : DQs X i (e :: es) (fun ex => (p ex).bind fun x => (pl ex).bind fun xs => .ok (x :: xs)) := by
  refine ⟨fun a oe cls d pn hz hf => ?_⟩
  obtain ⟨t, a1, a2⟩ := h.run a oe cls d pn hz hf
  obtain ⟨u, b1, b2⟩ := h2.run a oe cls d pn hz hf
  refine ⟨_, pa_cons a1 b1 hs, fun σ H O ex r dom hx hi e Q hQ => ?_⟩
  cases q1 : p ex with
  | no => rw [q1] at e; cases e
  | ex z => rw [q1] at e; cases e
  | ok x =>
    rw [q1] at e
    cases q2 : pl ex with
    | no => rw [q2] at e; cases e
    | ex z => rw [q2] at e; cases e
    | ok xs =>
      rw [q2] at e
      cases e
      refine a2 σ H O ex x dom hx hi q1 _ fun v H1 s1 r1 => ?_
      refine b2 σ H1 O ex xs (dom_mono dom s1) (hx.mono s1) hi q2 _ fun vs H2 s2 r2 => ?_
      exact hQ _ _ (s1.trans s2) (.cons (Rep.mono (off_mono s2) r1) r2)
theorem dq_tup {x1} (h : DQs X i es pl) : DQ X i (.Tuple es x1 pos) (fun ex => (pl ex).bind fun xs => if xs.length ≤ sizeLine then .ok (.tup xs) else .no) := by
  refine ⟨fun a oe cls d pn hz hf => ?_⟩
  obtain ⟨t, a1, a2⟩ := h.run a oe cls d pn hz hf
  refine ⟨_, pe_tup a1, fun σ H O ex r dom hx hi e Q hQ => ?_⟩
  cases q1 : pl ex with
  | no => rw [q1] at e; cases e
  | ex z => rw [q1] at e; cases e
  | ok xs =>
    rw [q1] at e
    simp only [R.bind] at e
    split at e
    · rename_i hz
      cases e
      refine a2 σ H O ex xs dom hx hi q1 _ fun vs H1 s1 r1 => ⟨by rw [r1.length]; exact hz, fun p hp => ?_⟩
      have dom1 := dom_mono dom s1
      have np : ¬ O p := fun z => dom1 p z hp
      have s2 : Same H1 (upd H1 p (.tup vs)) := same_upd hp
      exact hQ _ _ (s1.trans s2) (.tup (off_of np upd_same) (RepL.mono (off_mono s2) r1))
    · cases e
/-- a suite that gives a value back -/
def cSu (K : PySem.W.Frag) (mg : Str → Option Value) (i : Nat) (ms : Exn → R D) (a : Addr) (cls : Value) (d : Option Addr) : TS := fun D σ H => ∃ (O : Own) (e : Exn) (r : _), (∀ b, O b → H b ≠ none) ∧ ExRep K mg O H cls d e ∧ σ[i]? = some (some (.ref a)) ∧ ms e = .ok r ∧ ∀ v H', Same H H' → Rep K (off O H') v r → D.rt v H'
structure DX (X : Cx) (i : Nat) (b : List Stmt) (ms : Exn → R D) : Prop where
  run : ∀ (a : Addr) (oe : Obj) (cls : Value) (d : Option Addr) (pn : List (Addr × Obj)), Zc cls d oe → (∃ vs, oe.data = .fields vs) → PSs (X.suite a ((a, oe) :: pn)) b (cSu X.K X.mg i ms a cls d)
theorem dx_ret (h : DQ X i e p) : DX X i [.Return (some e) pos] p := ⟨fun a oe cls d pn hz hf => by
  obtain ⟨t, a1, a2⟩ := h.run a oe cls d pn hz hf
  refine ⟨fun pins s σ H D I z => ?_⟩
  obtain ⟨O, e, r, dom, z1, z2, z3, z4⟩ := z
  exact (pss_one (ps_ret a1)).run pins s σ H D I (a2 σ H O e r dom z1 z2 z3 _ z4)⟩
end
/-! ### clauses -/
abbrev ClM := List (Str × Bool) × (Exn → R D)
def hTry : List ClM → Exn → SO
  | [], e => .ex e
  | x :: r, e => match x.1.lookup e.cls with
    | some true => (match x.2 e with | .ok d => .rt (d, .fz) | _ => .no)
    | some false => hTry r e
    | none => .no
def mTry (m : Env → SO) (hs : List ClM) : Env → SO := fun ρ => match m ρ with | .ex e => hTry hs e | r => r
/-- whom a clause takes -/
def CatOk (X : Cx) (C : Value) (cat : List (Str × Bool)) : Prop := ∀ p ∈ cat, ∃ C', X.mg p.1 = some (.ref C') ∧ PySem.W.exmOne X.K (.ref C') C = some p.2
inductive DHs (X : Cx) : List ExceptHandler → List ClM → Prop
  | nil : DHs X [] []
  | as {x n : Str} {i : Nat} {c : Value} {cat : List (Str × Bool)} {ms : Exn → R D} {b₀ : Stmt} {suite : List Stmt} {np pos' : Pos} {hds : List ExceptHandler} {l : List ClM} (hc : Names X x c) (hi : X.N[i]? = some n) (hln : X.env.kindOf n = some .local)
      (dx : DX X i (b₀ :: suite) ms) (ct : CatOk X c cat) (r : DHs X hds l) : DHs X (.ExceptHandler (some (.Name x np)) (some n) (b₀ :: suite) pos' :: hds) ((cat, ms) :: l)
theorem cat_look {X : Cx} {C : Value} {cat : List (Str × Bool)} (h : CatOk X C cat) {x : Str} {b : Bool} {C' : Addr} (hm : X.mg x = some (.ref C')) (e : cat.lookup x = some b) : PySem.W.exmOne X.K (.ref C') C = some b := by
  induction cat with
  | nil => cases e
  | cons p r ih =>
    obtain ⟨y, c⟩ := p
    simp only [List.lookup] at e
    split at e
    · rename_i q
      cases e
      obtain ⟨C2, h1, h2⟩ := h _ List.mem_cons_self
      have : x = y := by simpa using q
      subst this
      rw [hm] at h1
      cases h1
      exact h2
    · exact ih (fun p hp => h p (List.mem_cons_of_mem _ hp)) e
theorem DHs.go {X : Cx} {E : XK} {hds : List ExceptHandler} {l : List ClM} (h : DHs X hds l) : ∃ l' : List Cl, HdsA X hds l' ∧
    ∀ (B F : Hp) (O0 : Own) (D : Ends) (cls : Value) (d : Option Addr) (e : Exn) (σ : L2.St) (H : Hp), σ.length = X.N.length → Same B H → (∀ b, O0 b → H b ≠ none) → ExRep X.K X.mg O0 H cls d e → EndsOk X.K X.mg B F O0 D E (hTry l e) →
      wCl X.K (fun cls d _ H => E cls d H) D l' cls d σ H := by
  induction h with
  | nil => exact ⟨[], .nil, fun B F O0 D cls d e σ H hl s dom hx he => he cls d H s hx⟩
  | @as x n i c cat ms b₀ suite np pos' hds l hc hi hln dx ct r ih =>
    obtain ⟨l', g1, g2⟩ := ih
    refine ⟨⟨c, some i, cSu X.K X.mg i ms⟩ :: l', .as hc hi hln dx.run g1, fun B F O0 D cls d e σ H hl s dom hx he => ?_⟩
    obtain ⟨C', d', fs, h1, h2, h3, h4, h5⟩ := id hx
    unfold hTry at he
    cases q : cat.lookup e.cls with
    | none => rw [q] at he; exact he.elim
    | some b =>
      rw [q] at he
      have hex : PySem.W.exmOne X.K cls c = some b := by rw [h2]; exact cat_look ct h1 q
      cases b with
      | false => exact ⟨false, hex, fun z => Bool.noConfusion z, fun _ => g2 B F O0 D cls d e σ H hl s dom hx he⟩
      | true =>
        refine ⟨true, hex, fun _ a na => ?_, fun z => Bool.noConfusion z⟩
        dsimp only at he
        cases q2 : ms e with
        | no => rw [q2] at he; exact he.elim
        | ex z => rw [q2] at he; exact he.elim
        | ok r2 =>
          rw [q2] at he
          have hil : i < σ.length := by
            rw [hl]
            exact (List.getElem?_eq_some_iff.mp hi).1
          refine ⟨O0, e, r2, dom, hx, List.getElem?_set_self hil, q2, fun v H' s' rp => ?_⟩
          exact he v H' (s.trans s') (show Rep _ _ _ _ from rp)
theorem takes_len {X : Cx} {W : WX} (tk : Takes X W) : Takes X (fun cls d σ H => σ.length = X.N.length → W cls d σ H) := fun u s' ⟨a, B, sI, pins, σ, H, cls, d, e, I, nb, up, sky, na, os, ag, w⟩ =>
  tk u s' ⟨a, B, sI, pins, σ, H, cls, d, e, I, nb, up, sky, na, os, ag, w I.len⟩
/-- what an exception of a try's body must meet, whatever the slots hold -/
def eW (N : List Str) (W : WX) : XK := fun cls d H => ∀ σ : L2.St, σ.length = N.length → W cls d σ H
theorem try_passes {X : Cx} {W : WX} (tk : Takes X W) : Passes (L2.CX X.prog X.w) X (eW X.N W) := passes_call (takes_len tk) fun _ _ σ _ h hl => h σ hl
theorem ds_try {X : Cx} {E : XK} {b : List Stmt} {m : Env → SO} {h₀ : ExceptHandler} {hds : List ExceptHandler} {l : List ClM} {pos : Pos} (hs : X.stack = X.env :: X.outer) (hf : X.env.frame = some X.env.locals) (hN : X.N.Nodup) (tk : Takes X (fun cls d _ H => E cls d H))
    (hb : ∀ (E' : XK) (pn : List (Addr × Obj)) (xe : Value → Shared → Prop), Passes (L2.CX X.prog X.w) (X.tr pn xe) E' → PassesOwn (model X.prog X.w) X.A X.env xe → DSs (X.tr pn xe) E' b m)
    (hh : DHs X (h₀ :: hds) l) : DS X E (.Try b (h₀ :: hds) [] [] pos) (mTry m l) := by
  obtain ⟨l', g1, g2⟩ := hh.go (E := E)
  refine ⟨_, ps_tryA (tb := fun W => cS X.K X.mg (eW X.N W) m) hs hf hN tk (fun W pn xe tk' po => (hb (eW X.N W) pn xe (try_passes tk') po).canon) g1, fun B F O0 H O σ ρ D R h => ?_⟩
  refine ⟨B, F, O0, O, ρ, R, ?_⟩
  unfold mTry at h
  cases q : m ρ with
  | nx ρ' => rw [q] at h; exact h
  | rt x => rw [q] at h; exact h
  | bk ρ' => rw [q] at h; exact h
  | ct ρ' => rw [q] at h; exact h
  | no => rw [q] at h; exact h
  | ex e =>
    rw [q] at h
    intro cls dd H' s' hx σ' hl
    exact g2 B F O0 D cls dd e σ' H' hl s' (dom_mono R.dom0 s') hx h
theorem body_takes {P : Program} {w : World} {K : PySem.W.Frag} {mg : Str → Option Value} {base : Heap} {N : List Str} {qual : Str} {st : Stmt} {f : Addr} {cdv : Value} {A : Around} {outer : List PySem.Env} {s : Shared} {H : Hp} {E : XK} :
    Takes (bodyX P w K mg base N qual st f cdv A outer s H E) (fun cls d _ H => E cls d H) := takes_of rfl rfl rfl rfl
end FK
namespace FK
open PySem PySem.Spec L2
open PyProof.Rows hiding St

/-! ### own error classes whose __init__ stores its arguments -/
section
variable {P : Program} {w : World} {K : PySem.W.Frag} {mg : Str → Option Value} {base : Heap}
/-- __init__(self, f1, ..): each argument is kept under its name -/
def spInit (K : PySem.W.Frag) (C : Addr) (fs : List Str) : Sp := fun vs H Q _ => ∃ (a : Addr) (ys : List V), vs = .ref a :: ys ∧ ys.length = fs.length ∧ H a = some (exo a C none) ∧
  ∀ dx H', H dx = none → dx ≠ a → (∀ b, b ≠ a → b ≠ dx → H' b = H b) → H' a = some (exo a C (some dx)) → H' dx = some (exd dx (fs.zip ys).reverse) → Q .non H'
structure ErrK (P : Program) (w : World) (K : PySem.W.Frag) (mg : Str → Option Value) (base : Heap) (x : Str) (fs : List Str) : Prop where
  ex : ∃ (C fI : Addr) (fd : FuncData) (ps : List Str), mg x = some (.ref C) ∧ OexC K C ∧ XfC K C ∧ (∀ f ∈ fs, PySem.W.findIn K (.ref C) f = some none) ∧ PySem.W.findIn K (.ref C) "__init__" = some (some (.ref fI)) ∧
    PySem.W.typeIn K (.ref fI) = some (.type "function") ∧ FnOk P w K mg base (L2.CX P w) 1 fI fd ps (spInit K C fs) ∧ Binds K fd ps []
theorem init1 {qual f1 : Str} {st : Stmt} {f C : Addr} {fd : FuncData} (F : Fun K "__init__" qual st f fd) (S : FnScope ["self", f1] ["self", f1] (defScope st)) (T : OexC K C) (h1 : PySem.W.findIn K (.ref C) f1 = some none)
    (body : ∀ (cdv : Value) (A : Around) (outer : List PySem.Env) (s : Shared) (H : Hp) (E : XK), PSs (bodyX P w K mg base ["self", f1] qual st f cdv A outer s H E) (defBody st) (tOst K f1 (tVar 0) (tVar 1))) :
    FnOk P w K mg base (L2.CX P w) 1 f fd ["self", f1] (spInit K C [f1]) := by
  refine F.okX S (fun vs H Q E h => ?_) fun cdv A outer s H vs Q E hr h => ⟨_, body cdv A outer s H E, ?_⟩
  · obtain ⟨a, ys, rfl, hl, _⟩ := h
    simp [hl]
  · obtain ⟨a, ys, rfl, hl, ha, q⟩ := h
    obtain ⟨y, rfl⟩ : ∃ y, ys = [y] := by
      match ys, hl with
      | [y], _ => exact ⟨y, rfl⟩
    refine ⟨y, rfl, .ref a, rfl, a, C, rfl, T, h1, .inl ⟨ha, fun dx n ne => ?_⟩⟩
    exact q dx _ n ne (fun b h1 h2 => by rw [upd_ne h1, upd_ne h2]) upd_same (by rw [upd_ne ne]; exact upd_same)
theorem init2 {qual f1 f2 : Str} {st : Stmt} {f C : Addr} {fd : FuncData} (F : Fun K "__init__" qual st f fd) (S : FnScope ["self", f1, f2] ["self", f1, f2] (defScope st)) (T : OexC K C) (h1 : PySem.W.findIn K (.ref C) f1 = some none) (h2 : PySem.W.findIn K (.ref C) f2 = some none)
    (body : ∀ (cdv : Value) (A : Around) (outer : List PySem.Env) (s : Shared) (H : Hp) (E : XK), PSs (bodyX P w K mg base ["self", f1, f2] qual st f cdv A outer s H E) (defBody st) (tSeq (tOst K f1 (tVar 0) (tVar 1)) (tOst K f2 (tVar 0) (tVar 2)))) :
    FnOk P w K mg base (L2.CX P w) 1 f fd ["self", f1, f2] (spInit K C [f1, f2]) := by
  refine F.okX S (fun vs H Q E h => ?_) fun cdv A outer s H vs Q E hr h => ⟨_, body cdv A outer s H E, ?_⟩
  · obtain ⟨a, ys, rfl, hl, _⟩ := h
    simp [hl]
  · obtain ⟨a, ys, rfl, hl, ha, q⟩ := h
    obtain ⟨y, z, rfl⟩ : ∃ y z, ys = [y, z] := by
      match ys, hl with
      | [y, z], _ => exact ⟨y, z, rfl⟩
    refine ⟨y, rfl, .ref a, rfl, a, C, rfl, T, h1, .inl ⟨ha, fun dx n ne => ?_⟩⟩
    refine ⟨z, rfl, .ref a, rfl, a, C, rfl, T, h2, .inr ⟨dx, [(f1, y)], upd_same, by rw [upd_ne ne]; exact upd_same, by simp, ?_⟩⟩
    exact q dx _ n ne (fun b h1 h2 => by rw [upd_ne h2, upd_ne h1, upd_ne h2]) (by rw [upd_ne (Ne.symm ne)]; exact upd_same) upd_same
def fzL : List DV → Option (List D)
  | [] => some []
  | (d, .fz) :: r => (fzL r).map (d :: ·)
  | _ :: _ => none
def mkExn (x : Str) (fs : List Str) (xs : List DV) : SO := match fzL xs with
  | some ds => if ds.length = fs.length ∧ ds.length ≤ 1000 then .ex ⟨x, (fs.zip ds).reverse⟩ else .no
  | none => .no
theorem fzL_rep {K : PySem.W.Frag} {B H0 H : Hp} {O0 O : Own} : ∀ {xs : List DV} {vs : List V} {ds : List D}, OutL K B O0 H0 H O xs vs → fzL xs = some ds → RepL K (off O H) vs ds
  | _, _, _, .nil, e => by cases e; exact .nil
  | (d, k) :: xs, v :: vs, ds, .cons a b, e => by
    cases k <;> try (simp [fzL] at e; done)
    simp only [fzL] at e
    cases q : fzL xs with
    | none => rw [q] at e; cases e
    | some es =>
      rw [q] at e
      cases e
      exact .cons (show Rep _ _ _ _ from a) (fzL_rep b q)
theorem fld_zip {K : PySem.W.Frag} {H : Hp} : ∀ {fs : List Str} {vs : List V} {ds : List D}, RepL K H vs ds → FldR K H (fs.zip vs) (fs.zip ds)
  | [], _, _, _ => .nil
  | _ :: _, _, _, .nil => .nil
  | _ :: _, _, _, .cons a b => .cons a (fld_zip b)
theorem fld_app {K : PySem.W.Frag} {H : Hp} : ∀ {vs vs' : List (Str × V)} {ds ds' : List (Str × D)}, FldR K H vs ds → FldR K H vs' ds' → FldR K H (vs ++ vs') (ds ++ ds')
  | _, _, _, _, .nil, h => h
  | _, _, _, _, .cons a b, h => .cons a (fld_app b h)
theorem fld_rev {K : PySem.W.Frag} {H : Hp} : ∀ {vs : List (Str × V)} {ds : List (Str × D)}, FldR K H vs ds → FldR K H vs.reverse ds.reverse
  | _, _, .nil => .nil
  | _, _, .cons a b => by
    rw [List.reverse_cons, List.reverse_cons]
    exact fld_app (fld_rev b) (.cons a .nil)
end
section
variable {X : Cx} {E : XK} {e : Expr} {es : List Expr} {pl : Env → R (List DV)} {pos pos2 p : Pos} {x : Str} {fs : List Str}
theorem ds_raise (c : ErrK X.prog X.w X.K X.mg X.base x fs) (hc : X.calm = true) (hr : Room 2 X.A) (tk : Takes X (fun cls d _ H => E cls d H)) (hg : Gl X x) (ha : DA X E (e :: es) pl)
    (hdb : (x == ("__debug__" : Str)) = false := by decide) (he : starEach (e :: es) X.env = (false, eval e X.env) :: starEach es X.env := by rfl) (hpl : (backTo pos (starEach es X.env)).any (·.1) = false := by rfl) :
    DS X E (.Raise (some (.Call (.Name x p) (e :: es) [] pos)) none pos2) (fun ρ => (pl ρ).st (mkExn x fs)) := by
  obtain ⟨C, fI, fd, ps, hm, T, Tx, hno, iC, tI, F, hb⟩ := c.ex
  obtain ⟨t, a1, a2⟩ := ha.ex
  refine ⟨_, ps_raise hc tk (pmk_oex T iC tI F hr hb .nil (passes_call takes0 fun _ _ _ _ h => h) hg hm a1 hdb he hpl), fun B F' O0 H O σ ρ D R h => ?_⟩
  refine ev_st (Q := fun vs H1 => vs.length ≤ 1000 ∧ ∀ a, H1 a = none → spInit X.K C fs (.ref a :: (vs ++ [])) (upd H1 a (exo a C none))
    (fun v H2 => v = .non ∧ ∃ (d : Addr) (gs : List (Str × V)), H2 a = some (exo a C (some d)) ∧ H2 d = some (exd d gs) ∧ H1 d = none ∧ E (.ref C) (some d) (upd (del H2 a) d (.xd gs))) (fun _ _ _ => False)) R.base R.sub (a2 B F' O0 H O σ ρ R) h fun xs vs H1 ex s1 r1 h1 => ?_
  have R1 := R.more s1
  unfold mkExn at h1
  cases q : fzL xs with
  | none => rw [q] at h1; exact h1.elim
  | some ds =>
    rw [q] at h1
    dsimp only at h1
    split at h1
    · rename_i hl
      have rp := fzL_rep r1 q
      have hlen := rp.length
      refine ⟨by omega, fun a na => ⟨a, vs, by rw [List.append_nil], by omega, upd_same, fun dx H' n ne same ha' hd' => ⟨rfl, dx, _, ha', hd', ?_, ?_⟩⟩⟩
      · rw [upd_ne ne] at n
        exact n
      · have ndx : H1 dx = none := by
          rw [upd_ne ne] at n
          exact n
        have s2 : Same H1 (upd (del H' a) dx (.xd (fs.zip vs).reverse)) := fun b o eb => by
          have nb : b ≠ dx := ne_of_none eb ndx
          have nb2 : b ≠ a := ne_of_none eb na
          rw [upd_ne nb, del_ne nb2, same b nb2 nb, upd_ne nb2]
          exact eb
        refine h1 (.ref C) (some dx) _ (R1.base.trans s2) ⟨C, dx, _, hm, rfl, rfl, upd_same, fld_rev (fld_zip (RepL.mono ?_ rp))⟩
        exact (off_mono s2).trans (off_anti R1.sub)
    · exact h1.elim
end
/-! ### calls by keywords alone -/
structure CallKw (P : Program) (w : World) (K : PySem.W.Frag) (mg : Str → Option Value) (base : Heap) (x : Str) (k n : Nat) (ks : List Str) (m : List DV → R DV) : Prop where
  ex : ∃ (f : Addr) (fd : FuncData) (ps : List Str), mg x = some (.ref f) ∧ FnOk P w K mg base (L2.CX P w) k f fd ps (spD K mg n m) ∧ PySem.W.keepIn K (.ref f) = true ∧ KBn K fd ps 0 ks (fun _ ws => ws) (fun _ zs => zs)
theorem fun_kbn {K : PySem.W.Frag} {x qual : Str} {st : Stmt} {f : Addr} {fd : FuncData} {ps ks : List Str} (F : Fun K x qual st f fd)
    (h : ∀ (kV doc pm : Value) (an : Option Addr) (cdv ct : Value) (ws : List Value), ws.length = ks.length → bindArgs (PySem.W.fnOf x qual (defArgs st) (defBody st) (defScope st) .none kV doc pm an cdv ct) ⟨[], ks.zip ws⟩ = pure (ps.zip ws)) : KBn K fd ps 0 ks (fun _ ws => ws) (fun _ zs => zs) := by
  obtain ⟨oc, od, kV, doc, pm, an, cdv, ct, osl, rfl, lk, hcd⟩ := F.ex
  refine ⟨fun s us ws X l1 l2 => ?_, fun r1 r2 => r2⟩
  cases List.eq_nil_of_length_eq_zero l1
  exact BindsTo.of_eq (h kV doc pm an cdv ct ws l2)
theorem fn_ok {P : Program} {w : World} {K : PySem.W.Frag} {mg : Str → Option Value} {base : Heap} {x qual : Str} {st : Stmt} {f : Addr} {fd : FuncData} {N ps : List Str} {k n : Nat} {m : Env → SO} (F : Fun K x qual st f fd) (S : FnScope N ps (defScope st)) (hn : ps.length = n)
    (body : ∀ (cdv : Value) (A : Around) (outer : List PySem.Env) (s : Shared) (H : Hp) (E : XK), Room k (bodyX P w K mg base N qual st f cdv A outer s H E).A → DSs (bodyX P w K mg base N qual st f cdv A outer s H E) E (defBody st) m) :
    FnOk P w K mg base (L2.CX P w) (k + 1) f fd ps (spD K mg n (runD N.length m)) := by
  refine F.okX S (fun vs H Q E h => by rw [hn]; exact h.1) fun cdv A outer s H vs Q E hr h => ?_
  obtain ⟨hl, O, as, dom, ha, hend⟩ := h
  obtain ⟨t, h1, h2⟩ := (body cdv A outer s H E hr).ex
  refine ⟨t, h1, h2 H (off O H) O H O _ _ _ (start_sr dom ha) ?_⟩
  unfold runD at hend
  show EndsOk K mg H (off O H) O { nx := fun _ H' => Q .non H', rt := Q } E (m (as.map some ++ List.replicate (N.length - as.length) none))
  cases q : m (as.map some ++ List.replicate (N.length - as.length) none) with
  | nx ρ => rw [q] at hend; exact fun σ' H' O' R => hend .non H' R.base (show Rep _ _ _ _ from .non)
  | rt y => rw [q] at hend; exact fun v H' s' r => hend v H' s' r
  | bk ρ => rw [q] at hend; exact hend.elim
  | ct ρ => rw [q] at hend; exact hend.elim
  | ex e => rw [q] at hend; exact hend
  | no => rw [q] at hend; exact hend.elim
/-! facts of a class that an except clause names -/
structure ClsK (K : PySem.W.Frag) (mg : Str → Option Value) (x : Str) (fs : List Str) (C : Addr) : Prop where
  g : mg x = some (.ref C)
  xf : XfC K C
  no : ∀ f ∈ fs, PySem.W.findIn K (.ref C) f = some none
/-- an error of the class x in an except clause of the class at C -/
structure ExmK (K : PySem.W.Frag) (mg : Str → Option Value) (x : Str) (C : Addr) (b : Bool) : Prop where
  ex : ∃ C', mg x = some (.ref C') ∧ PySem.W.exmOne K (.ref C') (.ref C) = some b
theorem cat_nil {X : Cx} {C : Addr} : CatOk X (.ref C) [] := fun p h => nomatch h
theorem cat_cons {X : Cx} {C : Addr} {x : Str} {b : Bool} {l : List (Str × Bool)} (h : ExmK X.K X.mg x C b) (r : CatOk X (.ref C) l) : CatOk X (.ref C) ((x, b) :: l) := fun p hp => by
  rcases List.mem_cons.mp hp with e | e
  · cases e
    exact h.ex
  · exact r p e
/-! the suites' words -/
abbrev qStr (s : Str) : Exn → R D := fun _ => .ok (.str s)
abbrev qInt (i : Int) : Exn → R D := fun _ => .ok (.int i)
abbrev qBl (b : Bool) : Exn → R D := fun _ => .ok (.bl b)
abbrev qNon : Exn → R D := fun _ => .ok .non
abbrev qNil : Exn → R (List D) := fun _ => .ok []
abbrev qCons (p : Exn → R D) (pl : Exn → R (List D)) : Exn → R (List D) := fun ex => (p ex).bind fun x => (pl ex).bind fun xs => .ok (x :: xs)
abbrev qTup (pl : Exn → R (List D)) : Exn → R D := fun ex => (pl ex).bind fun xs => if xs.length ≤ sizeLine then .ok (.tup xs) else .no
abbrev mRaise (x : Str) (fs : List Str) (pl : Env → R (List DV)) : Env → SO := fun ρ => (pl ρ).st (mkExn x fs)
section
variable {X : Cx} {E : XK} {k n : Nat} {x : Str} {ks : List Str} {kws : List Keyword} {m : List DV → R DV} {pl : Env → R (List DV)} {p pos : Pos}
theorem pe_callN0 {CX : CXT} {f : Addr} {fd : FuncData} {ps : List Str} {sp : Sp} {tk : TA} {g : List Value → List Value → List Value} {gV : List V → List V → List V} (F : FnOk X.prog X.w X.K X.mg X.base CX k f fd ps sp) (hr : Room k X.A) (hg : Gl X x) (hm : X.mg x = some (.ref f)) (hk : PySem.W.keepIn X.K (.ref f) = true) (hb : KBn X.K fd ps 0 ks g gV) (hx : Passes CX X E)
    (hkw : PK X kws tk) (hall : (backToKw pos (keywordEach kws X.env)).all (·.1.isSome) = true := by rfl) (hks : (backToKw pos (keywordEach kws X.env)).filterMap (·.1) = ks := by rfl)
    (hdb : (x == ("__debug__" : Str)) = false := by decide)
    (hpl : ((backTo pos (starEach [] X.env)).any (·.1) || (backToKw pos (keywordEach kws X.env)).any (·.1.isNone)) = false := by rfl) :
    PE X (.Call (.Name x p) [] kws pos) (fun σ H Q => tk σ H fun zs H2 => zs.length = ks.length ∧ sp (gV [] zs) H2 Q E) := by
  refine ⟨fun pins s σ H Q I h => ?_⟩
  refine wpAny_Call_Name_kw (ld_glob I hg hm ?_ hdb)
  refine PySem.W.callWith_KW0 (h₀ := X.base) I.ok.mod.kin hk hall ?_ hpl
  refine thn (hkw.run pos pins s σ H _ I h) fun ws s2 ⟨zs, H2, I2, rz, l2, q2⟩ => ⟨I2.kIn, ?_⟩
  rw [hks]
  exact run_fnN (us := []) (vs := []) F hr hb hx I2 .nil rz rfl l2 q2
/-- the keywords' values -/
structure DK (X : Cx) (E : XK) (kws : List Keyword) (pl : Env → R (List DV)) : Prop where
  ex : ∃ t, PK X kws t ∧ ∀ (B F : Hp) (O0 : Own) (H : Hp) (O : Own) (σ : L2.St) (ρ : Env), SR X.K B F O0 H O σ ρ → EvG X.K X.mg O E H (pl ρ) (fun xs vs H' => OutL X.K B O0 H H' O xs vs) (t σ H)
theorem dk_nil : DK X E [] (fun _ => .ok []) := ⟨_, pk_nil, fun B F O0 H O σ ρ R => EvG.ret (show OutL _ _ _ _ _ _ _ _ from .nil)⟩
theorem dk_cons {y : Str} {e : Expr} {q : Env → R DV} {kp : Pos} (ha : DE X E e q) (hr : DK X E kws pl) : DK X E (⟨some y, e, kp⟩ :: kws) (fun ρ => (q ρ).bind fun x => (pl ρ).bind fun xs => .ok (x :: xs)) := by
  obtain ⟨t, h1, h2⟩ := ha.ex
  obtain ⟨u, g1, g2⟩ := hr.ex
  refine ⟨_, pk_cons h1 g1, fun B F O0 H O σ ρ R => ?_⟩
  refine EvG.bind (T1 := fun v H1 Q => u σ H1 fun vs H2 => Q (v :: vs) H2) (h2 B F O0 H O σ ρ R) fun x v H1 s1 r1 => ?_
  refine EvG.bind (T1 := fun vs H2 Q => Q (v :: vs) H2) (g2 B F O0 H1 O σ ρ (R.more s1)) fun xs vs H2 s2 r2 => ?_
  exact EvG.ret (.cons (r1.mono (Same.refl _) s2) (r2.mono s1 (Same.refl _)))
theorem de_callKw (c : CallKw X.prog X.w X.K X.mg X.base x k n ks m) (hr : Room k X.A) (hg : Gl X x) (hx : Passes (L2.CX X.prog X.w) X E) (ha : DK X E kws pl) (hn : ks.length = n) (hdb : (x == ("__debug__" : Str)) = false := by decide)
    (hall : (backToKw pos (keywordEach kws X.env)).all (·.1.isSome) = true := by rfl) (hks : (backToKw pos (keywordEach kws X.env)).filterMap (·.1) = ks := by rfl)
    (hpl : ((backTo pos (starEach [] X.env)).any (·.1) || (backToKw pos (keywordEach kws X.env)).any (·.1.isNone)) = false := by rfl) : DE X E (.Call (.Name x p) [] kws pos) (dCall n m pl) := by
  obtain ⟨f, fd, ps, hm, F, hk, hb⟩ := c.ex
  obtain ⟨t, h1, h2⟩ := ha.ex
  refine ⟨_, pe_callN0 F hr hg hm hk hb hx h1 hall hks hdb hpl, fun B F' O0 H O σ ρ R => ?_⟩
  refine EvG.bind (T1 := fun vs H1 Q => vs.length = ks.length ∧ spD X.K X.mg n m vs H1 Q E) (h2 B F' O0 H O σ ρ R) fun xs vs H1 s1 r1 => ?_
  split
  · rename_i hl
    have hlen : vs.length = n := by rw [(OutL.args r1).length, List.length_map]; exact hl
    have dom := (R.more s1).dom
    cases q : m (xs.map argD) with
    | no => trivial
    | ex z => exact fun w Q => ⟨by omega, hlen, O, _, dom, OutL.args r1, by rw [q]; exact w⟩
    | ok y =>
      refine fun Q hQ => ⟨by omega, hlen, O, _, dom, OutL.args r1, by
        rw [q]
        intro v H' s' ro
        refine hQ v H' s' ?_
        obtain ⟨d, kk⟩ := y
        cases kk with
        | fz => exact ro
        | ow =>
          obtain ⟨z, ez, nz, cz⟩ := ro
          exact ⟨z, ez, s1.free nz, fun oz => dom z oz nz, cz⟩
        | bo => exact ro.elim
        | al => exact ro.elim⟩
  · trivial
end
/-! ### a def that calls itself: a mirror by levels -/
/-- no promise at all -/
theorem call_zero {P : Program} {w : World} {K : PySem.W.Frag} {mg : Str → Option Value} {base : Heap} {x : Str} {f : Addr} {fd : FuncData} {ps : List Str} {n k : Nat} (hm : mg x = some (.ref f)) (hk : PySem.W.keepIn K (.ref f) = true) (hb : Binds K fd ps []) (hn : ps.length = n) :
    CallOk P w K mg base x k n (fun _ => .no) := by
  refine ⟨f, fd, ps, hm, ⟨fun vs H Q E h => by rw [hn]; exact h.1, fun A outer s H args us vs Q E _ _ _ _ h => ?_⟩, hk, hb⟩
  obtain ⟨_, O, as, _, _, z⟩ := h
  exact z.elim
end FK
namespace FK
open PySem PySem.Spec L2
open PyProof.Rows hiding St

theorem exm_of {K : PySem.W.Frag} {S T : Addr} {b : Bool} (h1 : PySem.W.subIn K (.ref S) (.type "BaseException") = some true) (h2 : PySem.W.isClsIn K S = true) (h3 : PySem.W.typeIn K (.ref S) = some (.type "type")) (h4 : PySem.W.subIn K (.ref T) (.ref S) = some b) :
    PySem.W.exmOne K (.ref T) (.ref S) = some b := by
  have e1 : (PySem.W.subIn K (.ref S) (.type "BaseException") == some true) = true := by rw [h1] <;> rfl
  have e2 : ((PySem.W.clsIn K S).isSome && PySem.W.typeIn K (.ref S) == some (.type "type")) = true := by
    have h2' : (PySem.W.clsIn K S).isSome = true := h2
    rw [h2', h3] <;> rfl
  unfold PySem.W.exmOne PySem.W.kitCls
  rw [if_pos e1]
  dsimp only
  rw [if_pos e2]
  exact h4
/-! ### range(i, j, -1) -/
def rg3 (x y z : DV) : R (List D × Kd) := match x.1, y.1, z.1 with
  | .int i, .int j, .int c => if c = -1 ∧ -(2 ^ 62) ≤ i ∧ i < 2 ^ 62 ∧ -(2 ^ 62) ≤ j ∧ j < 2 ^ 62 then .ok (rangeL i (-1) (i - j).toNat, .fz) else .no
  | _, _, _ => .no
section
variable {X : Cx} {E : XK} {tg e e' e2 : Expr} {p p' p2 : Env → R DV} {pos pp : Pos}
theorem di_range3 (hg : Gl X "range") (hm : X.mg "range" = none) (he : DE X E e p) (he' : DE X E e' p') (he2 : DE X E e2 p2)
    (hs1 : starEach [e, e', e2] X.env = (false, eval e X.env) :: starEach [e', e2] X.env := by rfl) (hs2 : starEach [e', e2] X.env = (false, eval e' X.env) :: starEach [e2] X.env := by rfl) (hs3 : starEach [e2] X.env = (false, eval e2 X.env) :: starEach [] X.env := by rfl)
    (hpl : (backTo pos (starEach [e', e2] X.env)).any (·.1) = false := by rfl) :
    DI X E tg (.Call (.Name "range" pp) [e, e', e2] [] pos) (fun ρ => (p ρ).bind fun x => (p' ρ).bind fun y => (p2 ρ).bind fun z => rg3 x y z) := by
  obtain ⟨t, a1, a2⟩ := he.ex
  obtain ⟨u, b1, b2⟩ := he'.ex
  obtain ⟨v, c1, c2⟩ := he2.ex
  refine ⟨_, pi_range3 hg hm (pa_cons a1 (pa_cons b1 (pa_cons c1 pa_nil hs3) hs2) hs1) hs1 hpl, fun B F O0 H O σ ρ R => ?_⟩
  refine EvG.bind (T1 := fun x H1 R => u σ H1 fun y H2 => v σ H2 fun z H3 => ∃ (i j c : Int) (n : Nat), [x, y, z] = [V.int i, V.int j, V.int c] ∧ RgC i j c n ∧ R (Itc i c n) H3) (a2 B F O0 H O σ ρ R) fun x w H1 s1 r1 => ?_
  refine EvG.bind (T1 := fun y H2 R => v σ H2 fun z H3 => ∃ (i j c : Int) (n : Nat), [w, y, z] = [V.int i, V.int j, V.int c] ∧ RgC i j c n ∧ R (Itc i c n) H3) (b2 B F O0 H1 O σ ρ (R.more s1)) fun y w2 H2 s2 r2 => ?_
  refine EvG.bind (T1 := fun z H3 R => ∃ (i j c : Int) (n : Nat), [w, w2, z] = [V.int i, V.int j, V.int c] ∧ RgC i j c n ∧ R (Itc i c n) H3) (c2 B F O0 H2 O σ ρ (R.more (s1.trans s2))) fun z w3 H3 s3 r3 => ?_
  unfold rg3
  obtain ⟨d, kk⟩ := x
  obtain ⟨d', kk'⟩ := y
  obtain ⟨d2, kk2⟩ := z
  cases d <;> cases d' <;> cases d2 <;> first | exact True.intro | skip
  cases Out.int r1
  cases Out.int r2
  cases Out.int r3
  dsimp only
  split
  · rename_i c
    obtain ⟨rfl, c1, c2, c3, c4⟩ := c
    exact fun Q hQ => ⟨_, _, _, _, rfl, RgC.neg c1 c2 c3 c4, hQ _ _ (Same.refl _) (it_range _ _ _)⟩
  · trivial
end
end FK
namespace HT
open PySem PyProof.Rows
/-! FX5: t[::-1] of a tuple; str of a list or tuple (no guards stand). -/
section
variable {prog : Program} {w : World} {A : Around} {E : Value → Shared → Prop} {s : Shared}
theorem adjust_rev (n : Nat) : Builtin.Slice.sliceAdjust none none (-1) (n : Int) = ((n : Int) - 1, -1) := by
  unfold Builtin.Slice.sliceAdjust
  have h1 : (-1 : Int) < 0 := by omega
  simp only [h1, if_true]
theorem places_rev (n : Nat) : Builtin.Slice.slicePlaces ((n : Int) - 1) (-1) (-1) = n := by
  unfold Builtin.Slice.slicePlaces
  have h1 : ¬ ((-1 : Int) > 0) := by omega
  simp only [h1, if_false, show (-(-1) : Int) = 1 from rfl, Int.ediv_one]
  split <;> omega
theorem sliceApplied_rev {sl : Addr} {vl vu vs : Value} {n : Nat} {Q : Int × Int × Nat → Shared → Prop} (hs : s.heap.IsSliceOf sl vl vu vs) (pl : IsPart vl none) (pu : IsPart vu none) (ps : IsPart vs (some (-1)))
    (h : Q ((n : Int) - 1, -1, n) s) : wpAny (model prog w) A (Builtin.Slice.sliceApplied (.ref sl) (pure (n : Int))) Q E s := by
  obtain ⟨os, hos, hcs, hds⟩ := id hs
  unfold Builtin.Slice.sliceApplied Builtin.Slice.sliceFields
  refine wpAny_bind (wpAny_bind (wpAny_field hos hds (x := vl) rfl (wpAny_bind (wpAny_field hos hds (x := vu) rfl (wpAny_bind (wpAny_field hos hds (x := vs) rfl (wpAny_pure ?_)))))))
  refine wpAny_bind (slicePart_ ps ?_)
  show wpAny _ _ (if ((-1 : Int) == 0) = true then _ else _) _ _ s
  rw [if_neg (by decide)]
  refine wpAny_bind (slicePart_ pl (wpAny_bind (slicePart_ pu (wpAny_bind (wpAny_pure ?_)))))
  show wpAny _ _ (match Builtin.Slice.sliceAdjust none none (-1) (n : Int) with | (lo, hi) => pure (lo, (-1 : Int), Builtin.Slice.slicePlaces lo hi (-1))) _ _ s
  rw [adjust_rev n]
  show wpAny _ _ (pure ((n : Int) - 1, (-1 : Int), Builtin.Slice.slicePlaces ((n : Int) - 1) (-1) (-1))) _ _ s
  rw [places_rev]
  exact wpAny_pure h
theorem pick_rev (xs : Array Value) : ((List.range xs.size).filterMap fun (k : Nat) => xs[((xs.size : Int) - 1 + (k : Int) * -1).toNat]?).toArray = xs.toList.reverse.toArray := by
  congr 1
  have e1 : (List.range xs.size).map (fun (k : Nat) => xs[((xs.size : Int) - 1 + (k : Int) * -1).toNat]?) = xs.toList.reverse.map some := by
    apply List.ext_getElem
    · simp
    · intro i h1 h2
      simp only [List.length_map, List.length_range] at h1
      have : ((xs.size : Int) - 1 + (i : Int) * -1).toNat = xs.size - 1 - i := by omega
      simp only [List.getElem_map, List.getElem_range, List.getElem_reverse, this, Array.length_toList, Array.getElem_toList]
      rw [Array.getElem?_eq_getElem (by omega)]
  have e2 : ∀ (l : List Nat) (f : Nat → Option Value), l.filterMap f = (l.map f).filterMap id := fun l f => by rw [List.filterMap_map]; rfl
  rw [e2, e1, List.filterMap_map]
  exact List.filterMap_some
theorem getItem_tuple_rev {t sl : Addr} {items : Array Value} {vl vu vs : Value} {Q : Value → Shared → Prop} (ht : IsTup s.heap t items) (hs : s.heap.IsSliceOf sl vl vu vs) (pl : IsPart vl none) (pu : IsPart vu none) (ps : IsPart vs (some (-1)))
    (h : Q (.ref s.heap.objs.size) { s with heap := s.heap.push { cls := .type "tuple", data := .seq items.toList.reverse.toArray } })
    (hsz : items.size ≤ sizeLine) : wpAny (model prog w) A (getItem (.ref t) (.ref sl)) Q E s := by
  have htake : sizeOk (.seq items.toList.reverse.toArray) := by
    show items.toList.reverse.toArray.size ≤ sizeLine
    rw [List.size_toArray, List.length_reverse, Array.length_toList]
    omega
  obtain ⟨os, hos, hcs, hds⟩ := id hs
  have hTs : s.TypeIs (.ref sl) "slice" := ⟨os, hos, hcs⟩
  unfold getItem
  try with_reducible refine wpAny_holding ?_
  first | refine wpAny_bind (wpAny_pure ?_) | skip
  refine wpAny_bind (wpAny_sequenceKey ht.typeIs (by decide) ?_)
  refine wpAny_bind (wpAny_callSpecial?_slot (name := Str.ofString "__getitem__") ht.typeIs PyProof.Rows.slot_tuple_getitem
    (wpAny_call_entry PyProof.Rows.slot_tuple_getitem ht.typeIs entry_tuple_getitem ?_ (args_tuple_getitem _ _)))
  show wpAny _ _ (Builtin.Tuple.tupleItemsOf (.ref t) >>= _) _ _ s
  refine wpAny_bind (tupleItemsOf_ ht ?_)
  refine wpAny_bind (wpAny_typeOf hTs ?_)
  rw [if_pos (by decide)]
  refine wpAny_bind (sliceApplied_rev hs pl pu ps ?_)
  have hno : ¬ ((((items.size : Int) - 1) == 0 && (-1 : Int) == 1 && items.size == items.size) = true) := by
    intro q
    rw [Bool.and_eq_true, Bool.and_eq_true] at q
    exact absurd q.1.2 (by decide)
  show wpAny _ _ (if ((((items.size : Int) - 1) == 0 && (-1 : Int) == 1 && items.size == items.size) = true) then _ else _) _ _ s
  rw [if_neg hno, pick_rev]
  first
    | exact wpAny_bind (m := Builtin.Tuple.tupleExact _) (wpAny_newObj_type (wpAny_pure ⟨_, rfl, wpAny_pure h⟩) htake)
    | exact wpAny_bind (m := Builtin.Tuple.tupleExact _) (wpAny_newObj_type (wpAny_bind (wpAny_pure (wpAny_pure ⟨_, rfl, wpAny_pure h⟩))) htake)
    | exact wpAny_bind (wpAny_bind (m := Builtin.Tuple.tupleExact _) (wpAny_newObj_type (wpAny_pure (wpAny_pure ⟨_, rfl, wpAny_pure h⟩)) htake))
    | exact wpAny_bind (wpAny_bind (m := Builtin.Tuple.tupleExact _) (wpAny_newObj_type (wpAny_pure ⟨_, rfl, wpAny_pure h⟩) htake))
end
end HT
namespace FK
open PySem PySem.Spec L2
open PyProof.Rows hiding St
section
variable {X : Cx} {E : XK} {pa : Env → R DV}
def tRevT (K : PySem.W.Frag) (te : TE) : TE := fun σ H Q => te σ H fun x H1 => ∃ a xs, x = .ref a ∧ SqT K H1 a xs ∧ ∀ p, H1 p = none → Q (.ref p) (upd H1 p (.tup xs.reverse))
theorem pe_revT {e : Expr} {te : TE} {k : Nat} {p1 p2 p3 pos : Pos} (he : PE X e te) : PE X (.Subscript e (.Slice none none (some (.UnaryOp .USub (.Constant (.int 1) k p1) p2)) p3) pos) (tRevT X.K te) := by
  refine ⟨fun pins s σ H Q I h => ?_⟩
  refine Subscript_ (thn (he.run pins s σ H _ I h) fun v s1 ⟨x, H1, I1, r1, q1⟩ => ?_)
  obtain ⟨a, xs, ex, hx, q⟩ := q1
  subst ex
  cases r1
  have hst : PO X (some (.UnaryOp .USub (.Constant (.int 1) k p1) p2)) (tPart (tUn (rU fun i => .int (-i)) (tC (.int 1)))) := po_some (pe_un un_neg pe_int)
  refine wpAny_Slice (thn (po_none.run pins s1 σ H1 (fun o H2 => o = none ∧ H2 = H1) I1 ⟨rfl, rfl⟩) fun vl s2 ⟨l, H2, I2, pl, el, e2⟩ => ?_)
  subst el e2
  refine thn (po_none.run pins s2 σ H2 (fun o H3 => o = none ∧ H3 = H2) I2 ⟨rfl, rfl⟩) fun vu s3 ⟨u, H3, I3, pu, eu, e3⟩ => ?_
  subst eu e3
  refine thn (hst.run pins s3 σ H3 (fun o H4 => o = some (-1) ∧ H4 = H3) I3 ⟨1, rfl, -1, rfl, rfl, rfl⟩) fun vs s4 ⟨o, H4, I4, ps, eo, e4⟩ => ?_
  subst eo e4
  have I5 : Inv X pins σ H4 { s4 with heap := s4.heap.push { cls := .type "slice", data := .fields #[vl, vu, vs] } } := I4.kept (t' := s4.toks) fun b ob q => Heap.get?_push_of_some _ q
  obtain ⟨its, r, ht, hz⟩ := I5.tuple hx
  have hlen := r.length
  show wpAny (model X.prog X.w) X.A (subscriptTail e (.Slice none none (some (.UnaryOp .USub (.Constant (.int 1) k p1) p2)) p3) (.ref a) (.ref s4.heap.objs.size)) (EP X pins σ Q) X.xe { s4 with heap := s4.heap.push { cls := .type "slice", data := .fields #[vl, vu, vs] } }
  refine tail_any (ops := [.ref a, .ref s4.heap.objs.size]) ht.typeIs (PyProof.Rows.slot_tuple_getitem.lookup) ?_ (by with_unfolding_all rfl)
  refine HT.getItem_tuple_rev ht (Heap.IsSliceOf.new _ vl vu vs) pl pu ps ?_ (by rw [List.size_toArray]; omega)
  refine ⟨.ref _, _, I5.laid (t' := s4.toks) (o := .tup xs.reverse) (fun b ob q => Heap.get?_push_of_some _ q) (Nat.le_refl _) ?_, rfl, q _ (I5.hok.fresh (Nat.le_refl _))⟩
  exact ⟨by rw [List.length_reverse]; exact hz, _, r.reverse, IsTup.new _ _⟩
def revT (x : DV) : R DV := match x with
  | (.tup xs, .fz) => .ok (.tup xs.reverse, .fz)
  | _ => .no
theorem RepL.reverse {K : PySem.W.Frag} {H : Hp} : ∀ {vs : List V} {ds : List D}, RepL K H vs ds → RepL K H vs.reverse ds.reverse
  | _, _, .nil => .nil
  | _, _, .cons a b => by
    rw [List.reverse_cons, List.reverse_cons]
    exact (RepL.reverse b).append (.cons a .nil)
theorem de_revT {a : Expr} {k : Nat} {p1 p2 p3 pos : Pos} (ha : DE X E a pa) : DE X E (.Subscript a (.Slice none none (some (.UnaryOp .USub (.Constant (.int 1) k p1) p2)) p3) pos) (fun ρ => (pa ρ).bind revT) := by
  obtain ⟨t, h1, h2⟩ := ha.ex
  refine ⟨_, pe_revT h1, fun B F O0 H O σ ρ R => ?_⟩
  refine EvG.bind (T1 := fun (x : V) (H1 : Hp) (Q : VK) => ∃ (a : Addr) (xs : List V), x = V.ref a ∧ SqT X.K H1 a xs ∧ ∀ p, H1 p = none → Q (.ref p) (upd H1 p (.tup xs.reverse))) (h2 B F O0 H O σ ρ R) fun x v H1 s1 r1 => ?_
  obtain ⟨d, kk⟩ := x
  cases d <;> first | exact True.intro | skip
  cases kk <;> first | exact True.intro | skip
  obtain ⟨a, vs, rfl, q1, q2⟩ := r1.tup
  exact fun Q hQ => ⟨a, vs, rfl, q1, ev_tup (mg := X.mg) (E := E) (R.more s1).dom q2.reverse Q fun v H' s' r => hQ v H' s' (r.mono s1 (Same.refl _))⟩
end
end FK
namespace FK
open PySem PySem.Spec L2
open PyProof.Rows hiding St
/-! ### a def that is called from where no guards stand -/
section
variable {P : Program} {w : World} {K : PySem.W.Frag} {mg : Str → Option Value} {base : Heap}
def GRunO (P : Program) (w : World) (K : PySem.W.Frag) (mg : Str → Option Value) (base : Heap) (k : Nat) (f : Addr) (fd : FuncData) (ps : List Str) (sp : Sp) : Prop :=
  ∀ (A : Around) (outer : List PySem.Env) (s : Shared) (H : Hp) (args : Args) (us : List Value) (vs : List V) (Q : VK) (E : XK), A.guards = some [] → Room k A → Env0 P w K mg base A outer s H →
    BindsTo s fd args (ps.zip us) → Vals vs us → sp vs H Q E → codeAny (model P w) A (.call (.ref f) args) (CR (L2.CX P w) outer P w H s Q E) s
theorem grunO_of {x qual : Str} {st : Stmt} {f : Addr} {fd : FuncData} {N ps : List Str} {k : Nat} {sp : Sp} (F : Fun K x qual st f fd) (S : FnScope N ps (defScope st)) (len : ∀ vs H Q E, sp vs H Q E → vs.length = ps.length)
    (body : ∀ (cdv : Value) (A : Around) (outer : List PySem.Env) (s : Shared) (H : Hp) (vs : List V) (Q : VK) (E : XK), A.guards = some [] → Room k (A.deeper (envOfC qual (defScope st) s.heap.objs.size f cdv)) → sp vs H Q E →
      ∃ t, PSs (bodyX P w K mg base N qual st f cdv A outer s H E) (defBody st) t ∧ t { nx := fun _ H' => Q .non H', rt := Q } (L2.start N vs) H) : GRunO P w K mg base (k + 1) f fd ps sp := by
  obtain ⟨oc, od, kV, doc, pm, an, cdv, ct, osl, rfl, lk, hcd⟩ := F.ex
  intro A outer s H args us vs Q E hg hr e0 hb r hsp
  have hl := len _ _ _ _ hsp
  have old := fun b o e => (e0.bs b o e).1
  have inK : K.In s.heap := e0.mod.kin.keeps old
  have slots : ∀ y ∈ ps.zip us, (defScope st).names.lookup y.1 = some .local ∨ ((defScope st).names.lookup y.1 = some .cell ∧ ((cellsFrom (s.heap.objs.size + 1) (defScope st).names []).lookup y.1).isSome = true) := by
    rintro ⟨n, v⟩ hy
    exact (S.par n (List.of_mem_zip hy).1).imp id fun q => ⟨q, PySem.W.cellsFrom_some _ _ _ (.inl q)⟩
  refine codeAny_call_function hr.depth (inK _ _ lk) rfl S.co S.gen rfl (PySem.W.codeRec_of inK hcd) (hb _ _ _ _ (wpAny_newFunctionEnv_cells S.kind slots ?_))
  rintro env rfl s1 x
  refine ⟨(e0.mod.nolimit.keeps old).keeps x.toInCall.keep, codeAny_func ?_⟩
  obtain ⟨t, ht, hq⟩ := body cdv A outer s H vs Q E hg (hr.deeper _) hsp
  refine wpAny_mono (ht.run [] s1 (L2.start N vs) H _ (inv_start S hr.hd e0 hl r x) hq) ?_ fun _ _ z => z
  rintro (_ | _ | _ | u) s' hs
  all_goals first
    | (obtain ⟨v, σ', H', J, rv, q⟩ := hs; exact ⟨v, H', J.os, J.bare, J.base, J.hok, rv, q⟩)
    | (obtain ⟨σ', H', J, q⟩ := hs; exact ⟨V.non, H', J.os, J.bare, J.base, J.hok, rfl, q⟩)
    | (obtain ⟨_, _, _, q⟩ := hs; exact q.elim)
structure CallG (P : Program) (w : World) (K : PySem.W.Frag) (mg : Str → Option Value) (base : Heap) (x : Str) (k n : Nat) (m : List DV → R DV) : Prop where
  ex : ∃ (f : Addr) (fd : FuncData) (ps : List Str), mg x = some (.ref f) ∧ ps.length = n ∧ GRunO P w K mg base k f fd ps (spD K mg n m) ∧ PySem.W.keepIn K (.ref f) = true ∧ Binds K fd ps []
theorem fn_ruleG {x qual : Str} {st : Stmt} {f : Addr} {fd : FuncData} {N ps : List Str} {k n : Nat} {m : Env → SO} (F : Fun K x qual st f fd) (S : FnScope N ps (defScope st)) (hn : ps.length = n) (hm : mg x = some (.ref f)) (hb : Binds K fd ps [])
    (body : ∀ (cdv : Value) (A : Around) (outer : List PySem.Env) (s : Shared) (H : Hp) (E : XK), (bodyX P w K mg base N qual st f cdv A outer s H E).A.guards = some [] → Room k (bodyX P w K mg base N qual st f cdv A outer s H E).A → DSs (bodyX P w K mg base N qual st f cdv A outer s H E) E (defBody st) m) :
    CallG P w K mg base x (k + 1) n (runD N.length m) := by
  refine ⟨f, fd, ps, hm, hn, grunO_of F S (fun vs H Q E h => by rw [hn]; exact h.1) fun cdv A outer s H vs Q E hg hr h => ?_, F.kp, hb⟩
  obtain ⟨hl, O, as, dom, ha, hend⟩ := h
  obtain ⟨t, h1, h2⟩ := (body cdv A outer s H E hg hr).ex
  refine ⟨t, h1, h2 H (off O H) O H O _ _ _ (start_sr dom ha) ?_⟩
  unfold runD at hend
  show EndsOk K mg H (off O H) O { nx := fun _ H' => Q .non H', rt := Q } E (m (as.map some ++ List.replicate (N.length - as.length) none))
  cases q : m (as.map some ++ List.replicate (N.length - as.length) none) with
  | nx ρ => rw [q] at hend; exact fun σ' H' O' R => hend .non H' R.base (show Rep _ _ _ _ from .non)
  | rt y => rw [q] at hend; exact fun v H' s' r => hend v H' s' r
  | bk ρ => rw [q] at hend; exact hend.elim
  | ct ρ => rw [q] at hend; exact hend.elim
  | ex e => rw [q] at hend; exact hend
  | no => rw [q] at hend; exact hend.elim
end
section
variable {X : Cx} {E : XK} {e : Expr} {es : List Expr} {pl : Env → R (List DV)} {pos pp : Pos} {k n : Nat} {x : Str} {m : List DV → R DV}
theorem run_fnG {f : Addr} {fd : FuncData} {ps : List Str} {sp : Sp} {pins : List (Addr × Obj)} {σ : L2.St} {H : Hp} {s : Shared} {Q : VK} {us : List Value} {vs : List V} (F : GRunO X.prog X.w X.K X.mg X.base k f fd ps sp) (hgd : X.A.guards = some []) (hr : Room k X.A) (hb : Binds X.K fd ps []) (hx : Passes (L2.CX X.prog X.w) X E)
    (I : Inv X pins σ H s) (r : Vals vs us) (hl : vs.length = ps.length) (h : sp vs H Q E) : wpAny (model X.prog X.w) X.A (call (.ref f) us) (EP X pins σ Q) X.xe s := by
  have b := hb s us I.kIn (by rw [List.append_nil, ← r.length]; exact hl)
  rw [List.append_nil] at b
  refine wpAny_call (codeAny_mono (F X.A X.stack s H ⟨us, []⟩ us vs Q E hgd hr I.env0 b r h) fun r s' hq => ?_)
  cases r with
  | error e => exact hx pins σ H s e s' I hq
  | ok fl =>
    cases fl with
    | ret u => exact I.after hq
    | next => exact False.elim hq
    | brk => exact False.elim hq
    | cont => exact False.elim hq
theorem pe_callG {f : Addr} {fd : FuncData} {ps : List Str} {sp : Sp} {t : TA} (F : GRunO X.prog X.w X.K X.mg X.base k f fd ps sp) (hl : ∀ vs H Q E, sp vs H Q E → vs.length = ps.length) (hgd : X.A.guards = some []) (hr : Room k X.A) (hg : Gl X x) (hm : X.mg x = some (.ref f)) (hk : PySem.W.keepIn X.K (.ref f) = true) (hb : Binds X.K fd ps []) (hx : Passes (L2.CX X.prog X.w) X E)
    (ha : PA X (e :: es) t) (hdb : (x == ("__debug__" : Str)) = false := by decide) (he : starEach (e :: es) X.env = (false, eval e X.env) :: starEach es X.env := by rfl) (hpl : (backTo pos (starEach es X.env)).any (·.1) = false := by rfl) :
    PE X (.Call (.Name x pp) (e :: es) [] pos) (fun σ H Q => t σ H fun vs H1 => sp vs H1 Q E) := by
  refine ⟨fun pins s σ H Q I h => ?_⟩
  refine wpAny_Call_Name_kw (ld_glob I hg hm ?_ hdb)
  refine PySem.W.callWith_K (h₀ := X.base) I.ok.mod.kin hk (thn (ha.run pos pins s σ H _ I h) fun us s1 ⟨vs, H1, I1, r, q⟩ => ⟨I1.kIn, ?_⟩) he hpl
  exact run_fnG F hgd hr hb hx I1 r (hl _ _ _ _ q) q
theorem de_callG (c : CallG X.prog X.w X.K X.mg X.base x k n m) (hgd : X.A.guards = some []) (hr : Room k X.A) (hg : Gl X x) (hx : Passes (L2.CX X.prog X.w) X E) (ha : DA X E (e :: es) pl) (hdb : (x == ("__debug__" : Str)) = false := by decide)
    (he : starEach (e :: es) X.env = (false, eval e X.env) :: starEach es X.env := by rfl) (hpl : (backTo pos (starEach es X.env)).any (·.1) = false := by rfl) : DE X E (.Call (.Name x pp) (e :: es) [] pos) (dCall n m pl) := by
  obtain ⟨f, fd, ps, hm, hn, F, hk, hb⟩ := c.ex
  obtain ⟨t, h1, h2⟩ := ha.ex
  refine ⟨_, pe_callG F (fun vs H Q E h => by rw [hn]; exact h.1) hgd hr hg hm hk hb hx h1 hdb he hpl, fun B F' O0 H O σ ρ R => ?_⟩
  refine EvG.bind (T1 := fun vs H1 Q => spD X.K X.mg n m vs H1 Q E) (h2 B F' O0 H O σ ρ R) fun xs vs H1 s1 r1 => ?_
  split
  · rename_i hl
    have hlen : vs.length = n := by rw [(OutL.args r1).length, List.length_map]; exact hl
    have dom := (R.more s1).dom
    cases q : m (xs.map argD) with
    | no => trivial
    | ex z => exact fun w Q => ⟨hlen, O, _, dom, OutL.args r1, by rw [q]; exact w⟩
    | ok y =>
      refine fun Q hQ => ⟨hlen, O, _, dom, OutL.args r1, by
        rw [q]
        intro v H' s' ro
        refine hQ v H' s' ?_
        obtain ⟨d, kk⟩ := y
        cases kk with
        | fz => exact ro
        | ow =>
          obtain ⟨z, ez, nz, cz⟩ := ro
          exact ⟨z, ez, s1.free nz, fun oz => dom z oz nz, cz⟩
        | bo => exact ro.elim
        | al => exact ro.elim⟩
  · trivial
/-! ### str(x) -/
def rStrF (K : PySem.W.Frag) : List V → Hp → VK → Prop := fun vs H Q => ∃ v d, vs = [v] ∧ Dp K H v d ∧ d.showable = true ∧ d.hasDict = false ∧ d.depth ≤ 100 ∧ d.shown.length ≤ sizeLine ∧ (∃ a, v = .ref a) ∧ Q (.str d.shown) H
theorem cr_strF (hgd : X.A.guards = some []) (hr : Room k X.A) : CallR X (.type "str") (rStrF X.K) := by
  intro pins s σ H vs us Q I rv hq
  obtain ⟨v, d, rfl, hd, h1, h2, h3, h4, ⟨a, rfl⟩, q⟩ := hq
  obtain ⟨u, rfl, ru⟩ := vals1 rv
  obtain ⟨as, rd⟩ := Dp.reads I d _ u hd ru
  cases ru
  have hu := hr.un
  exact str_of_reads rd h1 (fun z => by rw [h2] at z; cases z) hgd (by omega) (fun _ _ e => e) (fun h' u tk hk => ⟨.str _, H, I.kept hk, ⟨_, rfl⟩, q⟩) h4
def gStr (x : DV) : R DV := if x.1.isRf = true then (reprD x.1).bind fun s => .ok (.str s, .fz) else .no
theorem cb_str (hgd : X.A.guards = some []) (hr : Room k X.A) : CB X E (.type "str") (one gStr) := cb1 (cr_strF hgd hr) fun B O0 H0 H O x v s dom hx => by
  unfold gStr reprD
  by_cases c : x.1.isRf = true
  · rw [if_pos c]
    split
    · rename_i z
      obtain ⟨z1, z2, z3, z4, z5⟩ := z
      have hd := hx.dp z1
      refine fun Q hQ => ⟨v, _, rfl, hd, z2, z3, z4, z5, ?_, hQ _ _ (Same.refl _) (show Rep _ _ _ _ from .str _)⟩
      obtain ⟨d, kk⟩ := x
      cases d <;> first | (cases c; done) | skip
      · obtain ⟨a, vs, rfl, _⟩ := hx.lst
        exact ⟨a, rfl⟩
      · simp only [D.py] at hd
        cases hd
        exact ⟨_, rfl⟩
    · trivial
  · rw [if_neg c]; trivial
end
end FK
namespace FK
abbrev mRevT (p : Env → R DV) : Env → R DV := fun ρ => (p ρ).bind revT
end FK
namespace FK
open PySem PySem.Spec L2
open PyProof.Rows hiding St
/-! FX6: {k: v}. -/
def mkDk1 (x y : DV) : R DV := match x.1, keep1 y with
  | .int i, some d => .ok (.dk [((Sum.inl i : Key), d)], .ow)
  | _, _ => .no
abbrev mDk1 (pk pv : Env → R DV) : Env → R DV := fun ρ => (pk ρ).quiet.bind fun x => (pv ρ).quiet.bind fun y => mkDk1 x y
section
variable {X : Cx} {E : XK} {ke ve : Expr} {pk pv : Env → R DV} {pos : Pos}
theorem de_dk1 (hk : DE X E ke pk) (hv : DE X E ve pv) : DE X E (.Dict [some ke] [ve] pos) (mDk1 pk pv) := by
  obtain ⟨t, a1, a2⟩ := hk.ex
  obtain ⟨u, b1, b2⟩ := hv.ex
  refine ⟨_, pe_disp (pps_cons a1 b1 pps_nil) rfl rfl (by simp) (by simp), fun B F O0 H O σ ρ R => ?_⟩
  show EvG _ _ _ _ _ ((pk ρ).quiet.bind fun x => (pv ρ).quiet.bind fun y => mkDk1 x y) _ _
  cases q1 : pk ρ with
  | no => trivial
  | ex e => trivial
  | ok x =>
    cases q2 : pv ρ with
    | no => trivial
    | ex e => trivial
    | ok y =>
      show EvG _ _ _ _ _ (mkDk1 x y) _ _
      unfold mkDk1
      obtain ⟨d, kk⟩ := x
      cases d <;> first | exact True.intro | skip
      rename_i i
      cases q3 : keep1 y with
      | none => trivial
      | some dd =>
        intro Q hQ p hp
        have s0 : Same H (upd H p (.dK [])) := same_upd hp
        have R0 := R.grow s0 hp (by rw [upd_same]; exact fun z => nomatch z)
        have e1 := a2 B F O0 _ (plus O p) σ ρ R0
        rw [q1] at e1
        refine e1 _ fun v H1 s1 r1 => ?_
        cases Out.int r1
        have e2 := b2 B F O0 _ (plus O p) σ ρ (R0.more s1)
        rw [q2] at e2
        refine e2 _ fun w H2 s2 r2 => ?_
        have hp2 : H2 p = some (.dK []) := s2 _ _ (s1 _ _ upd_same)
        refine ⟨hp2, [((Sum.inl i : Key), w)], rfl, by simp, ?_⟩
        have np : ¬ O p := fun z => R.dom p z hp
        have sH : Same H (upd H2 p (.dK [((Sum.inl i : Key), w)])) := fun b o eb => by
          rw [upd_ne (ne_of_none eb hp)]
          exact s2 _ _ (s1 _ _ (s0 _ _ eb))
        have rk := Out.keep r2 q3
        refine hQ _ _ sH ⟨p, rfl, hp, np, [((Sum.inl i : Key), w)], upd_same, .cons ?_ .nil⟩
        rw [off_upd (.inr rfl)]
        exact rk
/-! list(d): its keys -/
def kD : Key → D
  | .inl i => .int i
  | .inr s => .str s
def gListD (x : DV) : R DV := match x.1 with
  | .lst xs => .ok (.lst xs, .ow)
  | .tup xs => .ok (.lst xs, .ow)
  | .dk kvs => .ok (.lst (kvs.map fun kv => kD kv.1), .ow)
  | _ => .no
theorem kD_rep {K : PySem.W.Frag} {H : Hp} : ∀ k : Key, Rep K H (kV k) (kD k)
  | .inl i => .int i
  | .inr s => .str s
theorem RepK.keys {K : PySem.W.Frag} {H : Hp} : ∀ {vs : List (Key × V)} {ds : List (Key × D)}, RepK K H vs ds → ∀ {H' : Hp}, RepL K H' (vs.map fun kv => kV kv.1) (ds.map fun kv => kD kv.1)
  | _, _, .nil, _ => .nil
  | _, _, .cons a b, _ => .cons (kD_rep _) (RepK.keys b)
theorem cb_listD (hc : X.calm = true) : CB X E (.type "list") (one gListD) := cb1 (CallR.or call_list_of (call_listD hc)) fun B O0 H0 H O x v s dom hx => by
  obtain ⟨d, kk⟩ := x
  cases d <;> first | exact True.intro | skip
  · obtain ⟨a, vs, rfl, h1, h2⟩ := hx.lst
    exact fun Q hQ => .inl ⟨a, vs, rfl, .inl h1, ev_lst (mg := X.mg) (E := E) dom h2 Q hQ⟩
  · obtain ⟨a, vs, rfl, h1, h2⟩ := hx.tup
    exact fun Q hQ => .inl ⟨a, vs, rfl, .inr h1, ev_lst (mg := X.mg) (E := E) dom h2 Q hQ⟩
  · obtain ⟨a, vs, rfl, h1, h2⟩ := hx.dk
    exact fun Q hQ => .inr ⟨a, vs, rfl, .inl h1, ev_lst (mg := X.mg) (E := E) dom (RepK.keys h2) Q hQ⟩
end
end FK
namespace FK
open PySem PySem.Spec L2
open PyProof.Rows hiding St
/-! FX7: a list of lists whose lines are written through other names (_law_far of k16). -/
section
variable {X : Cx} {E : XK} {tg iter : Expr} {pos : Pos}
/-! ### a loop by any word -/
theorem wipe_get : ∀ (vs : List Nat) (σ : L2.St) (p : Nat), p ∉ vs → (wipe σ vs)[p]? = σ[p]?
  | [], _, _, _ => rfl
  | v :: vs, σ, p, h => by
    show ((wipe σ vs).set v none)[p]? = _
    rw [List.getElem?_set_ne (fun e => h (by rw [e]; exact List.mem_cons_self))]
    exact wipe_get vs σ p fun z => h (List.mem_cons_of_mem _ z)
theorem for_any {is : List Nat} {q : Env → R (List D × Kd)} {f : D → Env → Option Env} {body : List Stmt} {t : TS} (hp : PassesOwn (model X.prog X.w) X.A X.env X.xe) (hc : X.calm = true) (hi : DI X E tg iter q) (hg : DG X tg is f) (hb : PSs X body t)
    (hs : ∀ x, foldedSetIterable iter X.env x = pure x := by intro _; rfl) : ∃ T, PS X (.For tg iter body [] pos) T ∧
    ∀ (B F : Hp) (O0 : Own) (H : Hp) (O : Own) (σ : L2.St) (ρ : Env) (D : Ends) (ds : List FK.D) (kk : Kd), SR X.K B F O0 H O σ ρ → q ρ = .ok (ds, kk) → kk ≠ .al →
    (∀ H1, Same H H1 → ∃ Iv : Nat → L2.St → Hp → Own → Env → Prop, (∀ i σ' H' O' ρ', Iv i σ' H' O' ρ' → SR X.K B (off O H1) O0 H' O' σ' ρ') ∧ Iv 0 σ H1 O ρ ∧ (∀ σ' H' O' ρ', Iv ds.length σ' H' O' ρ' → D.nx σ' H') ∧
      ∀ i d σ' H' O' ρ' H4, ds[i]? = some d → Iv i σ' H' O' ρ' → Same H' H4 → ∃ ρ1, f d ρ' = some ρ1 ∧ ∀ σ5, SR X.K B (off O H1) O0 H4 O' σ5 ρ1 → (∀ p, p ∉ is → σ5[p]? = σ'[p]?) →
        t { D with nx := fun σ6 H6 => ∃ O6 ρ6, Iv (i + 1) σ6 H6 O6 ρ6, ct := fun σ6 H6 => ∃ O6 ρ6, Iv (i + 1) σ6 H6 O6 ρ6, bk := D.nx } σ5 H4) → T D σ H := by
  obtain ⟨wi, a1, a2⟩ := hi.ex
  obtain ⟨g, b1, b2⟩ := hg.ex
  refine ⟨_, ps_for hp hc a1 b1 hb hs, fun B F O0 H O σ ρ D ds kk R hq nk h => ?_⟩
  have e0 := a2 B F O0 H O σ ρ R
  rw [hq] at e0
  refine e0 _ fun J H1 s1 it => ?_
  dsimp only at it
  obtain ⟨Iv, v1, v2, v3, v4⟩ := h H1 s1
  have R1 := R.more s1
  have src : ∀ {H' : Hp} {O' : Own} {σ' : L2.St} {ρ' : Env}, SR X.K B (off O H1) O0 H' O' σ' ρ' → Same (srcH B O H1 kk) H' := fun {H' O' σ' ρ'} R' => by
    cases kk with
    | fz => exact R'.frz.trans off_sub
    | ow => exact R'.frz.trans off_sub
    | bo => exact R'.base
    | al => exact absurd rfl nk
  refine ⟨fun i mm σ' H' => mm = ds.length - i ∧ i ≤ ds.length ∧ ∃ O' ρ', Iv i σ' H' O' ρ', ⟨ds.length, by omega, Nat.zero_le _, O, ρ, v2⟩, ?_⟩
  rintro i mm σ' H' ⟨rfl, hi, O', ρ', w⟩
  have R' := v1 _ _ _ _ _ w
  obtain ⟨i1, i2, i3⟩ := it i H' (src R')
  by_cases hlt : i < ds.length
  · refine .inr ⟨i1 hlt, fun σ2 H2 => ∃ O2 ρ2, Iv (i + 1) σ2 H2 O2 ρ2, fun σ2 H2 w2 => ⟨ds.length - (i + 1), by omega, rfl, hlt, w2⟩, fun v H4 y => ?_⟩
    obtain ⟨s4, r4⟩ := i3 v H4 ds[i] y (List.getElem?_eq_getElem hlt)
    have R4 := R'.more s4
    obtain ⟨ρ1, q1, k⟩ := v4 i ds[i] σ' H' O' ρ' H4 (List.getElem?_eq_getElem hlt) w s4
    refine b2 B _ O0 H4 O' σ' ρ' ρ1 v ds[i] _ R4 (r4 O' R'.dom R'.frz) q1 fun σ5 R5 w5 => ?_
    refine k σ5 R5 fun p hp => ?_
    have := congrArg (fun l => l[p]?) (w5 is fun i h => h)
    rwa [wipe_get is σ5 p hp, wipe_get is σ' p hp] at this
  · have e : i = ds.length := by omega
    subst e
    exact .inl ⟨i2 (Nat.le_refl _), v3 _ _ _ _ w⟩
end

/-! ### the matrix -/
section
variable {K : PySem.W.Frag} {B F H H' : Hp} {O0 O : Own} {σ : L2.St} {ρ : Env}
theorem SR.growL (R : SR K B F O0 H O σ ρ) (S : Own) (s : Same H H') (n : ∀ a, S a → H a = none) (n' : ∀ a, S a → H' a ≠ none) : SR K B F O0 H' (fun b => O b ∨ S b) σ ρ where
  len := R.len
  base := R.base.trans s
  frz := R.frz.trans fun b o h => by
    obtain ⟨h1, h2⟩ := off_some h
    exact off_of (fun z => z.elim h1 fun e => by rw [n _ e] at h2; cases h2) (s _ _ h2)
  fb := R.fb.trans fun b o h => by
    obtain ⟨h1, h2⟩ := off_some h
    exact off_of (fun z => z.elim h1 fun e => by rw [n _ e] at h2; cases h2) (s _ _ h2)
  dom := fun b z => z.elim (fun z e => R.dom b z (s.free e)) fun e => n' _ e
  dom0 := R.dom0
  sub := fun b z => .inl (R.sub b z)
  slot := fun i x e => by
    have f : Same (off O H) (off (fun b => O b ∨ S b) H') := fun b o h => by
      obtain ⟨h1, h2⟩ := off_some h
      exact off_of (fun z => z.elim h1 fun e => by rw [n _ e] at h2; cases h2) (s _ _ h2)
    obtain ⟨v, h1, h2⟩ := R.slot i x e
    refine ⟨v, h1, ?_⟩
    obtain ⟨d, k⟩ := x
    cases k with
    | fz => exact Rep.mono f h2
    | ow =>
      obtain ⟨b, eb, ob, nb, c⟩ := h2
      exact ⟨b, eb, .inl ob, nb, c.mono (fun o => s _ _) f⟩
    | bo => exact h2
    | al => exact h2
  sep := R.sep
/-- any value into a slot that is not looked at -/
theorem SR.blind (R : SR K B F O0 H O σ ρ) (i : Nat) (v : Option V) (e : ∀ x, ρ[i]? = some x → x = none) : SR K B F O0 H O (σ.set i v) ρ where
  len := by rw [List.length_set]; exact R.len
  base := R.base
  frz := R.frz
  fb := R.fb
  dom := R.dom
  dom0 := R.dom0
  sub := R.sub
  slot := fun j y ej => by
    have c : j ≠ i := fun c => by subst c; cases e _ ej
    rw [List.getElem?_set_ne (Ne.symm c)]
    exact R.slot j y ej
  sep := fun j l y z a hjl e1 k1 e2 k2 g1 g2 => by
    have c1 : j ≠ i := fun c => by subst c; cases e _ e1
    have c2 : l ≠ i := fun c => by subst c; cases e _ e2
    rw [List.getElem?_set_ne (Ne.symm c1)] at g1
    rw [List.getElem?_set_ne (Ne.symm c2)] at g2
    exact R.sep j l y z a hjl e1 k1 e2 k2 g1 g2
structure MR (K : PySem.W.Frag) (B F : Hp) (O0 : Own) (a : Addr) (rs : List Addr) (H : Hp) (O : Own) (σ : L2.St) (ρ : Env) (m : List (List Bool)) : Prop where
  sr : SR K B F O0 H O σ ρ
  no : ∀ (j : Nat) (x : DV), ρ[j]? = some (some x) → x.2 ≠ .ow
  n1 : ρ[1]? = some none
  n5 : ρ[5]? = some none
  sl : σ[1]? = some (some (.ref a))
  oa : O a
  na : B a = none
  ha : H a = some (.lst (rs.map V.ref))
  nd : rs.Nodup
  ar : a ∉ rs
  own : ∀ r ∈ rs, O r ∧ B r = none
  len : rs.length = m.length
  rows : ∀ (k : Nat) (r : Addr), rs[k]? = some r → ∃ row, m[k]? = some row ∧ H r = some (.lst (row.map V.bl))
variable {a : Addr} {rs : List Addr} {m : List (List Bool)}
theorem MR.more (M : MR K B F O0 a rs H O σ ρ m) (s : Same H H') : MR K B F O0 a rs H' O σ ρ m :=
  ⟨M.sr.more s, M.no, M.n1, M.n5, M.sl, M.oa, M.na, s _ _ M.ha, M.nd, M.ar, M.own, M.len, fun k r e => let ⟨row, h1, h2⟩ := M.rows k r e; ⟨row, h1, s _ _ h2⟩⟩
theorem MR.reframe {F' : Hp} (M : MR K B F O0 a rs H O σ ρ m) (s : Same F' (off O H)) : MR K B F' O0 a rs H O σ ρ m :=
  ⟨M.sr.reframe s, M.no, M.n1, M.n5, M.sl, M.oa, M.na, M.ha, M.nd, M.ar, M.own, M.len, M.rows⟩
theorem MR.weaken {F' : Hp} (M : MR K B F O0 a rs H O σ ρ m) (s : Same F' F) : MR K B F' O0 a rs H O σ ρ m := M.reframe (s.trans M.sr.frz)
theorem MR.tgt {k : Nat} {d : D} {σ' : L2.St} (M : MR K B F O0 a rs H O σ ρ m) (R : SR K B F O0 H O σ' (ρ.set k (some (d, .fz)))) (e : ∀ p, p ∉ [k] → σ'[p]? = σ[p]?) (k1 : k ≠ 1) (k5 : k ≠ 5) : MR K B F O0 a rs H O σ' (ρ.set k (some (d, .fz))) m where
  sr := R
  no := fun j x h => by
    by_cases c : k = j
    · subst c
      rw [List.getElem?_set] at h
      simp only [if_true] at h
      split at h
      · cases h; exact fun z => nomatch z
      · cases h
    · rw [List.getElem?_set_ne c] at h
      exact M.no j x h
  n1 := by rw [List.getElem?_set_ne k1]; exact M.n1
  n5 := by rw [List.getElem?_set_ne k5]; exact M.n5
  sl := by rw [e 1 (by simp; exact fun z => k1 z.symm)]; exact M.sl
  oa := M.oa
  na := M.na
  ha := M.ha
  nd := M.nd
  ar := M.ar
  own := M.own
  len := M.len
  rows := M.rows
theorem MR.line (M : MR K B F O0 a rs H O σ ρ m) (v : V) : MR K B F O0 a rs H O (σ.set 5 (some v)) ρ m where
  sr := M.sr.blind 5 _ fun x h => by rw [M.n5] at h; exact (Option.some.inj h).symm
  no := M.no
  n1 := M.n1
  n5 := M.n5
  sl := by rw [List.getElem?_set_ne (by decide)]; exact M.sl
  oa := M.oa
  na := M.na
  ha := M.ha
  nd := M.nd
  ar := M.ar
  own := M.own
  len := M.len
  rows := M.rows
theorem MR.poke {k : Nat} {r : Addr} {row : List Bool} (M : MR K B F O0 a rs H O σ ρ m) (e : rs[k]? = some r) : MR K B F O0 a rs (upd H r (.lst (row.map V.bl))) O σ ρ (m.set k row) where
  sr := M.sr.writeT (M.own r (List.mem_of_getElem? e)).1 (M.own r (List.mem_of_getElem? e)).2 fun j y h1 h2 => absurd h2 (M.no j y h1)
  no := M.no
  n1 := M.n1
  n5 := M.n5
  sl := M.sl
  oa := M.oa
  na := M.na
  ha := by rw [upd_ne (fun z => M.ar (by rw [z]; exact List.mem_of_getElem? e))]; exact M.ha
  nd := M.nd
  ar := M.ar
  own := M.own
  len := by rw [List.length_set]; exact M.len
  rows := fun i q eq => by
    have hi : k < m.length := by
      rw [← M.len]
      exact (List.getElem?_eq_some_iff.mp e).1
    by_cases c : k = i
    · subst c
      rw [e] at eq
      cases eq
      exact ⟨row, List.getElem?_set_self hi, upd_same⟩
    · obtain ⟨w, h1, h2⟩ := M.rows i q eq
      refine ⟨w, by rw [List.getElem?_set_ne c]; exact h1, ?_⟩
      rw [upd_ne]
      · exact h2
      · intro z
        subst z
        have i1 := (List.getElem?_eq_some_iff.mp e)
        have i2 := (List.getElem?_eq_some_iff.mp eq)
        obtain ⟨l1, z1⟩ := i1
        obtain ⟨l2, z2⟩ := i2
        exact c ((List.getElem_inj M.nd).mp (z1.trans z2.symm))
end
/-! ### what it computes -/
def farLine (j k : Nat) (row : List Bool) : List Bool := if row[j]? = some true then row.set k true else row
def farJ (k : Nat) (m : List (List Bool)) (j : Int) : List (List Bool) := (m.map (farLine j.toNat k)).set j.toNat (((m.map (farLine j.toNat k)).getD j.toNat []).set k true)
def farK (m : List (List Bool)) (k : Nat) (row : List Int) : List (List Bool) := row.foldl (farJ k) m
def farM (G : List (List Int)) : List (List Bool) := (List.range G.length).foldl (fun m k => farK m k (G.getD k [])) (List.replicate G.length (List.replicate G.length false))
def asI : List D → Option (List Int)
  | [] => some []
  | .int i :: r => (asI r).map (i :: ·)
  | _ => none
def asR : List D → Option (List (List Int))
  | [] => some []
  | .tup xs :: r => (match asI xs with | some a => (asR r).map (a :: ·) | none => none)
  | _ => none
theorem asI_eq : ∀ {ds : List D} {ns : List Int}, asI ds = some ns → ds = ns.map D.int
  | [], _, e => by cases e; rfl
  | .int i :: r, ns, e => by
    unfold asI at e
    cases q : asI r with
    | none => rw [q] at e; cases e
    | some a => rw [q] at e; cases e; rw [asI_eq q]; rfl
  | .non :: _, _, e => nomatch e
  | .bl _ :: _, _, e => nomatch e
  | .str _ :: _, _, e => nomatch e
  | .lst _ :: _, _, e => nomatch e
  | .tup _ :: _, _, e => nomatch e
  | .dk _ :: _, _, e => nomatch e
  | .dt _ :: _, _, e => nomatch e
theorem asI_ints : ∀ ns : List Int, asI (ns.map D.int) = some ns
  | [] => rfl
  | n :: r => by
    show (asI (r.map D.int)).map (n :: ·) = _
    rw [asI_ints r]
    rfl
theorem asR_eq : ∀ {ds : List D} {G : List (List Int)}, asR ds = some G → ds = G.map fun (r : List Int) => D.tup (r.map D.int)
  | [], _, e => by cases e; rfl
  | .tup xs :: r, G, e => by
    unfold asR at e
    cases q : asI xs with
    | none => simp only [q] at e; cases e
    | some a =>
      simp only [q] at e
      cases q2 : asR r with
      | none => rw [q2] at e; cases e
      | some b => rw [q2] at e; cases e; rw [asR_eq q2, asI_eq q]; rfl
  | .non :: _, _, e => nomatch e
  | .bl _ :: _, _, e => nomatch e
  | .str _ :: _, _, e => nomatch e
  | .lst _ :: _, _, e => nomatch e
  | .int _ :: _, _, e => nomatch e
  | .dk _ :: _, _, e => nomatch e
  | .dt _ :: _, _, e => nomatch e
theorem asR_rows : ∀ G : List (List Int), asR (G.map fun (r : List Int) => D.tup (r.map D.int)) = some G
  | [] => rfl
  | n :: r => by
    show (match asI (n.map D.int) with | some a => (asR (r.map fun (r : List Int) => D.tup (r.map D.int))).map (a :: ·) | none => none) = _
    rw [asI_ints n, asR_rows r]
    rfl
def mFar (ρ : Env) : SO := match ρ with
  | [some (.tup gs, .fz), none, none, none, none, none] => (match asR gs with
    | some G => if G.length ≤ 1000 ∧ ∀ r ∈ G, ∀ j ∈ r, 0 ≤ j ∧ j < (G.length : Int) then .rt (.lst ((farM G).map fun r => .lst (r.map D.bl)), .ow) else .no
    | none => .no)
  | _ => .no
def Sq (n : Nat) (m : List (List Bool)) : Prop := m.length = n ∧ ∀ r ∈ m, r.length = n
theorem farLine_len (j k : Nat) (row : List Bool) : (farLine j k row).length = row.length := by
  unfold farLine
  split
  · rw [List.length_set]
  · rfl
theorem Sq.map {n : Nat} {m : List (List Bool)} (h : Sq n m) (j k : Nat) : Sq n (m.map (farLine j k)) := ⟨by rw [List.length_map]; exact h.1, fun r hr => by
  obtain ⟨q, hq, rfl⟩ := List.mem_map.mp hr
  rw [farLine_len]
  exact h.2 q hq⟩
theorem Sq.set {n : Nat} {m : List (List Bool)} (h : Sq n m) {i : Nat} (hi : i < n) (k : Nat) : Sq n (m.set i ((m.getD i []).set k true)) := ⟨by rw [List.length_set]; exact h.1, fun r hr => by
  rcases List.mem_or_eq_of_mem_set hr with z | z
  · exact h.2 r z
  · subst z
    rw [List.length_set]
    refine h.2 _ ?_
    rw [List.getD_eq_getElem?_getD, List.getElem?_eq_getElem (by rw [h.1]; exact hi)]
    exact List.getElem_mem _⟩
theorem Sq.farJ {n : Nat} {m : List (List Bool)} (h : Sq n m) {j : Int} (h0 : 0 ≤ j) (hj : j < n) (k : Nat) : Sq n (farJ k m j) := (h.map _ _).set (by omega) k
theorem ixN_nat {n i : Nat} (h : i < n) : ixN n (i : Int) = some i := by
  unfold ixN
  rw [if_pos (Int.natCast_nonneg _), if_pos (by omega)]
  rfl
section
variable {X : Cx} {E : XK} {B F H H' : Hp} {O0 O : Own} {σ : L2.St} {ρ : Env} {a : Addr} {rs : List Addr} {m : List (List Bool)}
abbrev tPut5 : TS := tAsg (tC (.bl true)) (gSub (tVar 5) (tVar 4) rSetL)
abbrev tIf5 (K : PySem.W.Frag) : TS := tIfS (fun σ H Q => (tOp (rIxL K) (tVar 5) (tVar 2)) σ H fun x H' => ∃ k, TruV K x H' k ∧ Q k H') tPut5 tNext
abbrev tLine (K : PySem.W.Frag) : TS := tFor (iList K (tVar 1)) (L2.gName 5) (tIf5 K)
abbrev tAsg5 (K : PySem.W.Frag) : TS := tAsg (tOp (rIxL K) (tVar 1) (tVar 2)) (L2.gName 5)
theorem MR.row {K : PySem.W.Frag} (M : MR K B F O0 a rs H O σ ρ m) {i : Nat} {r : Addr} (e : rs[i]? = some r) (hi : i < m.length) : H r = some (.lst (m[i].map V.bl)) := by
  obtain ⟨row, h1, h2⟩ := M.rows i r e
  rw [List.getElem?_eq_getElem hi] at h1
  cases h1
  exact h2
theorem put_run {K : PySem.W.Frag} {k n i : Nat} {r : Addr} (M : MR K B F O0 a rs H O σ ρ m) (sq : Sq n m) (hi : i < n) (hk : k < n) (er : rs[i]? = some r) (e5 : σ[5]? = some (some (.ref r))) (e4 : σ[4]? = some (some (.int k))) (D : Ends)
    (hD : ∀ H', MR K B F O0 a rs H' O σ ρ (m.set i ((m.getD i []).set k true)) → D.nx σ H') : tPut5 D σ H := by
  have hi' : i < m.length := by rw [sq.1]; exact hi
  have hr := M.row er hi'
  have hg : m.getD i [] = m[i] := by rw [List.getD_eq_getElem?_getD, List.getElem?_eq_getElem hi']; rfl
  refine ⟨.ref r, e5, .int k, e4, r, m[i].map V.bl, k, k, rfl, rfl, hr, ixN_nat (by rw [List.length_map, sq.2 _ (List.getElem_mem hi')]; exact hk), hD _ ?_⟩
  have e : (m[i].map V.bl).set k (.bl true) = (m[i].set k true).map V.bl := by rw [List.map_set]
  rw [e, hg]
  exact M.poke er
theorem line_run {K : PySem.W.Frag} {j k n : Nat} (M : MR K B F O0 a rs H O σ ρ m) (sq : Sq n m) (hj : j < n) (hk : k < n) (e2 : σ[2]? = some (some (.int j))) (e4 : σ[4]? = some (some (.int k))) (D : Ends)
    (hD : ∀ σ' H', MR K B F O0 a rs H' O σ' ρ (m.map (farLine j k)) → σ'[2]? = some (some (.int j)) → σ'[4]? = some (some (.int k)) → D.nx σ' H') : tLine K D σ H := by
  refine ⟨.ref a, M.sl, a, rfl, ⟨_, SqL.of M.ha⟩, ?_⟩
  have hl : rs.length = n := M.len.trans sq.1
  refine for_list (xs := rs.map V.ref) (fun i σ' H' => ∃ m', m' = (m.take i).map (farLine j k) ++ m.drop i ∧ MR K B F O0 a rs H' O σ' ρ m' ∧ Sq n m' ∧ σ'[2]? = some (some (.int j)) ∧ σ'[4]? = some (some (.int k))) ⟨m, by simp, M, sq, e2, e4⟩ (fun i σ' H' _ ⟨_, _, M', _⟩ => SqL.of M'.ha) ?_ ?_
  · rintro i x σ' H' hx ⟨m', em, M', sq', e2', e4'⟩
    rw [List.getElem?_map] at hx
    cases er : rs[i]? with
    | none => rw [er] at hx; cases hx
    | some r =>
      rw [er] at hx
      cases hx
      have hi : i < n := by rw [← hl]; exact (List.getElem?_eq_some_iff.mp er).1
      have him : i < m.length := by rw [sq.1]; exact hi
      have hi' : i < m'.length := by rw [sq'.1]; exact hi
      have hr := M'.row er hi'
      have hlen := sq'.2 _ (List.getElem_mem hi')
      have M2 := M'.line (.ref r)
      have l5 : 5 < σ'.length := by
        rw [M'.sr.len]
        exact (List.getElem?_eq_some_iff.mp M'.n5).1
      have g5 : (σ'.set 5 (some (.ref r)))[5]? = some (some (.ref r)) := List.getElem?_set_self l5
      have g2 : (σ'.set 5 (some (V.ref r)))[2]? = some (some (.int j)) := by rw [List.getElem?_set_ne (by decide)]; exact e2'
      have g4 : (σ'.set 5 (some (V.ref r)))[4]? = some (some (.int k)) := by rw [List.getElem?_set_ne (by decide)]; exact e4'
      have emi : m'[i] = m[i] := by
        subst em
        rw [List.getElem_append_right (by rw [List.length_map, List.length_take]; omega)]
        simp only [List.length_map, List.length_take, List.getElem_drop]
        congr 1
        omega
      have step : (m'.set i (farLine j k m[i])) = (m.take (i + 1)).map (farLine j k) ++ m.drop (i + 1) := by
        subst em
        have e1 : ((m.take i).map (farLine j k)).length = i := by rw [List.length_map, List.length_take]; omega
        rw [List.set_append_right _ _ (by omega), e1, Nat.sub_self, List.drop_eq_getElem_cons him, List.set_cons_zero, List.take_succ_eq_append_getElem him, List.map_append, List.append_assoc]
        rfl
      refine ⟨.ref r, g5, .int j, g2, r, m'[i].map V.bl, j, .bl (m'[i][j]'(by omega)), rfl, rfl, SqL.of hr, ?_, m'[i][j]'(by omega), rfl, ?_⟩
      · unfold atI
        rw [ixN_nat (by rw [List.length_map]; omega)]
        show (m'[i].map V.bl)[j]? = _
        rw [List.getElem?_map, List.getElem?_eq_getElem (by omega)]
        rfl
      · have hfl : farLine j k m[i] = if m'[i][j]'(by omega) = true then m'[i].set k true else m'[i] := by
          unfold farLine
          rw [← emi, List.getElem?_eq_getElem (by omega)]
          by_cases c : m'[i][j]'(by omega) = true
          · rw [if_pos c, if_pos (by rw [c])]
          · rw [if_neg c, if_neg (fun z => c (Option.some.inj z))]
        by_cases c : m'[i][j]'(by omega) = true
        · show (if _ = true then _ else _)
          rw [if_pos c]
          rw [if_pos c] at hfl
          refine put_run M2 sq' hi hk er g5 g4 _ fun H2 M3 => ⟨_, ?_, M3, sq'.set hi k, g2, g4⟩
          rw [List.getD_eq_getElem?_getD, List.getElem?_eq_getElem hi']
          show m'.set i (m'[i].set k true) = _
          rw [← hfl, step]
        · show (if _ = true then _ else _)
          rw [if_neg c]
          rw [if_neg c] at hfl
          refine ⟨m', ?_, M2, sq', g2, g4⟩
          rw [← step, hfl, List.set_getElem_self]
  · rintro σ' H' ⟨m', em, M', sq', e2', e4'⟩
    have : m' = m.map (farLine j k) := by
      rw [em, List.length_map, hl, ← sq.1, List.take_length, List.drop_length, List.append_nil]
    subst this
    exact hD σ' H' M' e2' e4'
theorem MR.int {K : PySem.W.Frag} (M : MR K B F O0 a rs H O σ ρ m) {p : Nat} {i : Int} (e : ρ[p]? = some (some (.int i, .fz))) : σ[p]? = some (some (.int i)) := by
  obtain ⟨v, h1, h2⟩ := M.sr.slot p _ e
  cases (show Rep _ _ _ _ from h2)
  exact h1
theorem RepL.bools {K : PySem.W.Frag} {H : Hp} : ∀ bs : List Bool, RepL K H (bs.map V.bl) (bs.map D.bl)
  | [] => .nil
  | _ :: r => .cons (.bl _) (RepL.bools r)
theorem repL_of {K : PySem.W.Frag} {H : Hp} : ∀ (vs : List V) (ds : List D), vs.length = ds.length → (∀ (i : Nat) (v : V) (d : D), vs[i]? = some v → ds[i]? = some d → Rep K H v d) → RepL K H vs ds
  | [], [], _, _ => .nil
  | [], _ :: _, e, _ => nomatch e
  | _ :: _, [], e, _ => nomatch e
  | v :: vs, d :: ds, e, h => .cons (h 0 v d rfl rfl) (repL_of vs ds (Nat.succ.inj e) fun i v' d' h1 h2 => h (i + 1) v' d' (by simpa using h1) (by simpa using h2))
abbrev pIn : Env → R DV := mLc (mItems (dVar 0)) (FK.gName 2) kTrue (kBl false) [2]
theorem lcM_false (ρ : Env) : ∀ ds : List D, lcM (FK.gName 2) kTrue (kBl false) ds ρ = .ok ((List.replicate ds.length false).map D.bl)
  | [] => rfl
  | d :: ds => by
    unfold lcM
    simp only [R.quiet, R.bind_ok, if_true, keep1, lcM_false ρ ds]
    rfl
theorem pIn_eq {gs : List D} {x : Option DV} (h : gs.length ≤ 1000) : pIn [some (.tup gs, .fz), none, none, x, none, none] = .ok (.lst ((List.replicate gs.length false).map D.bl), .ow) := by
  show (if gs.length ≤ sizeLine then (lcM (FK.gName 2) kTrue (kBl false) gs _).bind fun r => FK.R.ok (D.lst r, Kd.ow) else .no) = _
  have : (1000 : Nat) ≤ sizeLine := by decide
  rw [if_pos (by omega), lcM_false]
  rfl
abbrev E6 (gs : List D) : Env := [some (.tup gs, .fz), none, none, none, none, none]
theorem mat_run {wi : TI} (a2 : ∀ (B F : Hp) (O0 : Own) (H : Hp) (O : Own) (σ : L2.St) (ρ : Env), SR X.K B F O0 H O σ ρ → EvG X.K X.mg O E H (mItems (dVar 0) ρ) (fun x J H' => ItOk X.K (off O H') (srcH B O H' x.2) J x.1) (wi σ H))
    {gs : List D} (hz : gs.length ≤ 1000) (R : SR X.K B F O0 H O σ (E6 gs)) (D : Ends)
    (hD : ∀ σ' H' O' a rs, MR X.K B F O0 a rs H' O' σ' (E6 gs) (List.replicate gs.length (List.replicate gs.length false)) → D.nx σ' H') :
    tAsg (tLc wi (cG X.K [3] (FK.gName 3)) (cTT X.K kTrue) (cT X.K pIn) [3]) (L2.gName 1) D σ H := by
  have e0 := a2 B F O0 H O σ _ R
  have ev : mItems (dVar 0) (E6 gs) = .ok (gs, .fz) := rfl
  rw [ev] at e0
  refine e0 _ fun J H1 s1 it p hp => ?_
  dsimp only at it
  have R1 := R.more s1
  have np : ¬ O p := fun z => R1.dom p z hp
  have hsz : (1000 : Nat) < sizeLine := by decide
  refine ⟨fun i mm H' => mm = gs.length - i ∧ i ≤ gs.length ∧ Same H1 H' ∧ ∃ rs : List Addr, rs.length = i ∧ H' p = some (.lst (rs.map V.ref)) ∧ rs.Nodup ∧ ∀ r ∈ rs, H1 r = none ∧ r ≠ p ∧ H' r = some (.lst ((List.replicate gs.length false).map V.bl)),
    ⟨gs.length, by omega, Nat.zero_le _, same_upd hp, [], rfl, upd_same, .nil, fun r h => nomatch h⟩, ?_⟩
  rintro i mm H' ⟨rfl, hi, sH, rs, hl, hacc, hnd, hrs⟩
  have R' : SR X.K B F O0 H' (plus O p) σ (E6 gs) := R1.grow sH hp (by rw [hacc]; exact fun z => nomatch z)
  obtain ⟨i1, i2, i3⟩ := it i H' (off_sub.trans sH)
  by_cases hlt : i < gs.length
  · refine .inr ⟨i1 hlt, fun H' => Same H1 H' ∧ ∃ rs : List Addr, rs.length = i + 1 ∧ H' p = some (.lst (rs.map V.ref)) ∧ rs.Nodup ∧ ∀ r ∈ rs, H1 r = none ∧ r ≠ p ∧ H' r = some (.lst ((List.replicate gs.length false).map V.bl)),
      fun H' h => ⟨gs.length - (i + 1), by omega, rfl, hlt, h⟩, fun v H4 y => ?_⟩
    obtain ⟨s4, r4⟩ := i3 v H4 gs[i] y (List.getElem?_eq_getElem hlt)
    have fS : Same (off O H1) (off (plus O p) H') := (off_plus_new hp).trans (off_mono sH)
    have R4 : SR X.K B F O0 H4 (plus O p) (wipe σ [3]) (E6 gs) := (R'.more s4).wipe [3]
    refine ⟨B, F, O0, plus O p, E6 gs, _, gs[i], R4, r4 _ R'.dom fS, rfl, fun σ5 R5 w5 => ⟨?_, ?_⟩⟩
    · rw [w5 [3] (by simp)]
      show (σ.set 3 none).set 3 none = σ.set 3 none
      rw [List.set_set]
    · refine ⟨B, F, O0, plus O p, _, true, R5, rfl, fun H5 s5 => ?_⟩
      show (if true = true then _ else _)
      rw [if_pos rfl]
      refine ⟨B, F, O0, plus O p, _, _, R5.more s5, pIn_eq hz, fun y H6 s6 o => ?_⟩
      obtain ⟨r, rfl, nr, or, vs, hvs, rvs⟩ := o
      have hv := RepL.of_bools rvs
      subst hv
      have p4 : H5 p = some (.lst (rs.map V.ref)) := s5 _ _ (s4 _ _ hacc)
      have p6 : H6 p = some (.lst (rs.map V.ref)) := s6 _ _ p4
      have rp : r ≠ p := fun z => by subst z; rw [nr] at p4; cases p4
      refine ⟨_, p6, by rw [List.length_map]; omega, ?_, rs ++ [r], by rw [List.length_append, hl]; rfl, ?_, ?_, ?_⟩
      · intro b o eb
        rw [upd_ne (ne_of_none eb hp)]
        exact s6 _ _ (s5 _ _ (s4 _ _ (sH _ _ eb)))
      · rw [upd_same, List.map_append]
        rfl
      · refine List.nodup_append.mpr ⟨hnd, by simp, fun x hx z hz e => ?_⟩
        have : z = r := by simpa using hz
        subst this
        subst e
        have := s5 _ _ (s4 _ _ (hrs x hx).2.2)
        rw [nr] at this
        cases this
      · intro q hq
        rcases List.mem_append.mp hq with z | z
        · refine ⟨(hrs q z).1, (hrs q z).2.1, ?_⟩
          rw [upd_ne (hrs q z).2.1]
          exact s6 _ _ (s5 _ _ (s4 _ _ (hrs q z).2.2))
        · have : q = r := by simpa using z
          subst this
          refine ⟨sH.free (s4.free (s5.free nr)), rp, ?_⟩
          rw [upd_ne rp]
          exact hvs
  · have e : i = gs.length := by omega
    subst e
    refine .inl ⟨i2 (Nat.le_refl _), ?_⟩
    refine hD _ H' (fun b => O b ∨ (b = p ∨ b ∈ rs)) p rs ⟨?_, ?_, rfl, rfl, ?_, .inr (.inl rfl), R1.base.free hp, hacc, hnd, fun z => (hrs p z).2.1 rfl, fun r hr => ⟨.inr (.inr hr), R1.base.free (hrs r hr).1⟩, by rw [hl, List.length_replicate], fun k r e => ?_⟩
    · refine (R1.growL (fun b => b = p ∨ b ∈ rs) sH ?_ ?_).blind 1 _ fun x h => ?_
      · rintro b (rfl | h)
        · exact hp
        · exact (hrs b h).1
      · rintro b (rfl | h)
        · rw [hacc]; exact fun z => nomatch z
        · rw [(hrs b h).2.2]; exact fun z => nomatch z
      · cases h
        rfl
    · intro j x h
      match j, h with
      | 0, h => cases h; exact fun z => nomatch z
      | 1, h => cases h
      | 2, h => cases h
      | 3, h => cases h
      | 4, h => cases h
      | 5, h => cases h
    · exact List.getElem?_set_self (by rw [R.len]; exact (by decide : 1 < 6))
    · have hk : k < gs.length := by rw [← hl]; exact (List.getElem?_eq_some_iff.mp e).1
      exact ⟨List.replicate gs.length false, List.getElem?_replicate_of_lt hk, (hrs r (List.mem_of_getElem? e)).2.2⟩
theorem foldl_range_succ {α : Type} (f : α → Nat → α) (a : α) (n : Nat) : (List.range (n + 1)).foldl f a = f ((List.range n).foldl f a) n := by
  rw [List.range_succ, List.foldl_append]
  rfl
theorem farK_sq {n : Nat} (k : Nat) : ∀ {row : List Int} {m : List (List Bool)}, Sq n m → (∀ j ∈ row, 0 ≤ j ∧ j < (n : Int)) → Sq n (farK m k row)
  | [], _, h, _ => h
  | j :: r, _, h, hr => farK_sq k (row := r) (h.farJ (hr j List.mem_cons_self).1 (hr j List.mem_cons_self).2 k) fun x hx => hr x (List.mem_cons_of_mem _ hx)
theorem farK_take {k i : Nat} {row : List Int} {m : List (List Bool)} {j : Int} (h : row[i]? = some j) : farK m k (row.take (i + 1)) = farJ k (farK m k (row.take i)) j := by
  obtain ⟨hi, rfl⟩ := List.getElem?_eq_some_iff.mp h
  rw [List.take_succ_eq_append_getElem hi]
  unfold farK
  rw [List.foldl_append]
  rfl
theorem getD_lt {α : Type} (d : α) {xs : List α} {i : Nat} (h : i < xs.length) : xs.getD i d = xs[i] := by rw [List.getD_eq_getElem?_getD, List.getElem?_eq_getElem h]; rfl
theorem rg1_nat1 (n : Nat) (h : n < 2 ^ 60) : rg1 (.int n, .fz) = .ok (rangeL 0 1 n, .fz) := by
  have e : (-(2 ^ 62) : Int) ≤ n ∧ (n : Int) < 2 ^ 62 := by constructor <;> omega
  simp only [rg1, e, and_self, if_true, Int.toNat_natCast]
structure MatS (X : Cx) (tg iter : Expr) (s1 : Stmt) (is : List Nat) (f : FK.D → Env → Option Env) (pt : Env → FK.R Bool) (pe : Env → FK.R DV) (vs : List Nat) (i : Nat) : Prop where
  ex : ∀ wi, PI X tg iter wi → PS X s1 (tAsg (tLc wi (cG X.K is f) (cTT X.K pt) (cT X.K pe) vs) (L2.gName i))
theorem far_rule {s1 sL sA sP : Stmt} {tgA iterA tgK iterK tgJ iterJ eR : Expr} {posJ posK posR : Pos} (hp : PassesOwn (model X.prog X.w) X.A X.env X.xe) (hc : X.calm = true)
    (hiA : DI X E tgA iterA (mItems (dVar 0))) (h1 : MatS X tgA iterA s1 [3] (FK.gName 3) kTrue pIn [3] 1)
    (hL : PS X sL (tLine X.K)) (hS : PS X sA (tAsg5 X.K)) (hP : PS X sP tPut5)
    (hiK : DI X E tgK iterK (mRg1 (dCB (one gLen) (aCons (dVar 0) aNil)))) (hgK : DG X tgK [4] (FK.gName 4)) (hiJ : DI X E tgJ iterJ (mItems (dBin ixD (dVar 0) (dVar 4)))) (hgJ : DG X tgJ [2] (FK.gName 2))
    (hR : PE X eR (tVar 1))
    (fK : ∀ x, foldedSetIterable iterK X.env x = pure x := by intro _; rfl) (fJ : ∀ x, foldedSetIterable iterJ X.env x = pure x := by intro _; rfl) :
    DSs X E [s1, .For tgK iterK [.For tgJ iterJ [sL, sA, sP] [] posJ] [] posK, .Return (some eR) posR] mFar := by
  obtain ⟨wi, a1, a2⟩ := hiA.ex
  obtain ⟨TJ, j1, j2⟩ := for_any (pos := posJ) hp hc hiJ hgJ (pss_cons hL (pss_cons hS (pss_one hP))) fJ
  obtain ⟨TK, k1, k2⟩ := for_any (pos := posK) hp hc hiK hgK (pss_one j1) fK
  refine ⟨_, pss_cons (h1.ex wi a1) (pss_cons k1 (pss_one (ps_ret hR))), fun B F O0 H O σ ρ D R h => ?_⟩
  unfold mFar at h
  split at h
  · rename_i gs
    split at h
    · rename_i G hG
      split at h
      · rename_i hok
        obtain ⟨hz, hrow⟩ := hok
        have egs := asR_eq hG
        have hlen : gs.length = G.length := by rw [egs, List.length_map]
        refine mat_run a2 (by rw [hlen]; exact hz) R _ fun σ1 H1 O1 a rs M => ?_
        rw [hlen] at M
        show TK { D with nx := tRet (tVar 1) D } σ1 H1
        have evK : mRg1 (dCB (one gLen) (aCons (dVar 0) aNil)) (E6 gs) = .ok (rangeL 0 1 G.length, .fz) := by
          have el : dCB (one gLen) (aCons (dVar 0) aNil) (E6 gs) = .ok (.int gs.length, .fz) := rfl
          show (dCB (one gLen) (aCons (dVar 0) aNil) (E6 gs)).bind rg1 = _
          rw [el, FK.R.bind_ok, hlen]
          exact rg1_nat1 G.length (by omega)
        refine k2 B F O0 H1 O1 σ1 _ _ _ .fz M.sr evK (by decide) fun H2 s2 => ?_
        have hrl : (rangeL 0 1 G.length).length = G.length := by simp [rangeL]
        refine ⟨fun i σ' H' O' ρ' => i ≤ G.length ∧ ∃ m, MR X.K B (off O1 H2) O0 a rs H' O' σ' ρ' m ∧ Sq G.length m ∧ ρ'[0]? = some (some (.tup gs, .fz)) ∧ 4 < ρ'.length ∧ m = (List.range i).foldl (fun m k => farK m k (G.getD k [])) (List.replicate G.length (List.replicate G.length false)),
          fun i σ' H' O' ρ' ⟨_, m, M', _⟩ => M'.sr, ⟨Nat.zero_le _, _, (M.more s2).reframe (Same.refl _), ⟨by rw [List.length_replicate], fun r hr => by rw [(List.mem_replicate.mp hr).2, List.length_replicate]⟩, rfl, (by decide : 4 < 6), rfl⟩, ?_, ?_⟩
        · rintro σ' H' O' ρ' ⟨_, m, M', sq', _, _, em⟩
          rw [hrl] at em
          have em : m = farM G := em
          subst em
          refine ⟨.ref a, M'.sl, h _ H' M'.sr.base ⟨a, rfl, M'.na, rs.map V.ref, M'.ha, ?_⟩⟩
          refine repL_of _ _ (by rw [List.length_map, List.length_map]; exact M'.len) fun i v d h1 h2 => ?_
          rw [List.getElem?_map] at h1 h2
          cases er : rs[i]? with
          | none => rw [er] at h1; cases h1
          | some r =>
            rw [er] at h1
            cases h1
            obtain ⟨row, e1, e2⟩ := M'.rows i r er
            rw [e1] at h2
            cases h2
            have hm := List.mem_of_getElem? er
            refine .lst (SqL.of (off_of ?_ e2)) (RepL.bools _)
            rintro (z | z)
            · exact M'.sr.dom0 r z (M'.own r hm).2
            · subst z; exact M'.ar hm
        · rintro i d σ' H' O' ρ' H4 ed ⟨hi, m, M', sq', g0, l4, em⟩ s4
          have hi' : i < G.length := by rw [← hrl]; exact (List.getElem?_eq_some_iff.mp ed).1
          have edd : d = .int i := by
            unfold rangeL at ed
            rw [List.getElem?_map, List.getElem?_range hi'] at ed
            have := Option.some.inj ed
            rw [← this]
            simp
          subst edd
          refine ⟨_, rfl, fun σ5 R5 w5 => ?_⟩
          have M5 := (M'.more s4).tgt R5 w5 (by decide) (by decide)
          have g4 : (ρ'.set 4 (some (FK.D.int i, Kd.fz)))[4]? = some (some (.int i, .fz)) := List.getElem?_set_self l4
          have g0' : (ρ'.set 4 (some (FK.D.int i, Kd.fz)))[0]? = some (some (.tup gs, .fz)) := by rw [List.getElem?_set_ne (by decide)]; exact g0
          have evJ : mItems (dBin ixD (dVar 0) (dVar 4)) (ρ'.set 4 (some (FK.D.int i, Kd.fz))) = .ok (G[i].map FK.D.int, .fz) := by
            show (((dVar 0 _).bind fun x => (dVar 4 _).bind fun y => ixD x y).bind itemsD) = _
            unfold dVar
            rw [g0', g4]
            show ((ixD (.tup gs, .fz) (.int i, .fz)).bind itemsD) = _
            unfold ixD atI
            dsimp only
            rw [ixN_nat (by rw [hlen]; exact hi')]
            dsimp only [Option.bind_some]
            rw [egs, List.getElem?_map, List.getElem?_eq_getElem hi']
            rfl
          have hrw := hrow _ (List.getElem_mem hi')
          refine j2 B _ O0 H4 O' σ5 _ _ _ .fz M5.sr evJ (by decide) fun H6 s6 => ?_
          refine ⟨fun i' σ' H' O'' ρ'' => i' ≤ G[i].length ∧ ∃ m', MR X.K B (off O' H6) O0 a rs H' O'' σ' ρ'' m' ∧ Sq G.length m' ∧ ρ''[0]? = some (some (.tup gs, .fz)) ∧ ρ''[4]? = some (some (.int i, .fz)) ∧ 2 < ρ''.length ∧ m' = farK m i (G[i].take i'),
            fun i' σ' H' O'' ρ'' ⟨_, m', M'', _⟩ => M''.sr, ⟨Nat.zero_le _, m, (M5.more s6).reframe (Same.refl _), sq', g0', g4, by rw [List.length_set]; omega, rfl⟩, ?_, ?_⟩
          · rintro σ7 H7 O7 ρ7 ⟨_, m', M7, sq7, f0, f4, l7, em7⟩
            rw [List.length_map, List.take_length] at em7
            refine ⟨O7, ρ7, hi', m', M7.weaken (M5.sr.frz.trans (off_mono s6)), sq7, f0, (List.getElem?_eq_some_iff.mp f4).1, ?_⟩
            rw [foldl_range_succ, ← em, em7, getD_lt [] hi']
          · rintro i' d σ7 H7 O7 ρ7 H8 ed7 ⟨hi7, m', M7, sq7, f0, f4, l7, em7⟩ s8
            rw [List.getElem?_map] at ed7
            cases ej : G[i][i']? with
            | none => rw [ej] at ed7; cases ed7
            | some j =>
              rw [ej] at ed7
              cases ed7
              have hj := hrw j (List.mem_of_getElem? ej)
              refine ⟨_, rfl, fun σ9 R9 w9 => ?_⟩
              have M9 := (M7.more s8).tgt R9 w9 (by decide) (by decide)
              have ejn : j = ((j.toNat : Nat) : Int) := by omega
              have x2 : (ρ7.set 2 (some (FK.D.int j, Kd.fz)))[2]? = some (some (.int j, .fz)) := List.getElem?_set_self l7
              have x4 : (ρ7.set 2 (some (FK.D.int j, Kd.fz)))[4]? = some (some (.int i, .fz)) := by rw [List.getElem?_set_ne (by decide)]; exact f4
              have y2 := M9.int x2
              have y4 := M9.int x4
              rw [ejn] at y2
              have hjn : j.toNat < G.length := by omega
              refine line_run M9 sq7 hjn hi' y2 y4 _ fun σA HA MA z2 z4 => ?_
              have sqA := sq7.map j.toNat i
              have hrs : j.toNat < rs.length := by rw [MA.len, sqA.1]; exact hjn
              refine ⟨.ref a, MA.sl, .int j.toNat, z2, a, rs.map V.ref, j.toNat, .ref rs[j.toNat], rfl, rfl, SqL.of MA.ha, ?_, ?_⟩
              · unfold atI
                rw [ixN_nat (by rw [List.length_map]; exact hrs)]
                show (rs.map V.ref)[j.toNat]? = _
                rw [List.getElem?_map, List.getElem?_eq_getElem hrs]
                rfl
              · have MB := MA.line (.ref rs[j.toNat])
                have lA : 5 < σA.length := by rw [MA.sr.len]; exact (List.getElem?_eq_some_iff.mp MA.n5).1
                refine put_run MB sqA hjn hi' (List.getElem?_eq_getElem hrs) (List.getElem?_set_self lA) (by rw [List.getElem?_set_ne (by decide)]; exact z4) _ fun HC MC => ?_
                refine ⟨O7, _, (List.getElem?_eq_some_iff.mp ej).1, _, MC, sqA.set hjn i, by rw [List.getElem?_set_ne (by decide)]; exact f0, x4, by rw [List.length_set]; exact l7, ?_⟩
                rw [farK_take ej, ← em7]
                rfl
      · exact h.elim
    · exact h.elim
  · exact h.elim
theorem mat_asg {tg iter elt : Expr} {pos : Pos} (i : Nat) {y : Str} {py : Pos} {spos : Pos} {ifs : List Expr} {scope : Scope} {own : List (Str × Nat)} {is : List Nat} {f : FK.D → Env → Option Env} {pt : Env → FK.R Bool} {pe : Env → FK.R DV} (hc : X.calm = true) (hN : X.N.Nodup) (hy : X.N[i]? = some y) (hyl : X.env.scope.names.lookup y = some .local)
    (hsw : swapsWith (.ListComp elt [⟨tg, iter, ifs, 0⟩] scope pos) (some (.Name y py)) spos.line X.env = pure true) (ok : BlkOk X.N X.env.scope scope own)
    (hg : ∀ (s : Shared) (H : Hp) (C : Addr) (cl : List (Str × Addr)) (fp : List Addr), DG (X.blk s H scope (compEnvC scope cl C X.env) fp) tg is f)
    (ht : ∀ (s : Shared) (H : Hp) (C : Addr) (cl : List (Str × Addr)) (fp : List Addr), DTs (X.blk s H scope (compEnvC scope cl C X.env) fp) FK.E0 ifs pt)
    (he : ∀ (s : Shared) (H : Hp) (C : Addr) (cl : List (Str × Addr)) (fp : List Addr), DE (X.blk s H scope (compEnvC scope cl C X.env) fp) FK.E0 elt pe) (hs : ∀ x, foldedSetIterable iter X.env x = pure x := by intro _; rfl) :
    MatS X tg iter (.Assign [.Name y py] (.ListComp elt [⟨tg, iter, ifs, 0⟩] scope pos) spos) is f pt pe (own.map (·.2)) i :=
  ⟨fun wi a1 => ps_setLc hc hN hy hyl hsw a1 ok (g := cG X.K is f) (tt := cTT X.K pt) (te := cT X.K pe) (fun s H C cl fp => (hg s H C cl fp).canon) (fun s H C cl fp => (ht s H C cl fp).ex) (fun s H C cl fp => (he s H C cl fp).canon) hs⟩
end
end FK
namespace FK
open PySem PySem.Spec L2
open PyProof.Rows hiding St
/-! PL: what the mirrors' words compute, in plain Lean. -/
@[simp] theorem ty_int_non  : isTy "int" (.non) = .ok (.bl false, .fz) := Eq.trans rfl rfl
@[simp] theorem ty_int_bl (b : Bool) : isTy "int" (.bl b) = .ok (.bl true, .fz) := Eq.trans rfl rfl
@[simp] theorem ty_int_int (i : Int) : isTy "int" (.int i) = .ok (.bl true, .fz) := Eq.trans rfl rfl
@[simp] theorem ty_int_str (s : Str) : isTy "int" (.str s) = .ok (.bl false, .fz) := Eq.trans rfl rfl
@[simp] theorem ty_int_lst (xs : List D) : isTy "int" (.lst xs) = .ok (.bl false, .fz) := Eq.trans rfl rfl
@[simp] theorem ty_int_tup (xs : List D) : isTy "int" (.tup xs) = .ok (.bl false, .fz) := Eq.trans rfl rfl
@[simp] theorem ty_int_dk (xs : List (Key × D)) : isTy "int" (.dk xs) = .ok (.bl false, .fz) := Eq.trans rfl rfl
@[simp] theorem ty_bool_non  : isTy "bool" (.non) = .ok (.bl false, .fz) := Eq.trans rfl rfl
@[simp] theorem ty_bool_bl (b : Bool) : isTy "bool" (.bl b) = .ok (.bl true, .fz) := Eq.trans rfl rfl
@[simp] theorem ty_bool_int (i : Int) : isTy "bool" (.int i) = .ok (.bl false, .fz) := Eq.trans rfl rfl
@[simp] theorem ty_bool_str (s : Str) : isTy "bool" (.str s) = .ok (.bl false, .fz) := Eq.trans rfl rfl
@[simp] theorem ty_bool_lst (xs : List D) : isTy "bool" (.lst xs) = .ok (.bl false, .fz) := Eq.trans rfl rfl
@[simp] theorem ty_bool_tup (xs : List D) : isTy "bool" (.tup xs) = .ok (.bl false, .fz) := Eq.trans rfl rfl
@[simp] theorem ty_bool_dk (xs : List (Key × D)) : isTy "bool" (.dk xs) = .ok (.bl false, .fz) := Eq.trans rfl rfl
@[simp] theorem ty_str_non  : isTy "str" (.non) = .ok (.bl false, .fz) := Eq.trans rfl rfl
@[simp] theorem ty_str_bl (b : Bool) : isTy "str" (.bl b) = .ok (.bl false, .fz) := Eq.trans rfl rfl
@[simp] theorem ty_str_int (i : Int) : isTy "str" (.int i) = .ok (.bl false, .fz) := Eq.trans rfl rfl
@[simp] theorem ty_str_str (s : Str) : isTy "str" (.str s) = .ok (.bl true, .fz) := Eq.trans rfl rfl
@[simp] theorem ty_str_lst (xs : List D) : isTy "str" (.lst xs) = .ok (.bl false, .fz) := Eq.trans rfl rfl
@[simp] theorem ty_str_tup (xs : List D) : isTy "str" (.tup xs) = .ok (.bl false, .fz) := Eq.trans rfl rfl
@[simp] theorem ty_str_dk (xs : List (Key × D)) : isTy "str" (.dk xs) = .ok (.bl false, .fz) := Eq.trans rfl rfl
@[simp] theorem ty_tuple_non  : isTy "tuple" (.non) = .ok (.bl false, .fz) := Eq.trans rfl rfl
@[simp] theorem ty_tuple_bl (b : Bool) : isTy "tuple" (.bl b) = .ok (.bl false, .fz) := Eq.trans rfl rfl
@[simp] theorem ty_tuple_int (i : Int) : isTy "tuple" (.int i) = .ok (.bl false, .fz) := Eq.trans rfl rfl
@[simp] theorem ty_tuple_str (s : Str) : isTy "tuple" (.str s) = .ok (.bl false, .fz) := Eq.trans rfl rfl
@[simp] theorem ty_tuple_lst (xs : List D) : isTy "tuple" (.lst xs) = .ok (.bl false, .fz) := Eq.trans rfl rfl
@[simp] theorem ty_tuple_tup (xs : List D) : isTy "tuple" (.tup xs) = .ok (.bl true, .fz) := Eq.trans rfl rfl
@[simp] theorem ty_tuple_dk (xs : List (Key × D)) : isTy "tuple" (.dk xs) = .ok (.bl false, .fz) := Eq.trans rfl rfl
@[simp] theorem ty_list_non  : isTy "list" (.non) = .ok (.bl false, .fz) := Eq.trans rfl rfl
@[simp] theorem ty_list_bl (b : Bool) : isTy "list" (.bl b) = .ok (.bl false, .fz) := Eq.trans rfl rfl
@[simp] theorem ty_list_int (i : Int) : isTy "list" (.int i) = .ok (.bl false, .fz) := Eq.trans rfl rfl
@[simp] theorem ty_list_str (s : Str) : isTy "list" (.str s) = .ok (.bl false, .fz) := Eq.trans rfl rfl
@[simp] theorem ty_list_lst (xs : List D) : isTy "list" (.lst xs) = .ok (.bl true, .fz) := Eq.trans rfl rfl
@[simp] theorem ty_list_tup (xs : List D) : isTy "list" (.tup xs) = .ok (.bl false, .fz) := Eq.trans rfl rfl
@[simp] theorem ty_list_dk (xs : List (Key × D)) : isTy "list" (.dk xs) = .ok (.bl false, .fz) := Eq.trans rfl rfl
@[simp] theorem ty_dict_non  : isTy "dict" (.non) = .ok (.bl false, .fz) := Eq.trans rfl rfl
@[simp] theorem ty_dict_bl (b : Bool) : isTy "dict" (.bl b) = .ok (.bl false, .fz) := Eq.trans rfl rfl
@[simp] theorem ty_dict_int (i : Int) : isTy "dict" (.int i) = .ok (.bl false, .fz) := Eq.trans rfl rfl
@[simp] theorem ty_dict_str (s : Str) : isTy "dict" (.str s) = .ok (.bl false, .fz) := Eq.trans rfl rfl
@[simp] theorem ty_dict_lst (xs : List D) : isTy "dict" (.lst xs) = .ok (.bl false, .fz) := Eq.trans rfl rfl
@[simp] theorem ty_dict_tup (xs : List D) : isTy "dict" (.tup xs) = .ok (.bl false, .fz) := Eq.trans rfl rfl
@[simp] theorem ty_dict_dk (xs : List (Key × D)) : isTy "dict" (.dk xs) = .ok (.bl true, .fz) := Eq.trans rfl rfl
/-! ### lists of iL -/
def iL (ns : List Int) : List D := ns.map D.int
theorem iL_eq (ns : List Int) : iL ns = ns.map D.int := rfl
@[simp] theorem iL_length (ns : List Int) : (iL ns).length = ns.length := List.length_map _
@[simp] theorem iL_take (ns : List Int) (n : Nat) : (iL ns).take n = iL (ns.take n) := (List.map_take).symm
@[simp] theorem iL_drop (ns : List Int) (n : Nat) : (iL ns).drop n = iL (ns.drop n) := (List.map_drop).symm
@[simp] theorem iL_append (ms ns : List Int) : iL ms ++ iL ns = iL (ms ++ ns) := (List.map_append).symm
@[simp] theorem iL_snoc (ms : List Int) (n : Int) : iL ms ++ [D.int n] = iL (ms ++ [n]) := iL_append ms [n]
@[simp] theorem iL_get (ns : List Int) (i : Nat) : (iL ns)[i]? = (ns[i]?).map D.int := List.getElem?_map ..
@[simp] theorem iL_nil : iL [] = [] := Eq.trans rfl rfl
theorem iL_one (n : Int) : [D.int n] = iL [n] := rfl
theorem iL_cons (n : Int) (ns : List Int) : D.int n :: iL ns = iL (n :: ns) := rfl
@[simp] theorem iL_isEmpty (ns : List Int) : (iL ns).isEmpty = ns.isEmpty := by cases ns <;> rfl
theorem iL_mem {ns : List Int} {d : D} (h : d ∈ iL ns) : ∃ n ∈ ns, d = .int n := by obtain ⟨n, hn, e⟩ := List.mem_map.mp h; exact ⟨n, hn, e.symm⟩
theorem iL_at {ns : List Int} {j : Nat} {d : D} (h : (iL ns)[j]? = some d) : ∃ n, ns[j]? = some n ∧ d = .int n := by
  rw [iL_get] at h
  cases q : ns[j]? with
  | none => rw [q] at h; cases h
  | some n => rw [q] at h; cases h; exact ⟨n, rfl, rfl⟩
@[simp] theorem py_int (i : Int) : (D.int i).py = .int i := Eq.trans rfl rfl
@[simp] theorem py_bl (b : Bool) : (D.bl b).py = .bool b := Eq.trans rfl rfl
@[simp] theorem py_str (s : Str) : (D.str s).py = .str s := Eq.trans rfl rfl
@[simp] theorem py_non : D.non.py = .none := Eq.trans rfl rfl
@[simp] theorem py_lst (xs : List D) : (D.lst xs).py = .list (xs.map D.py) := by simp only [D.py, D.pyL_map]
@[simp] theorem py_tup (xs : List D) : (D.tup xs).py = .tuple (xs.map D.py) := by simp only [D.py, D.pyL_map]
theorem plainAll_map {α : Type} (f : α → PyData) : ∀ xs : List α, (∀ x ∈ xs, (f x).plain = true) → PyData.plainAll (xs.map f) = true
  | [], _ => rfl
  | x :: r, h => by simp only [List.map_cons, PyData.plainAll, h x List.mem_cons_self, plainAll_map f r fun y hy => h y (List.mem_cons_of_mem _ hy), Bool.and_self]
theorem plainAll_ints (ns : List Int) : PyData.plainAll (D.pyL (iL ns)) = true := by
  rw [D.pyL_map, iL, List.map_map]
  exact plainAll_map _ _ fun _ _ => rfl
@[simp] theorem eqv_int (i j : Int) : PyData.eqv (.int i) (.int j) = (i == j) := by simp only [PyData.eqv]
@[simp] theorem plain_int (i : Int) : PyData.plain (.int i) = true := by simp only [PyData.plain]
@[simp] theorem depth_int (i : Int) : PyData.depth (.int i) = 0 := by simp only [PyData.depth]
@[simp] theorem plain_list (xs : List PyData) : PyData.plain (.list xs) = PyData.plainAll xs := by simp only [PyData.plain]
@[simp] theorem plain_tuple (xs : List PyData) : PyData.plain (.tuple xs) = PyData.plainAll xs := by simp only [PyData.plain]
@[simp] theorem depth_list (xs : List PyData) : PyData.depth (.list xs) = PyData.depthAll xs + 1 := by simp only [PyData.depth]
@[simp] theorem depth_tuple (xs : List PyData) : PyData.depth (.tuple xs) = PyData.depthAll xs + 1 := by simp only [PyData.depth]
@[simp] theorem plainAll_nil : PyData.plainAll [] = true := by simp only [PyData.plainAll]
@[simp] theorem depthAll_nil : PyData.depthAll [] = 0 := by simp only [PyData.depthAll]
@[simp] theorem plainAll_cons (x : PyData) (xs : List PyData) : PyData.plainAll (x :: xs) = (x.plain && PyData.plainAll xs) := by simp only [PyData.plainAll]
@[simp] theorem depthAll_cons (x : PyData) (xs : List PyData) : PyData.depthAll (x :: xs) = max x.depth (PyData.depthAll xs) := by simp only [PyData.depthAll]
@[simp] theorem pyL_eq (xs : List D) : D.pyL xs = xs.map D.py := D.pyL_map xs
@[simp] theorem plainAll_iL (ns : List Int) : PyData.plainAll ((iL ns).map D.py) = true := by rw [← pyL_eq]; exact plainAll_ints ns
theorem depthAll_le {α : Type} (f : α → PyData) (n : Nat) : ∀ xs : List α, (∀ x ∈ xs, (f x).depth ≤ n) → PyData.depthAll (xs.map f) ≤ n
  | [], _ => by simp
  | x :: r, h => by
    have h1 := h x List.mem_cons_self
    have h2 := depthAll_le f n r fun y hy => h y (List.mem_cons_of_mem _ hy)
    rw [List.map_cons, depthAll_cons]
    omega
theorem depthAll_iL (ns : List Int) : PyData.depthAll ((iL ns).map D.py) = 0 := by
  have : PyData.depthAll ((iL ns).map D.py) ≤ 0 := by
    rw [iL, List.map_map]
    exact depthAll_le _ 0 ns fun x _ => by simp
  omega
@[simp] theorem ltD_int (i j : Int) : ltD (.int i) (.int j) = .ok (decide (i < j)) := Eq.trans rfl rfl
@[simp] theorem eqD_int (i j : Int) : eqD (.int i) (.int j) = .ok (i == j) := by simp [eqD]
@[simp] theorem cOrd_lt (i j : Int) (k l : Kd) : cOrd oLt (.int i, k) (.int j, l) = .ok (.bl (decide (i < j)), .fz) := Eq.trans rfl rfl
@[simp] theorem cOrd_gt (i j : Int) (k l : Kd) : cOrd oGt (.int i, k) (.int j, l) = .ok (.bl (decide (i > j)), .fz) := Eq.trans rfl rfl
@[simp] theorem cOrd_le (i j : Int) (k l : Kd) : cOrd oLe (.int i, k) (.int j, l) = .ok (.bl (decide (i ≤ j)), .fz) := by
  have : (!decide (j < i)) = decide (i ≤ j) := by rw [← decide_not]; congr 1; exact propext ⟨fun h => by omega, fun h => by omega⟩
  show R.ok (D.bl (!decide (j < i)), Kd.fz) = _
  rw [this]
@[simp] theorem cOrd_ge (i j : Int) (k l : Kd) : cOrd oGe (.int i, k) (.int j, l) = .ok (.bl (decide (i ≥ j)), .fz) := by
  have : (!decide (i < j)) = decide (i ≥ j) := by rw [← decide_not]; congr 1; exact propext ⟨fun h => by omega, fun h => by omega⟩
  show R.ok (D.bl (!decide (i < j)), Kd.fz) = _
  rw [this]
@[simp] theorem cEq_int (g : Bool → Bool) (i j : Int) (k l : Kd) : cEq g (.int i, k) (.int j, l) = .ok (.bl (g (i == j)), .fz) := by simp [cEq]
@[simp] theorem bool_bl (b : Bool) : boolD (.bl b, .fz) = .ok b := Eq.trans rfl rfl
@[simp] theorem tru_bl (b : Bool) (k : Kd) : truD (.bl b, k) = .ok b := Eq.trans rfl rfl
@[simp] theorem tru_int (i : Int) (k : Kd) : truD (.int i, k) = .ok (i != 0) := Eq.trans rfl rfl
@[simp] theorem tru_lst (xs : List D) (k : Kd) : truD (.lst xs, k) = .ok !xs.isEmpty := Eq.trans rfl rfl
@[simp] theorem tru_tup (xs : List D) (k : Kd) : truD (.tup xs, k) = .ok !xs.isEmpty := Eq.trans rfl rfl
@[simp] theorem add_int (i j : Int) (k l : Kd) : opAdd (.int i, k) (.int j, l) = .ok (.int (i + j), .fz) := Eq.trans rfl rfl
@[simp] theorem sub_int (i j : Int) (k l : Kd) : opInt fSub (.int i, k) (.int j, l) = .ok (.int (i - j), .fz) := Eq.trans rfl rfl
theorem opInt_ok {f : Int → Int → R Int} {i j n : Int} {k l : Kd} (h : f i j = .ok n) : opInt f (.int i, k) (.int j, l) = .ok (.int n, .fz) := by simp [opInt, h]
theorem imod {i j : Int} (k l : Kd) (h : 0 < j) : opInt fMod (.int i, k) (.int j, l) = .ok (.int (i % j), .fz) := opInt_ok (by simp [fMod, h])
theorem idiv {i j : Int} (k l : Kd) (h : 0 < j) (h' : j < 1073741824) : opInt fDiv (.int i, k) (.int j, l) = .ok (.int (i / j), .fz) := opInt_ok (by simp [fDiv, h, h'])
@[simp] theorem gInt_int (i : Int) (k : Kd) : gInt (.int i, k) = .ok (.int i, .fz) := Eq.trans rfl rfl
@[simp] theorem gLen_lst (xs : List D) (k : Kd) : gLen (.lst xs, k) = .ok (.int xs.length, .fz) := Eq.trans rfl rfl
@[simp] theorem gLen_tup (xs : List D) (k : Kd) : gLen (.tup xs, k) = .ok (.int xs.length, .fz) := Eq.trans rfl rfl
@[simp] theorem gLen_dk (xs : List (Key × D)) (k : Kd) : gLen (.dk xs, k) = .ok (.int xs.length, .fz) := Eq.trans rfl rfl
@[simp] theorem gTuple_lst (xs : List D) (k : Kd) : gTuple (.lst xs, k) = .ok (.tup xs, .fz) := Eq.trans rfl rfl
@[simp] theorem gTuple_tup (xs : List D) : gTuple (.tup xs, .fz) = .ok (.tup xs, .fz) := Eq.trans rfl rfl
@[simp] theorem gList_lst (xs : List D) (k : Kd) : gList (.lst xs, k) = .ok (.lst xs, .ow) := Eq.trans rfl rfl
@[simp] theorem gList_tup (xs : List D) (k : Kd) : gList (.tup xs, k) = .ok (.lst xs, .ow) := Eq.trans rfl rfl
@[simp] theorem items_lst (xs : List D) (k : Kd) : itemsD (.lst xs, k) = .ok (xs, k) := Eq.trans rfl rfl
@[simp] theorem items_tup (xs : List D) (k : Kd) : itemsD (.tup xs, k) = .ok (xs, k) := Eq.trans rfl rfl
@[simp] theorem enum_lst (xs : List D) (k : Kd) : enumD (.lst xs, k) = .ok (enumL 0 xs, k) := Eq.trans rfl rfl
@[simp] theorem enum_tup (xs : List D) (k : Kd) : enumD (.tup xs, k) = .ok (enumL 0 xs, k) := Eq.trans rfl rfl
@[simp] theorem one_eq (g : DV → R DV) (x : DV) : one g [x] = g x := Eq.trans rfl rfl
@[simp] theorem two_eq (g : DV → DV → R DV) (x y : DV) : two g [x, y] = g x y := Eq.trans rfl rfl
@[simp] theorem gI1_eq (f : Int → Int) (i : Int) (k : Kd) : gI1 f (.int i, k) = .ok (.int (f i), .fz) := Eq.trans rfl rfl
@[simp] theorem gI2_eq (f : Int → Int → Int) (i j : Int) (k l : Kd) : gI2 f (.int i, k) (.int j, l) = .ok (.int (f i j), .fz) := Eq.trans rfl rfl
@[simp] theorem slot_fz (d : D) : slotK (d, .fz) = some (d, .fz) := Eq.trans rfl rfl
@[simp] theorem slot_ow (d : D) : slotK (d, .ow) = some (d, .ow) := Eq.trans rfl rfl
@[simp] theorem slot_bo (d : D) : slotK (d, .bo) = some (d, .bo) := Eq.trans rfl rfl
@[simp] theorem setS_fz (i : Nat) (ρ : Env) (d : D) : setS i ρ (d, .fz) = .nx (ρ.set i (some (d, .fz))) := Eq.trans rfl rfl
@[simp] theorem setS_ow (i : Nat) (ρ : Env) (d : D) : setS i ρ (d, .ow) = .nx (ρ.set i (some (d, .ow))) := Eq.trans rfl rfl
@[simp] theorem setS_bo (i : Nat) (ρ : Env) (d : D) : setS i ρ (d, .bo) = .nx (ρ.set i (some (d, .bo))) := Eq.trans rfl rfl
@[simp] theorem retD_fz (d : D) : retD (d, .fz) = .rt (d, .fz) := Eq.trans rfl rfl
@[simp] theorem retD_ow (d : D) : retD (d, .ow) = .rt (d, .ow) := Eq.trans rfl rfl
@[simp] theorem keep1_fz (d : D) : keep1 (d, .fz) = some d := Eq.trans rfl rfl
@[simp] theorem keep1_ow (d : D) : keep1 (d, .ow) = some d := Eq.trans rfl rfl
@[simp] theorem argD_fz (d : D) : argD (d, .fz) = (d, .fz) := Eq.trans rfl rfl
@[simp] theorem argD_ow (d : D) : argD (d, .ow) = (d, .fz) := Eq.trans rfl rfl
@[simp] theorem argD_bo (d : D) : argD (d, .bo) = (d, .bo) := Eq.trans rfl rfl
@[simp] theorem argD_al (d : D) : argD (d, .al) = (d, .bo) := Eq.trans rfl rfl
@[simp] theorem keepL_nil : keepL [] = some [] := Eq.trans rfl rfl
@[simp] theorem keepL_fz (d : D) (r : List DV) : keepL ((d, .fz) :: r) = (keepL r).map (d :: ·) := Eq.trans rfl rfl
@[simp] theorem keepL_ow (d : D) (r : List DV) : keepL ((d, .ow) :: r) = (keepL r).map (d :: ·) := Eq.trans rfl rfl
@[simp] theorem intD_int (i : Int) (k : Kd) : intD (.int i, k) = .ok (some i) := Eq.trans rfl rfl
@[simp] theorem mkLst_0 : mkLst [] = .ok (.lst [], .ow) := by simp [mkLst]
@[simp] theorem mkLst_1 (a : D) : mkLst [(a, .fz)] = .ok (.lst [a], .ow) := by simp [mkLst, show 1 ≤ sizeLine by decide]
@[simp] theorem mkLst_2 (a b : D) : mkLst [(a, .fz), (b, .fz)] = .ok (.lst [a, b], .ow) := by simp [mkLst, show 2 ≤ sizeLine by decide]
@[simp] theorem mkLst_3 (a b c : D) : mkLst [(a, .fz), (b, .fz), (c, .fz)] = .ok (.lst [a, b, c], .ow) := by simp [mkLst, show 3 ≤ sizeLine by decide]
@[simp] theorem mkLst_4 (a b c d : D) : mkLst [(a, .fz), (b, .fz), (c, .fz), (d, .fz)] = .ok (.lst [a, b, c, d], .ow) := by simp [mkLst, show 4 ≤ sizeLine by decide]
@[simp] theorem mkTup_0 : mkTup [] = .ok (.tup [], .fz) := by simp [mkTup]
@[simp] theorem mkTup_1 (a : D) : mkTup [(a, .fz)] = .ok (.tup [a], .fz) := by simp [mkTup, show 1 ≤ sizeLine by decide]
@[simp] theorem mkTup_2 (a b : D) : mkTup [(a, .fz), (b, .fz)] = .ok (.tup [a, b], .fz) := by simp [mkTup, show 2 ≤ sizeLine by decide]
@[simp] theorem mkTup_3 (a b c : D) : mkTup [(a, .fz), (b, .fz), (c, .fz)] = .ok (.tup [a, b, c], .fz) := by simp [mkTup, show 3 ≤ sizeLine by decide]
@[simp] theorem mkTup_4 (a b c d : D) : mkTup [(a, .fz), (b, .fz), (c, .fz), (d, .fz)] = .ok (.tup [a, b, c, d], .fz) := by simp [mkTup, show 4 ≤ sizeLine by decide]
@[simp] theorem iL_2 (a b : Int) : [D.int a, D.int b] = iL [a, b] := Eq.trans rfl rfl
@[simp] theorem iL_1 (a : Int) : [D.int a] = iL [a] := Eq.trans rfl rfl
@[simp] theorem iL_3 (a b c : Int) : [D.int a, D.int b, D.int c] = iL [a, b, c] := Eq.trans rfl rfl
theorem sizeLine_val : sizeLine = 16777216 := by decide
/-! ### slots -/
@[simp] theorem dVar_z_fz (d : D) (r : Env) : dVar 0 (some (d, .fz) :: r) = .ok (d, .fz) := Eq.trans rfl rfl
@[simp] theorem dVar_z_bo (d : D) (r : Env) : dVar 0 (some (d, .bo) :: r) = .ok (d, .bo) := Eq.trans rfl rfl
@[simp] theorem dVar_z_ow (d : D) (r : Env) : dVar 0 (some (d, .ow) :: r) = .ok (d, .al) := Eq.trans rfl rfl
@[simp] theorem dVar_s (n : Nat) (x : Option DV) (r : Env) : dVar (n + 1) (x :: r) = dVar n r := by simp [dVar]
/-- a parameter that may be borrowed -/
abbrev InK (k : Kd) : Prop := k = .fz ∨ k = .bo
theorem dVar_in {k : Kd} (hk : InK k) (d : D) (r : Env) : dVar 0 (some (d, k) :: r) = .ok (d, k) := by rcases hk with rfl | rfl <;> rfl
theorem dVar_fz {i : Nat} {ρ : Env} {d : D} (h : ρ[i]? = some (some (d, .fz))) : dVar i ρ = .ok (d, .fz) := by simp [dVar, h]
theorem dVar_bo {i : Nat} {ρ : Env} {d : D} (h : ρ[i]? = some (some (d, .bo))) : dVar i ρ = .ok (d, .bo) := by simp [dVar, h]
theorem dVar_ow {i : Nat} {ρ : Env} {d : D} (h : ρ[i]? = some (some (d, .ow))) : dVar i ρ = .ok (d, .al) := by simp [dVar, h]


/-! ### what a run leads to -/
/-- what stands behind is left alone by simp: the tag's type hangs on it -/
class Tag {α : Sort _} (P : α) : Type where
instance instTag {α : Sort _} (P : α) : Tag P := {}
def R.w {α : Type} (r : R α) (P : α → Prop) [Tag P] : Prop := ∃ x, r = .ok x ∧ P x
@[simp] theorem R.w_ok {α : Type} (x : α) (P : α → Prop) : (R.ok x).w P = P x := propext ⟨fun ⟨y, e, h⟩ => by cases e; exact h, fun h => ⟨x, rfl, h⟩⟩
theorem R.w_exF {α : Type} (e : Exn) (P : α → Prop) : (R.ex e : R α).w P = False := propext ⟨(fun ⟨y, e, h⟩ => by cases e), False.elim⟩
theorem R.w_noF {α : Type} (P : α → Prop) : (R.no : R α).w P = False := propext ⟨(fun ⟨y, e, h⟩ => by cases e), False.elim⟩
@[simp] theorem R.w_bind {α β : Type} (r : R α) (f : α → R β) (P : β → Prop) : (r.bind f).w P = r.w fun x => (f x).w P := by
  cases r with
  | ok x => rw [R.w_ok, R.bind_ok]
  | ex e => rw [R.bind_ex, R.w_exF, R.w_exF]
  | no => rw [R.bind_no, R.w_noF, R.w_noF]
@[simp] theorem pow18 (k l : Kd) : opInt fPow (.int 10, k) (.int 18, l) = .ok (.int 1000000000000000000, .fz) := Eq.trans rfl rfl
theorem R.w_cg {α : Type} {r : R α} {P Q : α → Prop} (h : ∀ x, P x = Q x) : r.w P = r.w Q := by
  have : P = Q := funext h
  subst this
  rfl
theorem R.w_get {α : Type} {r : R α} {P : α → Prop} (h : r.w P) : ∃ x, r = .ok x ∧ P x := h
theorem R.w_of {α : Type} {r : R α} {x : α} {P : α → Prop} (h : r = .ok x) (p : P x) : r.w P := ⟨x, h, p⟩
theorem R.w_eq {α : Type} {r : R α} {x : α} (h : r.w fun y => y = x) : r = .ok x := by
  obtain ⟨y, e, q⟩ := h
  rw [e, q]
theorem R.w_mono {α : Type} {r : R α} {P Q : α → Prop} (h : r.w P) (i : ∀ x, P x → Q x) : r.w Q := by
  obtain ⟨x, rfl, p⟩ := R.w_get h
  exact ⟨x, rfl, i x p⟩
def SO.w (r : SO) (N C B : Env → Prop) (T : DV → Prop) [Tag N] [Tag C] [Tag B] [Tag T] : Prop := (∃ ρ, r = .nx ρ ∧ N ρ) ∨ (∃ ρ, r = .ct ρ ∧ C ρ) ∨ (∃ ρ, r = .bk ρ ∧ B ρ) ∨ ∃ x, r = .rt x ∧ T x
section
variable (N C B : Env → Prop) (T : DV → Prop)
@[simp] theorem SO.w_nx (ρ : Env) : (SO.nx ρ).w N C B T = N ρ := by simp [SO.w]
@[simp] theorem SO.w_ct (ρ : Env) : (SO.ct ρ).w N C B T = C ρ := by simp [SO.w]
@[simp] theorem SO.w_bk (ρ : Env) : (SO.bk ρ).w N C B T = B ρ := by simp [SO.w]
@[simp] theorem SO.w_rt (x : DV) : (SO.rt x).w N C B T = T x := by simp [SO.w]
theorem SO.w_exF (e : Exn) : (SO.ex e).w N C B T = False := by simp [SO.w]
theorem SO.w_noF : SO.no.w N C B T = False := by simp [SO.w]
@[simp] theorem SO.w_seq (r : SO) (m : Env → SO) : (r.seq m).w N C B T = r.w (fun ρ => (m ρ).w N C B T) C B T := by
  cases r with
  | nx ρ => rw [SO.seq_nx, SO.w_nx]
  | ct ρ => rw [SO.seq_ct, SO.w_ct, SO.w_ct]
  | bk ρ => rw [SO.seq_bk, SO.w_bk, SO.w_bk]
  | rt x => rw [SO.seq_rt, SO.w_rt, SO.w_rt]
  | ex e => rw [SO.seq_ex, SO.w_exF, SO.w_exF]
  | no => rw [SO.seq_no, SO.w_noF, SO.w_noF]
@[simp] theorem SO.w_st {α : Type} (r : R α) (f : α → SO) : (r.st f).w N C B T = r.w fun x => (f x).w N C B T := by
  cases r with
  | ok x => rw [R.w_ok, R.st_ok]
  | ex e => rw [R.st_ex, R.w_exF, SO.w_exF]
  | no => rw [R.st_no, R.w_noF, SO.w_noF]
@[simp] theorem SO.w_ite (c : Prop) [Decidable c] (a b : SO) : (if c then a else b).w N C B T = if c then a.w N C B T else b.w N C B T := by split <;> rfl
@[simp] theorem R.w_ite {α : Type} (c : Prop) [Decidable c] (a b : R α) (P : α → Prop) : (if c then a else b).w P = if c then a.w P else b.w P := by split <;> rfl
end
theorem SO.w_mono {r : SO} {N C B N' C' B' : Env → Prop} {T T' : DV → Prop} (h : r.w N C B T) (n : ∀ ρ, N ρ → N' ρ) (c : ∀ ρ, C ρ → C' ρ) (b : ∀ ρ, B ρ → B' ρ) (t : ∀ x, T x → T' x) : r.w N' C' B' T' := by
  rcases h with ⟨ρ, rfl, h⟩ | ⟨ρ, rfl, h⟩ | ⟨ρ, rfl, h⟩ | ⟨x, rfl, h⟩
  · rw [SO.w_nx]; exact n ρ h
  · rw [SO.w_ct]; exact c ρ h
  · rw [SO.w_bk]; exact b ρ h
  · rw [SO.w_rt]; exact t x h
theorem runD_w {n : Nat} {m : Env → SO} {as : List DV} {P : DV → Prop} (h : (m (as.map some ++ List.replicate (n - as.length) none)).w (fun _ => P (.non, .fz)) (fun _ => False) (fun _ => False) P) : (runD n m as).w P := by
  unfold runD
  rcases h with ⟨ρ, e, h⟩ | ⟨ρ, e, h⟩ | ⟨ρ, e, h⟩ | ⟨x, e, h⟩
  · rw [e]; exact ⟨_, rfl, h⟩
  · exact h.elim
  · exact h.elim
  · rw [e]; exact ⟨_, rfl, h⟩
/-! ### the words at an environment -/
section
variable (ρ : Env) (p q r : Env → R DV) (pt qt : Env → R Bool) (f g : DV → DV → R DV) (pl : Env → R (List DV)) (a b : Env → SO) (h : List DV → R DV) (n i : Nat) (lo hi : Env → R (Option Int)) (it : Env → R (List D × Kd)) (gt : D → Env → Option Env)
variable (P : DV → Prop) (PB : Bool → Prop) (PL : List DV → Prop) (PO : Option Int → Prop) (PI : List D × Kd → Prop) (N C B : Env → Prop) (T : DV → Prop)
theorem R.w_if {α : Type} (c : Bool) (x y : R α) (P : α → Prop) : (if c then x else y).w P = if c = true then x.w P else y.w P := by cases c <;> rfl
@[simp] theorem e_dBin : (dBin f p q ρ).w P = (p ρ).w fun x => (q ρ).w fun y => (f x y).w P := by
  unfold dBin
  rw [R.w_bind]
  repeat (refine R.w_cg fun _ => ?_; try simp only [R.w_bind, R.w_ite, R.w_ok, R.w_noF, SO.w_st, SO.w_ite, SO.w_nx, SO.w_noF])
@[simp] theorem e_dCmp : (dCmp f p q ρ).w PB = (p ρ).w fun x => (q ρ).w fun y => (f x y).w fun z => (boolD z).w PB := by
  unfold dCmp
  rw [R.w_bind]
  repeat (refine R.w_cg fun _ => ?_; try simp only [R.w_bind, R.w_ite, R.w_ok, R.w_noF, SO.w_st, SO.w_ite, SO.w_nx, SO.w_noF])
@[simp] theorem e_dChn : (dChn f g p q r ρ).w P = (p ρ).w fun x => (q ρ).w fun y => (f x y).w fun z => (boolD z).w fun c => if c = true then (r ρ).w fun w => (g y w).w P else P (.bl false, .fz) := by
  unfold dChn
  rw [R.w_bind]
  repeat (refine R.w_cg fun _ => ?_; try simp only [R.w_bind, R.w_ite, R.w_ok, R.w_noF, SO.w_st, SO.w_ite, SO.w_nx, SO.w_noF])
@[simp] theorem e_dAnd : (dAnd p q ρ).w P = (p ρ).w fun x => (truD x).w fun c => if c = true then (q ρ).w P else P x := by
  unfold dAnd
  rw [R.w_bind]
  repeat (refine R.w_cg fun _ => ?_; try simp only [R.w_bind, R.w_ite, R.w_ok, R.w_noF, SO.w_st, SO.w_ite, SO.w_nx, SO.w_noF])
@[simp] theorem e_dOr : (dOr p q ρ).w P = (p ρ).w fun x => (truD x).w fun c => if c = true then P x else (q ρ).w P := by
  unfold dOr
  rw [R.w_bind]
  repeat (refine R.w_cg fun _ => ?_; try simp only [R.w_bind, R.w_ite, R.w_ok, R.w_noF, SO.w_st, SO.w_ite, SO.w_nx, SO.w_noF])
@[simp] theorem e_dNot : (dNot p ρ).w P = (p ρ).w fun x => (truD x).w fun c => P (.bl !c, .fz) := by
  unfold dNot
  rw [R.w_bind]
  repeat (refine R.w_cg fun _ => ?_; try simp only [R.w_bind, R.w_ite, R.w_ok, R.w_noF, SO.w_st, SO.w_ite, SO.w_nx, SO.w_noF])
@[simp] theorem e_dIf : (dIf pt p q ρ).w P = (pt ρ).w fun c => if c = true then (p ρ).w P else (q ρ).w P := by
  unfold dIf
  rw [R.w_bind]
  repeat (refine R.w_cg fun _ => ?_; try simp only [R.w_bind, R.w_ite, R.w_ok, R.w_noF, SO.w_st, SO.w_ite, SO.w_nx, SO.w_noF])
@[simp] theorem e_dTru : (dTru p ρ).w PB = (p ρ).w fun x => (truD x).w PB := by
  unfold dTru
  rw [R.w_bind]
  repeat (refine R.w_cg fun _ => ?_; try simp only [R.w_bind, R.w_ite, R.w_ok, R.w_noF, SO.w_st, SO.w_ite, SO.w_nx, SO.w_noF])
@[simp] theorem e_tAnd : (tAndD pt qt ρ).w PB = (pt ρ).w fun c => if c = true then (qt ρ).w PB else PB false := by
  unfold tAndD
  rw [R.w_bind]
  repeat (refine R.w_cg fun _ => ?_; try simp only [R.w_bind, R.w_ite, R.w_ok, R.w_noF, SO.w_st, SO.w_ite, SO.w_nx, SO.w_noF])
@[simp] theorem e_tOr : (tOrD pt qt ρ).w PB = (pt ρ).w fun c => if c = true then PB true else (qt ρ).w PB := by
  unfold tOrD
  rw [R.w_bind]
  repeat (refine R.w_cg fun _ => ?_; try simp only [R.w_bind, R.w_ite, R.w_ok, R.w_noF, SO.w_st, SO.w_ite, SO.w_nx, SO.w_noF])
@[simp] theorem e_tNot : (tNotD pt ρ).w PB = (pt ρ).w fun c => PB !c := by
  unfold tNotD
  rw [R.w_bind]
  repeat (refine R.w_cg fun _ => ?_; try simp only [R.w_bind, R.w_ite, R.w_ok, R.w_noF, SO.w_st, SO.w_ite, SO.w_nx, SO.w_noF])
@[simp] theorem e_dCB : (dCB h pl ρ).w P = (pl ρ).w fun xs => (h xs).w P := by
  unfold dCB
  rw [R.w_bind]
  repeat (refine R.w_cg fun _ => ?_; try simp only [R.w_bind, R.w_ite, R.w_ok, R.w_noF, SO.w_st, SO.w_ite, SO.w_nx, SO.w_noF])
@[simp] theorem e_dCall : (dCall n h pl ρ).w P = (pl ρ).w fun xs => if xs.length = n then (h (xs.map argD)).w P else False := by
  unfold dCall
  rw [R.w_bind]
  repeat (refine R.w_cg fun _ => ?_; try simp only [R.w_bind, R.w_ite, R.w_ok, R.w_noF, SO.w_st, SO.w_ite, SO.w_nx, SO.w_noF])
@[simp] theorem e_kNon : kNon ρ = .ok (.non, .fz) := Eq.trans rfl rfl
@[simp] theorem e_kBl (c : Bool) : kBl c ρ = .ok (.bl c, .fz) := Eq.trans rfl rfl
@[simp] theorem e_kInt (c : Int) : kInt c ρ = .ok (.int c, .fz) := Eq.trans rfl rfl
@[simp] theorem e_kStr (c : Str) : kStr c ρ = .ok (.str c, .fz) := Eq.trans rfl rfl
@[simp] theorem e_kDk : kDk ρ = .ok (.dk [], .ow) := Eq.trans rfl rfl
@[simp] theorem e_kDt : kDt ρ = .ok (.dt [], .ow) := Eq.trans rfl rfl
@[simp] theorem e_kTrue : kTrue ρ = .ok true := Eq.trans rfl rfl
@[simp] theorem e_aNil : aNil ρ = .ok [] := Eq.trans rfl rfl
@[simp] theorem e_aCons : (aCons p pl ρ).w PL = (p ρ).w fun x => (pl ρ).w fun xs => PL (x :: xs) := by
  unfold aCons
  rw [R.w_bind]
  repeat (refine R.w_cg fun _ => ?_; try simp only [R.w_bind, R.w_ite, R.w_ok, R.w_noF, SO.w_st, SO.w_ite, SO.w_nx, SO.w_noF])
@[simp] theorem e_oNone : oNone ρ = .ok none := Eq.trans rfl rfl
@[simp] theorem e_oSome : (oSome p ρ).w PO = (p ρ).w fun x => (intD x).w PO := by
  unfold oSome
  rw [R.w_bind]
  repeat (refine R.w_cg fun _ => ?_; try simp only [R.w_bind, R.w_ite, R.w_ok, R.w_noF, SO.w_st, SO.w_ite, SO.w_nx, SO.w_noF])
@[simp] theorem e_mTup : (mTup pl ρ).w P = (pl ρ).w fun xs => (mkTup xs).w P := by
  unfold mTup
  rw [R.w_bind]
  repeat (refine R.w_cg fun _ => ?_; try simp only [R.w_bind, R.w_ite, R.w_ok, R.w_noF, SO.w_st, SO.w_ite, SO.w_nx, SO.w_noF])
@[simp] theorem e_mLst : (mLst pl ρ).w P = (pl ρ).w fun xs => (mkLst xs).w P := by
  unfold mLst
  rw [R.w_bind]
  repeat (refine R.w_cg fun _ => ?_; try simp only [R.w_bind, R.w_ite, R.w_ok, R.w_noF, SO.w_st, SO.w_ite, SO.w_nx, SO.w_noF])
@[simp] theorem e_mSlice : (mSlice p lo hi ρ).w P = (p ρ).w fun x => (lo ρ).w fun l => (hi ρ).w fun u => (slD x l u).w P := by
  unfold mSlice
  rw [R.w_bind]
  repeat (refine R.w_cg fun _ => ?_; try simp only [R.w_bind, R.w_ite, R.w_ok, R.w_noF, SO.w_st, SO.w_ite, SO.w_nx, SO.w_noF])
@[simp] theorem e_mLrg1 : (mLrg1 p ρ).w P = (p ρ).w fun x => (lrg1 x).w P := by
  unfold mLrg1
  rw [R.w_bind]
  repeat (refine R.w_cg fun _ => ?_; try simp only [R.w_bind, R.w_ite, R.w_ok, R.w_noF, SO.w_st, SO.w_ite, SO.w_nx, SO.w_noF])
@[simp] theorem e_mIs (t : String) : (mIs p t ρ).w P = (p ρ).w fun d => (isTy t d.1).w P := by
  unfold mIs
  rw [R.w_bind]
  repeat (refine R.w_cg fun _ => ?_; try simp only [R.w_bind, R.w_ite, R.w_ok, R.w_noF, SO.w_st, SO.w_ite, SO.w_nx, SO.w_noF])
@[simp] theorem e_mNeg : (mNeg p ρ).w P = (p ρ).w fun x => (negD x).w P := by
  unfold mNeg
  rw [R.w_bind]
  repeat (refine R.w_cg fun _ => ?_; try simp only [R.w_bind, R.w_ite, R.w_ok, R.w_noF, SO.w_st, SO.w_ite, SO.w_nx, SO.w_noF])
@[simp] theorem e_mItems : (mItems p ρ).w PI = (p ρ).w fun x => (itemsD x).w PI := by
  unfold mItems
  rw [R.w_bind]
  repeat (refine R.w_cg fun _ => ?_; try simp only [R.w_bind, R.w_ite, R.w_ok, R.w_noF, SO.w_st, SO.w_ite, SO.w_nx, SO.w_noF])
@[simp] theorem e_mRg1 : (mRg1 p ρ).w PI = (p ρ).w fun x => (rg1 x).w PI := by
  unfold mRg1
  rw [R.w_bind]
  repeat (refine R.w_cg fun _ => ?_; try simp only [R.w_bind, R.w_ite, R.w_ok, R.w_noF, SO.w_st, SO.w_ite, SO.w_nx, SO.w_noF])
@[simp] theorem e_mRg2 : (mRg2 p q ρ).w PI = (p ρ).w fun x => (q ρ).w fun y => (rg2 x y).w PI := by
  unfold mRg2
  rw [R.w_bind]
  repeat (refine R.w_cg fun _ => ?_; try simp only [R.w_bind, R.w_ite, R.w_ok, R.w_noF, SO.w_st, SO.w_ite, SO.w_nx, SO.w_noF])
@[simp] theorem e_mEnum : (mEnum p ρ).w PI = (p ρ).w fun x => (enumD x).w PI := by
  unfold mEnum
  rw [R.w_bind]
  repeat (refine R.w_cg fun _ => ?_; try simp only [R.w_bind, R.w_ite, R.w_ok, R.w_noF, SO.w_st, SO.w_ite, SO.w_nx, SO.w_noF])
@[simp] theorem e_gName (d : D) : FK.gName i d ρ = some (ρ.set i (some (d, .fz))) := Eq.trans rfl rfl
@[simp] theorem e_gTup (k : List D → Env → Option Env) (ds : List D) : FK.gTup n k (.tup ds) ρ = if ds.length = n then k ds ρ else none := Eq.trans rfl rfl
@[simp] theorem e_gsNil : gsNil [] ρ = some ρ := Eq.trans rfl rfl
@[simp] theorem e_gsCons (k : List D → Env → Option Env) (d : D) (ds : List D) : gsCons gt k (d :: ds) ρ = (gt d ρ).bind (k ds) := Eq.trans rfl rfl
@[simp] theorem e_mPass : mPass ρ = .nx ρ := Eq.trans rfl rfl
@[simp] theorem e_mBreak : mBreak ρ = .bk ρ := Eq.trans rfl rfl
@[simp] theorem e_mCont : mCont ρ = .ct ρ := Eq.trans rfl rfl
@[simp] theorem e_mRetN : mRetN ρ = .rt (.non, .fz) := Eq.trans rfl rfl
@[simp] theorem e_mNever : (mNever ρ).w N C B T = False := SO.w_noF N C B T
@[simp] theorem e_mRet : (mRet p ρ).w N C B T = (p ρ).w fun x => (retD x).w N C B T := by
  unfold mRet
  rw [SO.w_st]
  repeat (refine R.w_cg fun _ => ?_; try simp only [R.w_bind, R.w_ite, R.w_ok, R.w_noF, SO.w_st, SO.w_ite, SO.w_nx, SO.w_noF])
@[simp] theorem e_mExpr : (mExpr p ρ).w N C B T = (p ρ).w fun _ => N ρ := by
  unfold mExpr
  rw [SO.w_st]
  repeat (refine R.w_cg fun _ => ?_; try simp only [R.w_bind, R.w_ite, R.w_ok, R.w_noF, SO.w_st, SO.w_ite, SO.w_nx, SO.w_noF])
@[simp] theorem e_mIf : (mIf pt a b ρ).w N C B T = (pt ρ).w fun c => if c = true then (a ρ).w N C B T else (b ρ).w N C B T := by
  unfold mIf
  rw [SO.w_st]
  repeat (refine R.w_cg fun _ => ?_; try simp only [R.w_bind, R.w_ite, R.w_ok, R.w_noF, SO.w_st, SO.w_ite, SO.w_nx, SO.w_noF])
@[simp] theorem e_mSeq : (mSeq a b ρ).w N C B T = (a ρ).w (fun ρ => (b ρ).w N C B T) C B T := by simp only [mSeq, SO.w_seq]
@[simp] theorem e_mFrz : mFrz i a ρ = a (frzS i ρ) := Eq.trans rfl rfl
@[simp] theorem e_sSet : (sSet i p ρ).w N C B T = (p ρ).w fun x => (setS i ρ x).w N C B T := by
  unfold sSet
  rw [SO.w_st]
  repeat (refine R.w_cg fun _ => ?_; try simp only [R.w_bind, R.w_ite, R.w_ok, R.w_noF, SO.w_st, SO.w_ite, SO.w_nx, SO.w_noF])
@[simp] theorem e_sFor : (sFor it gt a ρ).w N C B T = (it ρ).w fun x => if x.2 = .al then False else (forM gt a x.1 ρ).w N C B T := by
  unfold sFor
  rw [SO.w_st]
  repeat (refine R.w_cg fun _ => ?_; try simp only [R.w_bind, R.w_ite, R.w_ok, R.w_noF, SO.w_st, SO.w_ite, SO.w_nx, SO.w_noF])
@[simp] theorem e_mLc (vs : List Nat) : (mLc it gt pt p vs ρ).w P = (it ρ).w fun x => if x.1.length ≤ sizeLine then (lcM gt pt p x.1 (wipeD ρ vs)).w fun r => P (.lst r, .ow) else False := by
  unfold mLc
  rw [R.w_bind]
  refine R.w_cg fun x => ?_
  rw [R.w_ite, R.w_noF, R.w_bind]
  by_cases z : x.1.length ≤ sizeLine
  · rw [if_pos z, if_pos z]
    exact R.w_cg fun r => R.w_ok _ _
  · rw [if_neg z, if_neg z]
/-- the own object in a slot -/
def ownAt (i : Nat) (ρ : Env) : R D := match ρ[i]? with | some (some (d, .ow)) => .ok d | _ => .no
@[simp] theorem ownAt_z (d : D) (r : Env) : ownAt 0 (some (d, .ow) :: r) = .ok d := Eq.trans rfl rfl
@[simp] theorem ownAt_s (n : Nat) (x : Option DV) (r : Env) : ownAt (n + 1) (x :: r) = ownAt n r := by simp [ownAt]
theorem m_put : sPut i p q ρ = (p ρ).st fun v => (ownAt i ρ).st fun d => (q ρ).st fun k => putS i ρ d v k := by
  have z : ∀ v, (match ρ[i]? with | some (some (d, .ow)) => (q ρ).st fun k => putS i ρ d v k | _ => .no) = (ownAt i ρ).st fun d => (q ρ).st fun k => putS i ρ d v k := by
    intro v
    unfold ownAt
    rcases z : ρ[i]? with _ | _ | ⟨d, k⟩
    · rfl
    · rfl
    · cases k <;> rfl
  unfold sPut
  congr 1
  funext v
  exact z v
@[simp] theorem e_sPut : (sPut i p q ρ).w N C B T = (p ρ).w fun v => (ownAt i ρ).w fun d => (q ρ).w fun k => (putS i ρ d v k).w N C B T := by
  rw [m_put, SO.w_st]
  repeat (refine R.w_cg fun _ => ?_; try simp only [SO.w_st])
@[simp] theorem wipe_nil : wipeD ρ [] = ρ := Eq.trans rfl rfl
@[simp] theorem wipe_cons (vs : List Nat) : wipeD ρ (n :: vs) = (wipeD ρ vs).set n none := Eq.trans rfl rfl
theorem runD_ok (m : Env → SO) (as : List DV) (x : DV) (e : m (as.map some ++ List.replicate (n - as.length) none) = .rt x) : runD n m as = .ok x := by unfold runD; rw [e]
theorem runD_nx (m : Env → SO) (as : List DV) (ρ' : Env) (e : m (as.map some ++ List.replicate (n - as.length) none) = .nx ρ') : runD n m as = .ok (.non, .fz) := by unfold runD; rw [e]
end
/-! ### methods of own lists -/
def lstAt (i : Nat) (ρ : Env) : R (List D) := match ρ[i]? with | some (some (.lst xs, .ow)) => .ok xs | _ => .no
@[simp] theorem lstAt_z (xs : List D) (r : Env) : lstAt 0 (some (.lst xs, .ow) :: r) = .ok xs := Eq.trans rfl rfl
@[simp] theorem lstAt_s (n : Nat) (x : Option DV) (r : Env) : lstAt (n + 1) (x :: r) = lstAt n r := by simp [lstAt]
def appR (xs : List D) (ys : List DV) : R (List D) := match gAppend xs ys with | some zs => .ok zs | none => .no
def insR (xs : List D) (ys : List DV) : R (List D) := match gInsert xs ys with | some zs => .ok zs | none => .no
theorem appR_fz {xs : List D} (d : D) (h : xs.length < sizeLine) : appR xs [(d, .fz)] = .ok (xs ++ [d]) := by simp [appR, gAppend, h]
theorem appR_ow {xs : List D} (d : D) (h : xs.length < sizeLine) : appR xs [(d, .ow)] = .ok (xs ++ [d]) := by simp [appR, gAppend, h]
theorem insR_fz {xs : List D} {n : Int} (k : Kd) (d : D) (h : xs.length < sizeLine) (h0 : 0 ≤ n) (h1 : n < 2 ^ 63) : insR xs [(.int n, k), (d, .fz)] = .ok (xs.take n.toNat ++ [d] ++ xs.drop n.toNat) := by
  unfold insR gInsert
  simp only [h, h0, h1, and_self, if_true, keep1_fz, Option.map_some]
theorem m_append (i : Nat) (pl : Env → R (List DV)) (ρ : Env) : methS gAppend i pl ρ = (lstAt i ρ).st fun xs => (pl ρ).st fun ys => (appR xs ys).st fun zs => .nx (ρ.set i (some (.lst zs, .ow))) := by
  have z : ∀ xs ys, (match gAppend xs ys with | some zs => SO.nx (ρ.set i (some (.lst zs, .ow))) | none => .no) = (appR xs ys).st fun zs => .nx (ρ.set i (some (.lst zs, .ow))) := fun xs ys => by
    unfold appR
    cases gAppend xs ys <;> rfl
  unfold methS lstAt
  rcases q : ρ[i]? with _ | _ | ⟨d, k⟩
  · rfl
  · rfl
  · cases d <;> cases k <;> first | rfl | (dsimp only; rw [R.st_ok]; congr 1; funext ys; exact z _ ys)
theorem m_insert (i : Nat) (pl : Env → R (List DV)) (ρ : Env) : methS gInsert i pl ρ = (lstAt i ρ).st fun xs => (pl ρ).st fun ys => (insR xs ys).st fun zs => .nx (ρ.set i (some (.lst zs, .ow))) := by
  have z : ∀ xs ys, (match gInsert xs ys with | some zs => SO.nx (ρ.set i (some (.lst zs, .ow))) | none => .no) = (insR xs ys).st fun zs => .nx (ρ.set i (some (.lst zs, .ow))) := fun xs ys => by
    unfold insR
    cases gInsert xs ys <;> rfl
  unfold methS lstAt
  rcases q : ρ[i]? with _ | _ | ⟨d, k⟩
  · rfl
  · rfl
  · cases d <;> cases k <;> first | rfl | (dsimp only; rw [R.st_ok]; congr 1; funext ys; exact z _ ys)
section
variable (N C B : Env → Prop) (T : DV → Prop)
@[simp] theorem e_append (i : Nat) (pl : Env → R (List DV)) (ρ : Env) : (methS gAppend i pl ρ).w N C B T = (lstAt i ρ).w fun xs => (pl ρ).w fun ys => (appR xs ys).w fun zs => N (ρ.set i (some (.lst zs, .ow))) := by
  rw [m_append, SO.w_st]
  repeat (refine R.w_cg fun _ => ?_; try simp only [SO.w_st, SO.w_nx])
@[simp] theorem e_insert (i : Nat) (pl : Env → R (List DV)) (ρ : Env) : (methS gInsert i pl ρ).w N C B T = (lstAt i ρ).w fun xs => (pl ρ).w fun ys => (insR xs ys).w fun zs => N (ρ.set i (some (.lst zs, .ow))) := by
  rw [m_insert, SO.w_st]
  repeat (refine R.w_cg fun _ => ?_; try simp only [SO.w_st, SO.w_nx])
end
@[simp] theorem retV_z_fz (d : D) (r : Env) : retV 0 (some (d, .fz) :: r) = .rt (d, .fz) := Eq.trans rfl rfl
@[simp] theorem retV_z_ow (d : D) (r : Env) : retV 0 (some (d, .ow) :: r) = .rt (d, .ow) := Eq.trans rfl rfl
@[simp] theorem retV_s (n : Nat) (x : Option DV) (r : Env) : retV (n + 1) (x :: r) = retV n r := by simp [retV]

theorem add_lst {xs ys : List D} (k l : Kd) (h : xs.length + ys.length ≤ sizeLine) : opAdd (.lst xs, k) (.lst ys, l) = .ok (.lst (xs ++ ys), .ow) := by simp [opAdd, h]
theorem mul3 (x : Int) (k : Kd) : opMul (.lst (iL [x]), .ow) (.int 3, k) = .ok (.lst (iL [x, x, x]), .ow) := by
  simp [opMul, sizeLine_val]
/-- the numbers 0 .. n - 1 -/
def rng (n : Nat) : List Int := (List.range n).map fun i => ((i : Nat) : Int)
@[simp] theorem rng_length (n : Nat) : (rng n).length = n := by simp [rng]
theorem mem_rng {n : Nat} {a : Int} : a ∈ rng n ↔ 0 ≤ a ∧ a < n := by
  unfold rng
  rw [List.mem_map]
  constructor
  · rintro ⟨i, hi, rfl⟩
    have := List.mem_range.mp hi
    omega
  · rintro ⟨h1, h2⟩
    exact ⟨a.toNat, List.mem_range.mpr (by omega), by omega⟩
theorem rng_lt (n : Nat) : (rng n).Pairwise (· < ·) := by
  unfold rng
  rw [List.pairwise_map]
  exact List.pairwise_lt_range.imp fun h => by omega
theorem rng_nodup (n : Nat) : (rng n).Nodup := (rng_lt n).imp fun h e => by omega
theorem rng_get {n j : Nat} (h : j < n) : (rng n)[j]? = some (j : Int) := by
  unfold rng
  rw [List.getElem?_map, List.getElem?_range h]
  rfl
theorem rangeL_rng (n : Nat) : rangeL 0 1 n = iL (rng n) := by
  unfold rangeL iL rng
  rw [List.map_map]
  apply List.map_congr_left
  intro i _
  simp
theorem lrg1_nat (n : Nat) (k : Kd) (h : n ≤ 16777216) : lrg1 (.int n, k) = .ok (.lst (iL (rng n)), .ow) := by
  unfold lrg1
  have : (0 : Int) ≤ n ∧ (n : Int) ≤ 16777216 := ⟨by omega, by omega⟩
  simp only [this, and_self, if_true, Int.toNat_natCast, rangeL_rng]
theorem erase_perm {left : List Int} {d : Nat} {x : Int} (h : left[d]? = some x) : left.Perm (x :: (left.take d ++ left.drop (d + 1))) := by
  obtain ⟨hd, e⟩ := List.getElem?_eq_some_iff.mp h
  have : left = left.take d ++ x :: left.drop (d + 1) := by
    rw [← e, ← List.drop_eq_getElem_cons hd, List.take_append_drop]
  exact (List.Perm.of_eq this).trans List.perm_middle

theorem ins_asc (x : Int) : ∀ r : List Int, r.Pairwise (· < ·) → x ∉ r → (r.take (r.filter fun a => decide (a < x)).length ++ [x] ++ r.drop (r.filter fun a => decide (a < x)).length).Pairwise (· < ·) ∧
    ∀ a, a ∈ r.take (r.filter fun a => decide (a < x)).length ++ [x] ++ r.drop (r.filter fun a => decide (a < x)).length ↔ a ∈ r ∨ a = x
  | [], _, _ => by simp
  | b :: t, h, hx => by
    obtain ⟨h1, h2⟩ := List.pairwise_cons.mp h
    have hx1 : x ≠ b := fun e => hx (by rw [e]; exact List.mem_cons_self)
    have hx2 : x ∉ t := fun e => hx (List.mem_cons_of_mem _ e)
    by_cases c : b < x
    · obtain ⟨i1, i2⟩ := ins_asc x t h2 hx2
      have e : ((b :: t).filter fun a => decide (a < x)).length = (t.filter fun a => decide (a < x)).length + 1 := by simp [c]
      rw [e, List.take_succ_cons, List.drop_succ_cons]
      rw [List.cons_append, List.cons_append]
      refine ⟨List.pairwise_cons.mpr ⟨fun a ha => ?_, i1⟩, fun a => ?_⟩
      · rcases (i2 a).mp ha with z | z
        · exact h1 a z
        · omega
      · have := i2 a
        rw [List.mem_cons, this, List.mem_cons, or_assoc]
    · have e : ((b :: t).filter fun a => decide (a < x)) = [] := by
        rw [List.filter_eq_nil_iff]
        intro a ha
        rcases List.mem_cons.mp ha with z | z
        · subst z; simpa using c
        · have := h1 a z
          simp
          omega
      rw [e]
      simp only [List.length_nil, List.take_zero, List.drop_zero, List.nil_append]
      refine ⟨List.pairwise_cons.mpr ⟨fun a ha => ?_, h⟩, fun a => ?_⟩
      · rcases List.mem_cons.mp ha with z | z
        · omega
        · have := h1 a z
          omega
      · show a ∈ x :: b :: t ↔ _
        rw [List.mem_cons, or_comm]

theorem eqvAll_nil (xs : List PyData) : PyData.eqvAll xs [] = xs.isEmpty := by cases xs <;> simp [PyData.eqvAll]
theorem cEq_nil (g : Bool → Bool) (xs : List Int) (k l : Kd) : cEq g (.lst (iL xs), k) (.lst [], l) = .ok (.bl (g xs.isEmpty), .fz) := by
  have h : PyData.eqv (.list ((iL xs).map D.py)) (.list []) = xs.isEmpty := by
    simp only [PyData.eqv, eqvAll_nil]
    cases xs <;> rfl
  simp [cEq, eqD, h, depthAll_iL]
/-- a dict that keeps ints -/
def dkI (ds : List Int) : List (Key × D) := ds.map fun i => (Sum.inl i, D.bl true)
@[simp] theorem dkI_length (ds : List Int) : (dkI ds).length = ds.length := List.length_map _
theorem look_dkI (ds : List Int) (i : Int) : (lookK (dkI ds) (Sum.inl i : Key)).isSome = decide (i ∈ ds) := by
  unfold lookK dkI
  rw [Option.isSome_map]
  induction ds with
  | nil => rfl
  | cons a r ih =>
    rw [List.map_cons, List.find?_cons]
    by_cases h : a = i
    · subst h; simp
    · have : ¬ ((Sum.inl a : Key) = Sum.inl i) := fun e => h (Sum.inl.inj e)
      simp only [this, decide_false]
      rw [ih]
      simp [Ne.symm h]
@[simp] theorem in_dk (g : Bool → Bool) (ds : List Int) (i : Int) (k l : Kd) : cIn g (.int i, k) (.dk (dkI ds), l) = .ok (.bl (g (decide (i ∈ ds))), .fz) := by
  simp [cIn, inD, keyD, look_dkI]
theorem put_dkI {ds : List Int} {i : Int} (h : i ∉ ds) : putD (dkI ds) (Sum.inl i : Key) (.bl true) = dkI (ds ++ [i]) := by
  have e : ((dkI ds).any fun kv => decide (kv.1 = (Sum.inl i : Key))) = false := by
    rw [Bool.eq_false_iff]
    intro z
    obtain ⟨kv, h1, h2⟩ := List.any_eq_true.mp z
    obtain ⟨a, ha, rfl⟩ := List.mem_map.mp h1
    exact h (by rw [← Sum.inl.inj (of_decide_eq_true h2)]; exact ha)
  unfold putD
  rw [e]
  simp [dkI]
theorem enumL_rng {α : Type} (f : α → D) (G : List α) : enumL 0 (G.map f) = (List.range G.length).map fun i => D.tup [.int (i : Nat), (G[i]?.map f).getD .non] := by
  apply List.ext_getElem?
  intro i
  rw [enumL_get, List.getElem?_map, List.getElem?_map]
  by_cases h : i < G.length
  · rw [List.getElem?_range h, List.getElem?_eq_getElem h]
    simp
    rw [List.getElem?_eq_getElem h]
    rfl
  · rw [List.getElem?_eq_none (by omega), List.getElem?_eq_none (by simp; omega)]
    rfl
/-- a comprehension of ints from ints -/
theorem map_int (ns : List Int) (b : Int → Bool) : (ns.filter b).map (fun i => D.int i) = iL (ns.filter b) := rfl

/-! ### comprehensions, loops -/
theorem lcM_ok {f : D → Env → Option Env} {pt : Env → R Bool} {pe : Env → R DV} {ρ : Env} (b : D → Bool) (x : D → D) : ∀ ds : List D,
    (∀ d ∈ ds, ∃ ρ1, f d ρ = some ρ1 ∧ pt ρ1 = .ok (b d) ∧ (b d = true → ∃ y, pe ρ1 = .ok y ∧ keep1 y = some (x d))) → lcM f pt pe ds ρ = .ok ((ds.filter b).map x)
  | [], _ => rfl
  | d :: r, h => by
    obtain ⟨ρ1, h1, h2, h3⟩ := h d List.mem_cons_self
    have ih := lcM_ok b x r fun e he => h e (List.mem_cons_of_mem _ he)
    unfold lcM
    rw [h1]
    dsimp only
    rw [h2]
    cases hb : b d with
    | false => simp [R.quiet, ih, hb]
    | true =>
      obtain ⟨y, h4, h5⟩ := h3 hb
      simp [R.quiet, ih, hb, h4, h5]
/-- over ints -/
theorem lcM_ints {f : D → Env → Option Env} {pt : Env → R Bool} {pe : Env → R DV} {ρ : Env} (b : Int → Bool) (x : Int → D) (ns : List Int)
    (h : ∀ n ∈ ns, ∃ ρ1, f (.int n) ρ = some ρ1 ∧ pt ρ1 = .ok (b n) ∧ (b n = true → ∃ y, pe ρ1 = .ok y ∧ keep1 y = some (x n))) : lcM f pt pe (iL ns) ρ = .ok ((ns.filter b).map x) := by
  have := lcM_ok (f := f) (pt := pt) (pe := pe) (ρ := ρ) (fun d => match d with | .int n => b n | _ => false) (fun d => match d with | .int n => x n | _ => .non) (iL ns) (fun d hd => by
    obtain ⟨n, hn, rfl⟩ := List.mem_map.mp hd
    exact h n hn)
  rw [this, iL, List.filter_map, List.map_map]
  rfl
theorem forM_inv {f : D → Env → Option Env} {body : Env → SO} (I : List D → Env → Prop) (J : Env → Prop)
    (step : ∀ d ds ρ, I (d :: ds) ρ → ∃ ρ1, f d ρ = some ρ1 ∧ ((∃ ρ2, (body ρ1 = .nx ρ2 ∨ body ρ1 = .ct ρ2) ∧ I ds ρ2) ∨ ∃ ρ2, body ρ1 = .bk ρ2 ∧ J ρ2)) :
    ∀ (ds : List D) (ρ : Env), I ds ρ → ∃ ρ', forM f body ds ρ = .nx ρ' ∧ (I [] ρ' ∨ J ρ')
  | [], ρ, h => ⟨ρ, rfl, .inl h⟩
  | d :: ds, ρ, h => by
    obtain ⟨ρ1, h1, ⟨ρ2, h2, h3⟩ | ⟨ρ2, h2, h3⟩⟩ := step d ds ρ h
    · obtain ⟨ρ', h4, h5⟩ := forM_inv I J step ds ρ2 h3
      refine ⟨ρ', ?_, h5⟩
      unfold forM
      rw [h1]
      rcases h2 with h2 | h2 <;> simp only [h2, h4]
    · refine ⟨ρ2, ?_, .inr h3⟩
      unfold forM
      rw [h1]
      simp only [h2]
/-- a loop that runs through -/
theorem forM_all {f : D → Env → Option Env} {body : Env → SO} (I : List D → Env → Prop)
    (step : ∀ d ds ρ, I (d :: ds) ρ → ∃ ρ1, f d ρ = some ρ1 ∧ ∃ ρ2, (body ρ1 = .nx ρ2 ∨ body ρ1 = .ct ρ2) ∧ I ds ρ2) (ds : List D) (ρ : Env) (h : I ds ρ) : ∃ ρ', forM f body ds ρ = .nx ρ' ∧ I [] ρ' := by
  obtain ⟨ρ', h1, h2⟩ := forM_inv I (fun _ => False) (fun d ds ρ h => (step d ds ρ h).imp fun ρ1 z => ⟨z.1, .inl z.2⟩) ds ρ h
  exact ⟨ρ', h1, h2.elim id False.elim⟩
theorem whileM_inv {pt : Env → R Bool} {body : Env → SO} (I : Nat → Env → Prop) (J : Env → Prop)
    (step : ∀ n ρ, I n ρ → (pt ρ = .ok false ∧ J ρ) ∨ (pt ρ = .ok true ∧ ∃ ρ2 m, m < n ∧ (body ρ = .nx ρ2 ∨ body ρ = .ct ρ2) ∧ I m ρ2)) :
    ∀ (fuel n : Nat) (ρ : Env), n < fuel → I n ρ → ∃ ρ', whileM pt body fuel ρ = .nx ρ' ∧ J ρ'
  | 0, n, _, hn, _ => absurd hn (Nat.not_lt_zero _)
  | fuel + 1, n, ρ, hn, h => by
    rcases step n ρ h with ⟨h1, h2⟩ | ⟨h1, ρ2, m, hm, h3, h4⟩
    · exact ⟨ρ, by unfold whileM; rw [h1]; rfl, h2⟩
    · obtain ⟨ρ', h5, h6⟩ := whileM_inv I J step fuel m ρ2 (by omega) h4
      refine ⟨ρ', ?_, h6⟩
      unfold whileM
      rw [h1]
      rcases h3 with h3 | h3 <;> simp only [R.st_ok, if_true, h3, h5]

/-- a loop over a list, by place -/
theorem forM_idx {f : D → Env → Option Env} {body : Env → SO} (ds : List D) (I : Nat → Env → Prop) (J : Env → Prop)
    (step : ∀ (j : Nat) (d : D) (ρ : Env), ds[j]? = some d → I j ρ → ∃ ρ1, f d ρ = some ρ1 ∧ ((∃ ρ2, (body ρ1 = .nx ρ2 ∨ body ρ1 = .ct ρ2) ∧ I (j + 1) ρ2) ∨ ∃ ρ2, body ρ1 = .bk ρ2 ∧ J ρ2)) (ρ : Env) (h : I 0 ρ) :
    ∃ ρ', forM f body ds ρ = .nx ρ' ∧ (I ds.length ρ' ∨ J ρ') := by
  obtain ⟨ρ', h1, h2⟩ := forM_inv (f := f) (body := body) (fun es ρ => ∃ j, es = ds.drop j ∧ j ≤ ds.length ∧ I j ρ) J (fun d es ρ hI => by
    obtain ⟨j, e, hj, hI⟩ := hI
    have hlt : j < ds.length := by
      rcases Nat.lt_or_ge j ds.length with z | z
      · exact z
      · rw [List.drop_of_length_le z] at e; cases e
    rw [List.drop_eq_getElem_cons hlt] at e
    cases e
    obtain ⟨ρ1, h1, ⟨ρ2, h2, h3⟩ | h2⟩ := step j _ ρ (List.getElem?_eq_getElem hlt) hI
    · exact ⟨ρ1, h1, .inl ⟨ρ2, h2, j + 1, rfl, hlt, h3⟩⟩
    · exact ⟨ρ1, h1, .inr h2⟩) ds ρ ⟨0, rfl, Nat.zero_le _, h⟩
  refine ⟨ρ', h1, ?_⟩
  rcases h2 with ⟨j, e, hj, hI⟩ | h2
  · have : ds.length ≤ j := by
      have := congrArg List.length e
      simp at this
      omega
    have : j = ds.length := by omega
    subst this
    exact .inl hI
  · exact .inr h2
/-- a loop over range(n) that runs through -/
theorem forM_range {f : D → Env → Option Env} {body : Env → SO} (n : Nat) (I : Nat → Env → Prop)
    (step : ∀ (j : Nat) (ρ : Env), j < n → I j ρ → ∃ ρ1, f (.int j) ρ = some ρ1 ∧ ∃ ρ2, (body ρ1 = .nx ρ2 ∨ body ρ1 = .ct ρ2) ∧ I (j + 1) ρ2) (ρ : Env) (h : I 0 ρ) :
    ∃ ρ', forM f body (rangeL 0 1 n) ρ = .nx ρ' ∧ I n ρ' := by
  have hlen : (rangeL 0 1 n).length = n := by simp [rangeL]
  obtain ⟨ρ', h1, h2⟩ := forM_idx (f := f) (body := body) (rangeL 0 1 n) I (fun _ => False) (fun j d ρ e hI => by
    have hj : j < n := by
      rw [← hlen]
      exact (List.getElem?_eq_some_iff.mp e).1
    have : d = .int j := by
      unfold rangeL at e
      rw [List.getElem?_map, List.getElem?_range hj] at e
      have e := Option.some.inj e
      rw [← e]
      simp
    subst this
    exact (step j ρ hj hI).imp fun ρ1 z => ⟨z.1, .inl z.2⟩) ρ h
  rw [hlen] at h2
  exact ⟨ρ', h1, h2.elim id False.elim⟩
theorem mul_small {i j : Int} (k l : Kd) (h : i.natAbs < 2 ^ 64 ∨ j.natAbs < 2 ^ 64) : opMul (.int i, k) (.int j, l) = .ok (.int (i * j), .fz) := by
  simp [opMul, opInt, fMul, h]
theorem rg1_nat (n : Nat) (k : Kd) (h : n < 2 ^ 60) : rg1 (.int n, k) = .ok (rangeL 0 1 n, .fz) := by
  have : -(2 ^ 62 : Int) ≤ n ∧ (n : Int) < 2 ^ 62 := ⟨by omega, by omega⟩
  unfold rg1
  simp only [this, and_self, if_true, Int.toNat_natCast]

/-- a comprehension -/
theorem w_lc {f : D → Env → Option Env} {pt : Env → R Bool} {pe : Env → R DV} {ρ : Env} {ds : List D} {P : List D → Prop} (b : D → Bool) (x : D → D)
    (h : ∀ d ∈ ds, ∃ ρ1, f d ρ = some ρ1 ∧ (pt ρ1).w fun c => c = b d ∧ (c = true → (pe ρ1).w fun y => keep1 y = some (x d))) (p : P ((ds.filter b).map x)) : (lcM f pt pe ds ρ).w P :=
  R.w_of (lcM_ok b x ds fun d hd => by
    obtain ⟨ρ1, h1, h2⟩ := h d hd
    obtain ⟨c, h3, h4, h5⟩ := R.w_get h2
    subst h4
    exact ⟨ρ1, h1, h3, fun z => by obtain ⟨y, h6, h7⟩ := R.w_get (h5 z); exact ⟨y, h6, h7⟩⟩) p
theorem w_lcI {f : D → Env → Option Env} {pt : Env → R Bool} {pe : Env → R DV} {ρ : Env} {ns : List Int} {P : List D → Prop} (b : Int → Bool) (x : Int → D)
    (h : ∀ n ∈ ns, ∃ ρ1, f (.int n) ρ = some ρ1 ∧ (pt ρ1).w fun c => c = b n ∧ (c = true → (pe ρ1).w fun y => keep1 y = some (x n))) (p : P ((ns.filter b).map x)) : (lcM f pt pe (iL ns) ρ).w P :=
  R.w_of (lcM_ints b x ns fun d hd => by
    obtain ⟨ρ1, h1, h2⟩ := h d hd
    obtain ⟨c, h3, h4, h5⟩ := R.w_get h2
    subst h4
    exact ⟨ρ1, h1, h3, fun z => by obtain ⟨y, h6, h7⟩ := R.w_get (h5 z); exact ⟨y, h6, h7⟩⟩) p
/-- a for-loop over a list, by place -/
theorem w_for {f : D → Env → Option Env} {body : Env → SO} {ds : List D} {ρ : Env} {N C B : Env → Prop} {T : DV → Prop} (I : Nat → Env → Prop) (h : I 0 ρ)
    (step : ∀ (j : Nat) (d : D) (ρ : Env), ds[j]? = some d → I j ρ → ∃ ρ1, f d ρ = some ρ1 ∧ (body ρ1).w (I (j + 1)) (I (j + 1)) N T) (fin : ∀ ρ, I ds.length ρ → N ρ) : (forM f body ds ρ).w N C B T := by
  have go : ∀ (es : List D) (j : Nat) (ρ : Env), es = ds.drop j → j ≤ ds.length → I j ρ → (forM f body es ρ).w N C B T := by
    intro es
    induction es with
    | nil =>
      intro j ρ e hj hI
      have : ds.length ≤ j := by
        have := congrArg List.length e
        simp at this
        omega
      have : j = ds.length := by omega
      subst this
      exact .inl ⟨ρ, rfl, fin ρ hI⟩
    | cons d es ih =>
      intro j ρ e hj hI
      have hlt : j < ds.length := by
        rcases Nat.lt_or_ge j ds.length with z | z
        · exact z
        · rw [List.drop_of_length_le z] at e; cases e
      rw [List.drop_eq_getElem_cons hlt] at e
      cases e
      obtain ⟨ρ1, h1, h2⟩ := step j _ ρ (List.getElem?_eq_getElem hlt) hI
      unfold forM
      rw [h1]
      dsimp only
      rcases h2 with ⟨ρ2, e, h2⟩ | ⟨ρ2, e, h2⟩ | ⟨ρ2, e, h2⟩ | ⟨x, e, h2⟩
      · rw [e]; exact ih (j + 1) ρ2 rfl hlt h2
      · rw [e]; exact ih (j + 1) ρ2 rfl hlt h2
      · rw [e]; exact .inl ⟨ρ2, rfl, h2⟩
      · rw [e]; exact .inr (.inr (.inr ⟨x, rfl, h2⟩))
  exact go ds 0 ρ rfl (Nat.zero_le _) h
/-- .. over range(n) -/
theorem w_rng {f : D → Env → Option Env} {body : Env → SO} {n : Nat} {ρ : Env} {N C B : Env → Prop} {T : DV → Prop} (I : Nat → Env → Prop) (h : I 0 ρ)
    (step : ∀ (j : Nat) (ρ : Env), j < n → I j ρ → ∃ ρ1, f (.int j) ρ = some ρ1 ∧ (body ρ1).w (I (j + 1)) (I (j + 1)) N T) (fin : ∀ ρ, I n ρ → N ρ) : (forM f body (rangeL 0 1 n) ρ).w N C B T := by
  have hlen : (rangeL 0 1 n).length = n := by simp [rangeL]
  refine w_for I h (fun j d ρ e hI => ?_) (by rw [hlen]; exact fin)
  have hj : j < n := by
    rw [← hlen]
    exact (List.getElem?_eq_some_iff.mp e).1
  have : d = .int j := by
    unfold rangeL at e
    rw [List.getElem?_map, List.getElem?_range hj] at e
    have e := Option.some.inj e
    rw [← e]
    simp
  subst this
  exact step j ρ hj hI
theorem w_while {pt : Env → R Bool} {body : Env → SO} {N C B : Env → Prop} {T : DV → Prop} (I : Nat → Env → Prop) (n : Nat) {fuel : Nat} {ρ : Env} (hn : n < fuel) (h : I n ρ)
    (step : ∀ n ρ, I n ρ → (pt ρ).w fun c => if c = true then (body ρ).w (fun ρ2 => ∃ m, m < n ∧ I m ρ2) (fun ρ2 => ∃ m, m < n ∧ I m ρ2) N T else N ρ) : (whileM pt body fuel ρ).w N C B T := by
  induction fuel generalizing n ρ with
  | zero => exact absurd hn (Nat.not_lt_zero _)
  | succ fuel ih =>
    obtain ⟨c, h1, h2⟩ := R.w_get (step n ρ h)
    unfold whileM
    rw [h1]
    cases c with
    | false =>
      rw [if_neg (by simp)] at h2
      exact .inl ⟨ρ, rfl, h2⟩
    | true =>
      rw [if_pos rfl] at h2
      show SO.w (match body ρ with
      | .nx ρ2 => whileM pt body fuel ρ2
      | .ct ρ2 => whileM pt body fuel ρ2
      | .bk ρ2 => .nx ρ2
      | r => r) N C B T
      rcases h2 with ⟨ρ2, e, m, hm, hI⟩ | ⟨ρ2, e, m, hm, hI⟩ | ⟨ρ2, e, h2⟩ | ⟨x, e, h2⟩
      · rw [e]; exact ih m (by omega) hI
      · rw [e]; exact ih m (by omega) hI
      · rw [e]; exact .inl ⟨ρ2, rfl, h2⟩
      · rw [e]; exact .inr (.inr (.inr ⟨x, rfl, h2⟩))

/-! ### lists by place, slices, in -/
theorem append_ok {i : Nat} {ρ : Env} {xs : List D} {y : DV} {d : D} {pl : Env → R (List DV)} (h : ρ[i]? = some (some (.lst xs, .ow))) (hp : pl ρ = .ok [y]) (hy : keep1 y = some d) (hz : xs.length < PySem.sizeLine) :
    methS gAppend i pl ρ = .nx (ρ.set i (some (.lst (xs ++ [d]), .ow))) := by
  unfold methS
  rw [h]
  simp only [hp, R.st_ok, gAppend, hz, if_true, hy, Option.map_some]
theorem atI_nat' {α : Type} (xs : List α) (j : Nat) : atI xs (j : Int) = xs[j]? := by
  unfold atI ixN
  rw [if_pos (Int.natCast_nonneg j)]
  by_cases h : j < xs.length
  · rw [if_pos (by omega)]; simp
  · rw [if_neg (by omega), List.getElem?_eq_none (by omega)]; rfl
theorem ix_lst {xs : List D} {j : Nat} {d : D} {i : Int} (k l : Kd) (hi : i = j) (h : xs[j]? = some d) : ixD (.lst xs, k) (.int i, l) = .ok (d, .fz) := by
  subst hi; unfold ixD; simp only [atI_nat', h]
theorem ix_tup {xs : List D} {j : Nat} {d : D} {i : Int} (k l : Kd) (hi : i = j) (h : xs[j]? = some d) : ixD (.tup xs, k) (.int i, l) = .ok (d, .fz) := by
  subst hi; unfold ixD; simp only [atI_nat', h]
theorem cut_to {α : Type} (xs : List α) (n : Nat) : cutL xs none (some (n : Int)) = xs.take n := by
  unfold cutL
  rw [HT.sIx_none, HT.sIx_nat, List.drop_zero, Nat.sub_zero]
  by_cases h : n ≤ xs.length
  · rw [Nat.min_eq_left h]
  · rw [Nat.min_eq_right (by omega), List.take_length, List.take_of_length_le (by omega)]
theorem cut_from {α : Type} (xs : List α) (n : Nat) : cutL xs (some (n : Int)) none = xs.drop n := by
  unfold cutL
  rw [HT.sIx_none, HT.sIx_nat]
  by_cases h : n ≤ xs.length
  · rw [Nat.min_eq_left h, List.take_of_length_le (by simp)]
  · rw [Nat.min_eq_right (by omega), List.drop_of_length_le (by omega), List.drop_of_length_le (by omega)]; simp
theorem cut_mid {α : Type} (xs : List α) (m n : Nat) (h : n ≤ xs.length) : cutL xs (some (m : Int)) (some (n : Int)) = (xs.drop m).take (n - m) := by
  unfold cutL
  rw [HT.sIx_nat, HT.sIx_nat, Nat.min_eq_left h]
  by_cases hm : m ≤ xs.length
  · rw [Nat.min_eq_left hm]
  · rw [Nat.min_eq_right (by omega), List.drop_of_length_le (by omega), List.drop_of_length_le (by omega)]; simp
theorem any_ints (ns : List Int) (i : Int) : ((iL ns).any fun y => PyData.eqv y.py (.int i)) = decide (i ∈ ns) := by
  induction ns with
  | nil => simp
  | cons a r ih =>
    rw [← iL_cons, List.any_cons, ih]
    simp only [py_int, eqv_int, List.mem_cons]
    by_cases h : a = i
    · subst h; simp
    · simp [h, Ne.symm h]
@[simp] theorem in_lst (g : Bool → Bool) (ns : List Int) (i : Int) (k l : Kd) : cIn g (.int i, k) (.lst (iL ns), l) = .ok (.bl (g (decide (i ∈ ns))), .fz) := by
  unfold cIn inD
  simp only [py_int, plain_int, depth_int, plainAll_ints, Nat.zero_le, and_self, if_true, any_ints, R.bind_ok]
@[simp] theorem in_tup (g : Bool → Bool) (ns : List Int) (i : Int) (k l : Kd) : cIn g (.int i, k) (.tup (iL ns), l) = .ok (.bl (g (decide (i ∈ ns))), .fz) := by
  unfold cIn inD
  simp only [py_int, plain_int, depth_int, plainAll_ints, Nat.zero_le, and_self, if_true, any_ints, R.bind_ok]
theorem boolsD_map2 {α : Type} (f : α → Bool) : ∀ xs : List α, boolsD (xs.map fun a => D.bl (f a)) = some (xs.map f)
  | [] => rfl
  | x :: r => by simp [boolsD, boolsD_map2 f r]
theorem gAll {α : Type} (f : α → Bool) (xs : List α) (k : Kd) : gBools (fun bs => bs.all id) (.lst (xs.map fun a => D.bl (f a)), k) = .ok (.bl (xs.all f), .fz) := by
  unfold gBools
  simp only [boolsD_map2, List.all_map]
  rfl
theorem gAllT {xs : List D} (k : Kd) (h : ∀ d ∈ xs, d = .bl true) : gBools (fun bs => bs.all id) (.lst xs, k) = .ok (.bl true, .fz) := by
  have e : xs = xs.map fun _ => D.bl true := (List.map_id xs).symm.trans (List.map_congr_left fun d hd => h d hd)
  rw [e, gAll (fun _ => true)]
  simp
theorem gSorted_ints (ns : List Int) (k : Kd) (h : ns.length ≤ sizeLine) : gSorted (.lst (iL ns), k) = .ok (.lst (sortD (iL ns)), .ow) := by
  have ok : sortOk (iL ns) = true := by
    unfold sortOk
    have a1 : (iL ns).length ≤ sizeLine := by rw [iL_length]; exact h
    have a2 : ((iL ns).all fun a => (iL ns).all fun b => PySem.W.alike a.py b.py) = true := by
      rw [List.all_eq_true]
      intro a ha
      rw [List.all_eq_true]
      intro b hb
      obtain ⟨i, _, rfl⟩ := iL_mem ha
      obtain ⟨j, _, rfl⟩ := iL_mem hb
      simp [PySem.W.alike]
    have a3 : (iL ns).all D.nonTup = true := by
      rw [List.all_eq_true]
      intro a ha
      obtain ⟨i, _, rfl⟩ := iL_mem ha
      rfl
    have a4 : ((iL ns).all fun a => decide (a.py.depth ≤ 100)) = true := by
      rw [List.all_eq_true]
      intro a ha
      obtain ⟨i, _, rfl⟩ := iL_mem ha
      simp
    rw [decide_eq_true a1, plainAll_ints, a2, a3, a4]
    rfl
  unfold gSorted
  simp only [ok, if_true]
theorem slTo (ns : List Int) (n : Nat) (k : Kd) : slD (.lst (iL ns), k) none (some (n : Int)) = .ok (.lst (iL (ns.take n)), .ow) := by
  show R.ok (D.lst (cutL (iL ns) none (some (n : Int))), Kd.ow) = _
  rw [cut_to, iL_take]
theorem tupleText_le (m : Nat) (ts : List Str) (h : ∀ t ∈ ts, t.length ≤ m) : (tupleText ts).length ≤ ts.length * (m + 2) + 3 := by
  have hp : ∀ ts : List Str, (∀ t ∈ ts, t.length ≤ m) → piled ts ≤ ts.length * (m + 2) := by
    intro ts
    induction ts with
    | nil => intro _; simp [piled]
    | cons t r ih =>
      intro h
      have h1 := h t List.mem_cons_self
      have h2 := ih fun u hu => h u (List.mem_cons_of_mem _ hu)
      rw [piled_cons, List.length_cons, Nat.add_mul]
      omega
  have hq := hp ts h
  unfold tupleText
  rw [strLen_append, strLen_append]
  have e1 : ((("(" : String) : Str)).length = 1 := rfl
  have e3 : (((if ts.length == 1 then ",)" else ")" : String) : Str)).length ≤ 2 := by split <;> decide
  rw [e1]
  by_cases z : ts = []
  · subst z
    have : (Str.join ", " []).length = 0 := rfl
    omega
  · have := join_length_add ts z
    omega
theorem int_text (i : Int) (h : 0 ≤ i ∧ i < 100) : (PyData.shown (.int i)).length ≤ 3 := by
  have all : ∀ n : Fin 100, (PyData.shown (.int (n.val : Int))).length ≤ 3 := by decide +kernel
  have := all ⟨i.toNat, by omega⟩
  dsimp only at this
  rwa [Int.toNat_of_nonneg h.1] at this
theorem shownAll_map {α : Type} (f : α → PyData) (xs : List α) : PyData.shownAll (xs.map f) = xs.map fun x => (f x).shown := by
  induction xs with
  | nil => simp [PyData.shownAll]
  | cons x r ih => simp only [List.map_cons, PyData.shownAll, ih]
theorem showableAll_map {α : Type} (f : α → PyData) (xs : List α) (h : ∀ x ∈ xs, (f x).showable = true) : PyData.showableAll (xs.map f) = true := by
  induction xs with
  | nil => simp [PyData.showableAll]
  | cons x r ih => simp only [List.map_cons, PyData.showableAll, h x List.mem_cons_self, ih fun y hy => h y (List.mem_cons_of_mem _ hy), Bool.and_self]
theorem hasDictAll_map {α : Type} (f : α → PyData) (xs : List α) (h : ∀ x ∈ xs, (f x).hasDict = false) : PyData.hasDictAll (xs.map f) = false := by
  induction xs with
  | nil => simp [PyData.hasDictAll]
  | cons x r ih => simp only [List.map_cons, PyData.hasDictAll, h x List.mem_cons_self, ih fun y hy => h y (List.mem_cons_of_mem _ hy), Bool.or_self]
theorem row_py (r : List Int) : (D.tup (iL r)).py = .tuple (r.map PyData.int) := by
  rw [py_tup, iL, List.map_map]
  rfl
theorem repr_rows (S : List (List Int)) (h1 : S.length ≤ 100) (h2 : ∀ r ∈ S, r.length ≤ 100 ∧ ∀ a ∈ r, 0 ≤ a ∧ a < 100) : ∃ t, gRepr (.tup (S.map fun r => .tup (iL r)), .fz) = .ok (.str t, .fz) := by
  have e : (D.tup (S.map fun r => D.tup (iL r))).py = .tuple (S.map fun r => PyData.tuple (r.map PyData.int)) := by
    rw [py_tup, List.map_map]
    congr 1
    apply List.map_congr_left
    intro r _
    exact row_py r
  have c1 : (PyData.tuple (S.map fun r => PyData.tuple (r.map PyData.int))).plain = true := by
    rw [plain_tuple]
    exact plainAll_map _ _ fun r _ => by rw [plain_tuple]; exact plainAll_map _ _ fun _ _ => by simp
  have c2 : (PyData.tuple (S.map fun r => PyData.tuple (r.map PyData.int))).showable = true := by
    simp only [PyData.showable]
    refine showableAll_map _ _ fun r hr => ?_
    simp only [PyData.showable]
    refine showableAll_map _ _ fun a ha => ?_
    obtain ⟨p1, p2⟩ := (h2 r hr).2 a ha
    simp only [PyData.showable, decide_eq_true_eq]
    have : a.natAbs.log2 ≤ a.natAbs := Nat.log2_le_self _
    omega
  have c3 : (PyData.tuple (S.map fun r => PyData.tuple (r.map PyData.int))).hasDict = false := by
    simp only [PyData.hasDict]
    refine hasDictAll_map _ _ fun r hr => ?_
    simp only [PyData.hasDict]
    exact hasDictAll_map _ _ fun a ha => by simp only [PyData.hasDict]
  have c4 : (PyData.tuple (S.map fun r => PyData.tuple (r.map PyData.int))).depth ≤ 100 := by
    rw [depth_tuple]
    have := depthAll_le (fun r => PyData.tuple (r.map PyData.int)) 1 S fun r _ => by
      rw [depth_tuple]
      have := depthAll_le PyData.int 0 r fun a _ => by simp
      omega
    omega
  have c5 : (PyData.tuple (S.map fun r => PyData.tuple (r.map PyData.int))).shown.length ≤ sizeLine := by
    simp only [PyData.shown]
    rw [shownAll_map]
    have := tupleText_le 600 (S.map fun r => (PyData.tuple (r.map PyData.int)).shown) fun t ht => by
      obtain ⟨r, hr, rfl⟩ := List.mem_map.mp ht
      obtain ⟨l1, l2⟩ := h2 r hr
      simp only [PyData.shown]
      rw [shownAll_map]
      have := tupleText_le 3 (r.map fun a => (PyData.int a).shown) fun t ht => by
        obtain ⟨a, ha, rfl⟩ := List.mem_map.mp ht
        exact int_text a (l2 a ha)
      rw [List.length_map] at this
      omega
    rw [List.length_map] at this
    rw [sizeLine_val]
    omega
  refine ⟨(PyData.tuple (S.map fun r => PyData.tuple (r.map PyData.int))).shown, ?_⟩
  unfold gRepr
  rw [if_pos (by rfl)]
  unfold reprD
  rw [e, if_pos ⟨c1, c2, c3, c4, c5⟩]
  rfl
theorem cEq_str_self (g : Bool → Bool) (t : Str) (k l : Kd) : cEq g (.str t, k) (.str t, l) = .ok (.bl (g true), .fz) := by
  have h : PyData.eqv (.str t) (.str t) = true := by simp [PyData.eqv]
  have p : PyData.plain (.str t) = true := by simp only [PyData.plain]
  have d : PyData.depth (.str t) = 0 := by simp only [PyData.depth]
  simp [cEq, eqD, h, p, d]
theorem eqvAll_ints : ∀ xs ys : List Int, PyData.eqvAll ((iL xs).map D.py) ((iL ys).map D.py) = decide (xs = ys)
  | [], [] => by simp [PyData.eqvAll]
  | [], y :: ys => by rw [← iL_cons]; simp [PyData.eqvAll]
  | x :: xs, [] => by rw [← iL_cons]; simp [PyData.eqvAll]
  | x :: xs, y :: ys => by
    rw [← iL_cons, ← iL_cons, List.map_cons, List.map_cons, PyData.eqvAll, eqvAll_ints xs ys]
    simp only [py_int, eqv_int, List.cons.injEq]
    by_cases a : x = y <;> by_cases b : xs = ys <;> simp [a, b]
theorem cEq_ints (g : Bool → Bool) (xs ys : List Int) (k l : Kd) : cEq g (.lst (iL xs), k) (.lst (iL ys), l) = .ok (.bl (g (decide (xs = ys))), .fz) := by
  have h : PyData.eqv (.list ((iL xs).map D.py)) (.list ((iL ys).map D.py)) = decide (xs = ys) := by simp only [PyData.eqv, eqvAll_ints]
  simp [cEq, eqD, h, depthAll_iL]
end FK
namespace FK
open PySem PySem.Spec L2
open PyProof.Rows hiding St
/-! PL2: more words. -/
@[simp] theorem three_eq (g : DV → DV → DV → R DV) (x y z : DV) : three g [x, y, z] = g x y z := Eq.trans rfl rfl
@[simp] theorem gI3_eq (f : Int → Int → Int → Int) (i j n : Int) (k l m : Kd) : gI3 f (.int i, k) (.int j, l) (.int n, m) = .ok (.int (f i j n), .fz) := Eq.trans rfl rfl
@[simp] theorem isBool_bl (g : Bool → Bool) (a b : Bool) : isBoolD g (.bl a, .fz) (.bl b, .fz) = .ok (.bl (g (decide (a = b))), .fz) := Eq.trans rfl rfl
theorem lcM2_ok {f : D → Env → Option Env} {pt : Env → R Bool} {q1 : Env → R (List D × Kd)} {f1 : D → Env → Option Env} {pt1 : Env → R Bool} {pe : Env → R DV} {vs1 : List Nat} {ρ : Env} (g : D → List D) : ∀ ds : List D,
    (∀ d ∈ ds, ∃ ρ1, f d ρ = some ρ1 ∧ pt ρ1 = .ok true ∧ ∃ xs k, q1 ρ1 = .ok (xs, k) ∧ k ≠ .al ∧ lcM f1 pt1 pe xs (wipeD ρ1 vs1) = .ok (g d)) → lcM2 f pt q1 f1 pt1 pe vs1 ds ρ = .ok (ds.map g).flatten
  | [], _ => rfl
  | d :: r, h => by
    obtain ⟨ρ1, h1, h2, xs, k, h3, h4, h5⟩ := h d List.mem_cons_self
    have ih := lcM2_ok g r fun e he => h e (List.mem_cons_of_mem _ he)
    unfold lcM2
    rw [h1]
    dsimp only
    rw [h2]
    simp [FK.R.quiet, h3, h4, h5, ih]
@[simp] theorem e_mLc2 (ρ : Env) (it q1 : Env → FK.R (List D × Kd)) (gt gt1 : D → Env → Option Env) (pt pt1 : Env → FK.R Bool) (p : Env → FK.R DV) (vs vs1 : List Nat) (P : DV → Prop) : (mLc2 it gt pt q1 gt1 pt1 p vs vs1 ρ).w P = (it ρ).w fun x => (lcM2 gt pt q1 gt1 pt1 p vs1 x.1 (wipeD ρ vs)).quiet.w fun r => if r.length ≤ sizeLine then P (.lst r, .ow) else False := by
  unfold mLc2
  rw [FK.R.w_bind]
  refine FK.R.w_cg fun x => ?_
  rw [FK.R.w_bind]
  refine FK.R.w_cg fun r => ?_
  rw [FK.R.w_ite, FK.R.w_noF, FK.R.w_ok]
theorem frzS_fz {i : Nat} {ρ : Env} {d : D} (h : ρ[i]? = some (some (d, .fz))) : frzS i ρ = ρ := by
  unfold frzS
  rw [h]
theorem add_tup {xs ys : List D} (h : xs.length + ys.length ≤ sizeLine) : opAdd (.tup xs, .fz) (.tup ys, .fz) = .ok (.tup (xs ++ ys), .fz) := by simp [opAdd, h]
theorem repr_bulk (d : D) (B : Nat) (hB : 8 ≤ B) (h0 : d.isRf = true) (h1 : d.py.plain = true) (h2 : d.py.showable = true) (h3 : d.py.hasDict = false) (h4 : d.py.depth ≤ 100) (h5 : d.py.leavesShort B = true) (h6 : (B + 2) * d.py.bulk + B ≤ sizeLine) :
    ∃ t, ∀ k, gRepr (d, k) = .ok (.str t, .fz) := by
  have := PyData.shown_le_bulk B hB d.py h5
  refine ⟨d.py.shown, fun k => ?_⟩
  unfold gRepr
  rw [if_pos h0]
  unfold reprD
  rw [if_pos ⟨h1, h2, h3, h4, (by show d.py.shown.length ≤ _; omega)⟩]
  rfl
theorem bulk_ints : ∀ ns : List Int, PyData.bulkAll (ns.map PyData.int) = ns.length
  | [] => by simp only [List.map_nil, PyData.bulkAll, List.length_nil]
  | n :: r => by simp only [List.map_cons, PyData.bulkAll, PyData.bulk, bulk_ints r, List.length_cons]; omega
theorem short_ints (B : Nat) : ∀ ns : List Int, (∀ a ∈ ns, (PyData.int a).shown.length ≤ B) → PyData.leavesShortAll B (ns.map PyData.int) = true
  | [], _ => by simp only [List.map_nil, PyData.leavesShortAll]
  | n :: r, h => by simp only [List.map_cons, PyData.leavesShortAll, PyData.leavesShort, short_ints B r fun a ha => h a (List.mem_cons_of_mem _ ha), h n List.mem_cons_self, decide_true, Bool.and_self]
theorem ints_py (ns : List Int) : (iL ns).map D.py = ns.map PyData.int := by
  rw [iL, List.map_map]
  rfl
theorem showable_ints (ns : List Int) (h2 : ∀ a ∈ ns, 0 ≤ a ∧ a < 100) : PyData.showableAll (ns.map PyData.int) = true := showableAll_map _ _ fun a ha => by
  obtain ⟨p1, p2⟩ := h2 a ha
  simp only [PyData.showable, decide_eq_true_eq]
  have : a.natAbs.log2 ≤ a.natAbs := Nat.log2_le_self _
  omega
theorem repr_ints (ns : List Int) (h1 : ns.length ≤ 100) (h2 : ∀ a ∈ ns, 0 ≤ a ∧ a < 100) : ∃ t, ∀ k, gRepr (.lst (iL ns), k) = .ok (.str t, .fz) := by
  have sz := sizeLine_val
  refine repr_bulk _ 8 (by omega) rfl ?_ ?_ ?_ ?_ ?_ ?_
  · simp
  · rw [py_lst, ints_py]
    simp only [PyData.showable]
    exact showable_ints ns h2
  · rw [py_lst, ints_py]
    simp only [PyData.hasDict]
    exact hasDictAll_map _ _ fun a ha => by simp only [PyData.hasDict]
  · rw [py_lst, ints_py, depth_list]
    have := depthAll_le PyData.int 0 ns fun a _ => by simp
    omega
  · rw [py_lst, ints_py]
    simp only [PyData.leavesShort]
    exact short_ints 8 ns fun a ha => by have := int_text a (h2 a ha); omega
  · rw [py_lst, ints_py]
    simp only [PyData.bulk, bulk_ints]
    omega
@[simp] theorem gRepr_int (i : Int) (k : Kd) : gRepr (.int i, k) = if i.natAbs.log2 < 1920 then .ok (.str (toString i), .fz) else .no := Eq.trans rfl rfl
end FK
namespace K16
open PySem.Spec L2 FK
open PyProof.Rows hiding St
def b__law_draws_L1 : Env → SO := (mIf (dCmp (cOrd oGt) (dVar 4) (kInt 0)) (mSeq (methS gAppend 5 (aCons (dBin (opInt fMod) (dCB (one gInt) (aCons (dVar 4) aNil)) (dBin ixD (dVar 2) (dVar 6))) aNil))
    (sSet 4 (dBin (opInt fDiv) (dVar 4) (dBin ixD (dVar 2) (dVar 6))))) (mSeq (sSet 7 (dBin (opInt fMod) (dCB (one gInt) (aCons (dBin opAdd (dBin opAdd (dBin opAdd (dBin opMul (dVar 3) (kInt 48271)) (dBin opMul (dVar 1) (kInt 69621))) (dBin opMul (dVar 6) (kInt 40692))) (kInt 12345)) aNil)) (kInt 2147483647)))
    (mSeq (sSet 7 (dBin (opInt fMod) (dCB (one gInt) (aCons (dBin opAdd (dBin opAdd (dBin opMul (dVar 7) (dVar 7)) (dBin opMul (dVar 6) (kInt 16807))) (kInt 271)) aNil)) (kInt 2147483563)))
    (mSeq (sSet 7 (dBin (opInt fMod) (dCB (one gInt) (aCons (dBin opAdd (dBin opAdd (dBin opMul (dVar 7) (dVar 7)) (dBin opMul (dVar 7) (kInt 39373))) (kInt 7)) aNil)) (kInt 2147483399)))
    (methS gAppend 5 (aCons (dBin (opInt fMod) (dBin (opInt fDiv) (dVar 7) (kInt 16)) (dBin ixD (dVar 2) (dVar 6))) aNil))))))
def b__law_draws : Env → SO := (mSeq (sSet 3 (kInt 0))
    (mSeq (sSet 4 (kInt 0))
    (mSeq (mIf (dCmp (cOrd oLt) (dVar 1) (dCB (one gLen) (aCons (dVar 0) aNil))) (mSeq (sSet 3 (dCB (one gInt) (aCons (dBin ixD (dVar 0) (dVar 1)) aNil)))
    (sSet 4 (dCB (two (gI2 fun i j => if j > i then j else i)) (aCons (kInt 0) (aCons (dBin (opInt fSub) (dVar 3) (dBin (opInt fPow) (kInt 10) (kInt 18))) aNil))))) (mIf (dCmp (cOrd oGt) (dCB (one gLen) (aCons (dVar 0) aNil)) (kInt 0)) (sSet 3 (dCB (one gInt) (aCons (dBin ixD (dVar 0) (dBin (opInt fMod) (dCB (one gInt) (aCons (dVar 1) aNil)) (dCB (one gLen) (aCons (dVar 0) aNil)))) aNil))) mPass))
    (mSeq (sSet 5 (mLst aNil))
    (mSeq (sFor (mRg1 (dCB (one gLen) (aCons (dVar 2) aNil))) (gName 6) b__law_draws_L1)
    (retV 5))))))
def m__law_draws : List DV → R DV := runD 8 b__law_draws
def b__law_graph_L1 : Env → SO := (mSeq (sSet 10 (dBin (cOrd oGe) (dVar 9) (dBin (opInt fSub) (dVar 5) (kInt 4))))
    (mSeq (mIf (dCmp (cEq id) (dBin ixD (dVar 3) (kInt 1)) (kInt 1)) (sSet 10 (dBin (cEq id) (dVar 9) (dBin (opInt fSub) (dVar 5) (kInt 1)))) mPass)
    (mSeq (mIf (dCmp (cEq id) (dBin ixD (dVar 3) (kInt 1)) (kInt 2)) (sSet 10 (dBin (cEq id) (dBin (opInt fDiv) (dVar 9) (kInt 3)) (dBin (opInt fSub) (dBin (opInt fDiv) (dVar 5) (kInt 3)) (kInt 1)))) mPass)
    (mSeq (mIf (tAndD (dTru (dVar 10)) (dCmp (cOrd oGt) (dBin opAdd (dBin (opInt fMod) (dCB (one gInt) (aCons (dVar 7) aNil)) (kInt 2)) (dCB (one gInt) (aCons (dAnd (dBin (cOrd oLt) (dBin ixD (dVar 3) (kInt 1)) (kInt 3)) (dBin (cOrd oGt) (dBin ixD (dVar 6) (kInt 1)) (kInt 3))) aNil))) (kInt 0))) (methS gAppend 8 (aCons (dVar 9) aNil)) mPass)
    (mIf (dTru (dVar 10)) (sSet 7 (dBin (opInt fDiv) (dVar 7) (kInt 2))) mPass)))))
def b__law_graph_L2 : Env → SO := (mSeq (sSet 6 (dCall 3 m__law_draws (aCons (dVar 0) (aCons (dBin opAdd (dBin opAdd (dVar 1) (kInt 1)) (dBin (opInt fMod) (dCB (one gInt) (aCons (dVar 5) aNil)) (kInt 12))) (aCons (mLst (aCons (kInt 2520) (aCons (kInt 6) aNil))) aNil)))))
    (mSeq (sSet 7 (dBin ixD (dVar 6) (kInt 0)))
    (mSeq (sSet 8 (mLst aNil))
    (mSeq (sFor (mRg1 (dVar 5)) (gName 9) b__law_graph_L1)
    (mSeq (mIf (tAndD (dCmp (cEq id) (dBin ixD (dVar 3) (kInt 1)) (kInt 4)) (dCmp (cOrd oLt) (dBin ixD (dVar 6) (kInt 1)) (kInt 3))) (sSet 8 (mLst aNil)) mPass)
    (methS gAppend 4 (aCons (dCB (one gTuple) (aCons (dVar 8) aNil)) aNil)))))))
def b__law_graph : Env → SO := (mSeq (sSet 3 (dCall 3 m__law_draws (aCons (dVar 0) (aCons (dVar 1) (aCons (mLst (aCons (dBin opAdd (kInt 1) (dVar 2)) (aCons (kInt 5) aNil))) aNil)))))
    (mSeq (sSet 4 (mLst aNil))
    (mSeq (sFor (mRg1 (dBin ixD (dVar 3) (kInt 0))) (gName 5) b__law_graph_L2)
    (mRet (dCB (one gTuple) (aCons (dVar 4) aNil))))))
def m__law_graph : List DV → R DV := runD 11 b__law_graph
def b__law_far : Env → SO := mFar
def m__law_far : List DV → R DV := runD 6 b__law_far
def b__law_no_graph : Env → SO := (mSeq (sSet 2 (dCall 3 m__law_draws (aCons (dVar 0) (aCons (dVar 1) (aCons (mLst (aCons (kInt 8) aNil)) aNil)))))
    (mRet (dBin ixD (mLst (aCons kNon (aCons (mTup (aCons (mTup (aCons (kInt 0) aNil)) aNil)) (aCons (mTup (aCons (mTup aNil) (aCons (mTup (aCons (kInt 1) aNil)) aNil))) (aCons (mTup (aCons (mTup aNil) (aCons (mTup (aCons (kInt 0) (aCons (kInt 0) aNil))) aNil))) (aCons (mTup (aCons (mTup aNil) (aCons (mTup (aCons (mNeg (kInt 1)) aNil)) aNil))) (aCons (kInt 3) (aCons (mTup (aCons (mTup aNil) (aCons (mTup aNil) (aCons (mTup (aCons (kInt 1) (aCons (kInt 0) aNil))) aNil)))) (aCons (mTup (aCons kNon aNil)) aNil))))))))) (dBin ixD (dVar 2) (kInt 0)))))
def m__law_no_graph : List DV → R DV := runD 3 b__law_no_graph
def b__law_equal_L1 (rr : List DV → R DV) : Env → SO := (mIf (tNotD (dTru (dCall 2 rr (aCons (dBin ixD (dVar 0) (dVar 2)) (aCons (dBin ixD (dVar 1) (dVar 2)) aNil))))) (mRet (kBl false)) mPass)
def b__law_equal (rr : List DV → R DV) : Env → SO := (mSeq (mIf (dCmp (isNoneD id) (dVar 1) kNon) (mRet (dBin (isNoneD id) (dVar 0) kNon)) mPass)
    (mSeq (mIf (dTru (mIs (dVar 1) "bool")) (mRet (dAnd (mIs (dVar 0) "bool") (dBin (cEq id) (dVar 0) (dVar 1)))) mPass)
    (mSeq (mIf (dTru (mIs (dVar 1) "int")) (mRet (dAnd (mIs (dVar 0) "int") (dAnd (dNot (mIs (dVar 0) "bool")) (dBin (cEq id) (dVar 0) (dVar 1))))) mPass)
    (mSeq (mIf (dTru (mIs (dVar 1) "str")) (mRet (dAnd (mIs (dVar 0) "str") (dBin (cEq id) (dVar 0) (dVar 1)))) mPass)
    (mSeq (mIf (tOrD (tNotD (dTru (mIs (dVar 0) "tuple"))) (dCmp (cEq (!·)) (dCB (one gLen) (aCons (dVar 0) aNil)) (dCB (one gLen) (aCons (dVar 1) aNil)))) (mRet (kBl false)) mPass)
    (mSeq (sFor (mRg1 (dCB (one gLen) (aCons (dVar 1) aNil))) (gName 2) (b__law_equal_L1 rr))
    (mRet (kBl true))))))))
def l__law_equal : Nat → List DV → R DV
  | 0 => fun _ => .no
  | j + 1 => runD 3 (b__law_equal (l__law_equal j))
def m__law_equal : List DV → R DV := l__law_equal 12
def b_is_whole : Env → SO := (mRet (dAnd (mIs (dVar 0) "int") (dNot (mIs (dVar 0) "bool"))))
def m_is_whole : List DV → R DV := runD 1 b_is_whole
def b__is_row : Env → SO := (mSeq (mIf (tOrD (tNotD (dTru (mIs (dVar 0) "tuple"))) (tNotD (dTru (dCB (one (gBools fun bs => bs.all id)) (aCons (mLc (mItems (dVar 0)) (gName 2) kTrue (dAnd (dCall 1 m_is_whole (aCons (dVar 2) aNil)) (dChn (cOrd oLe) (cOrd oLt) (kInt 0) (dVar 2) (dVar 1))) [2]) aNil))))) (mRet (kBl false)) mPass)
    (mRet (dCB (one (gBools fun bs => bs.all id)) (aCons (mLc (mRg1 (dBin (opInt fSub) (dCB (one gLen) (aCons (dVar 0) aNil)) (kInt 1))) (gName 3) kTrue (dBin (cOrd oLt) (dBin ixD (dVar 0) (dVar 3)) (dBin ixD (dVar 0) (dBin opAdd (dVar 3) (kInt 1)))) [3]) aNil))))
def m__is_row : List DV → R DV := runD 4 b__is_row
def b_is_graph : Env → SO := (mRet (dAnd (mIs (dVar 0) "tuple") (dCB (one (gBools fun bs => bs.all id)) (aCons (mLc (mEnum (dVar 0)) (gTup 2 (gsCons (gName 1) (gsCons (gName 2) gsNil))) kTrue (dCall 2 m__is_row (aCons (dVar 2) (aCons (dVar 1) aNil))) [1, 2]) aNil))))
def m_is_graph : List DV → R DV := runD 3 b_is_graph
def b_need_graph : Env → SO := (mIf (tNotD (dTru (dCall 1 m_is_graph (aCons (dVar 0) aNil)))) (mRaise "InvalidGraph" ["value"] (aCons (dVar 0) aNil)) mPass)
def m_need_graph : List DV → R DV := runD 1 b_need_graph
def b_tails_of_L1 : Env → SO := (sPut 1 (dCB (two (gI2 fun i j => if j > i then j else i)) (aCons (dBin ixD (dVar 1) (dVar 4)) (aCons (dBin opAdd (dBin ixD (dVar 1) (dVar 3)) (kInt 1)) aNil))) (dVar 4))
def b_tails_of_L2 : Env → SO := (sFor (mItems (dBin ixD (dVar 0) (dVar 3))) (gName 4) b_tails_of_L1)
def b_tails_of : Env → SO := (mSeq (sSet 1 (mLc (mItems (dVar 0)) (gName 2) kTrue (kInt 0) [2]))
    (mSeq (sFor (fun ρ => ((dBin (opInt fSub) (dCB (one gLen) (aCons (dVar 0) aNil)) (kInt 1)) ρ).bind fun x => ((mNeg (kInt 1)) ρ).bind fun y => ((mNeg (kInt 1)) ρ).bind fun z => rg3 x y z) (gName 3) b_tails_of_L2)
    (retV 1)))
def m_tails_of : List DV → R DV := runD 5 b_tails_of
def b_heads_of_L1 : Env → SO := (methS gAppend 1 (aCons (dBin gMaxDef (mLc (mItems (dVar 2)) (gName 3) kTrue (dBin opAdd (dBin ixD (dVar 1) (dVar 3)) (kInt 1)) [3]) (kInt 0)) aNil))
def b_heads_of : Env → SO := (mSeq (sSet 1 (mLst aNil))
    (mSeq (sFor (mItems (dVar 0)) (gName 2) b_heads_of_L1)
    (retV 1)))
def m_heads_of : List DV → R DV := runD 4 b_heads_of
def b_span_of : Env → SO := (mRet (dBin gMaxDef (mLc (mItems (dCall 1 m_heads_of (aCons (dVar 0) aNil))) (gName 1) kTrue (dBin opAdd (dVar 1) (kInt 1)) [1]) (kInt 0)))
def m_span_of : List DV → R DV := runD 2 b_span_of
def b_longest_way_L1 : Env → SO := (mIf (tAndD (dCmp (cEq id) (dBin ixD (dVar 1) (dVar 4)) (dBin (opInt fSub) (dBin (opInt fSub) (dVar 2) (dCB (one gLen) (aCons (dVar 3) aNil))) (kInt 1))) (tOrD (tNotD (dTru (dVar 3))) (dCmp (cIn id) (dBin ixD (dVar 3) (mNeg (kInt 1))) (dVar 5)))) (methS gAppend 3 (aCons (dVar 4) aNil)) mPass)
def b_longest_way : Env → SO := (mSeq (mExpr (dCall 1 m_need_graph (aCons (dVar 0) aNil)))
    (mSeq (sSet 1 (dCall 1 m_tails_of (aCons (dVar 0) aNil)))
    (mSeq (sSet 2 (dCall 1 m_span_of (aCons (dVar 0) aNil)))
    (mSeq (sSet 3 (mLst aNil))
    (mSeq (sFor (mEnum (dVar 0)) (gTup 2 (gsCons (gName 4) (gsCons (gName 5) gsNil))) b_longest_way_L1)
    (mRet (dCB (one gTuple) (aCons (dVar 3) aNil))))))))
def m_longest_way : List DV → R DV := runD 6 b_longest_way
def b__need_nodes_L1 : Env → SO := (mIf (tOrD (tNotD (dTru (dCall 1 m_is_whole (aCons (dVar 2) aNil)))) (tNotD (fun ρ => (dChn (cOrd oLe) (cOrd oLt) (kInt 0) (dVar 2) (dCB (one gLen) (aCons (dVar 0) aNil)) ρ).bind boolD))) (mRaise "InvalidNumber" ["value"] (aCons (dVar 2) aNil)) mPass)
def b__need_nodes : Env → SO := (sFor (mItems (dVar 1)) (gName 2) b__need_nodes_L1)
def m__need_nodes : List DV → R DV := runD 3 b__need_nodes
def b_behind_L1 : Env → SO := (mIf (dTru (dCB (one (gBools fun bs => bs.any id)) (aCons (mLc (mItems (dVar 4)) (gName 5) kTrue (dBin (cIn id) (dVar 5) (dVar 2)) [5]) aNil))) (sPut 2 (kBl true) (dVar 3)) mPass)
def b_behind : Env → SO := (mSeq (sSet 2 (mDk1 (dVar 1) (kBl true)))
    (mSeq (sFor (mEnum (dVar 0)) (gTup 2 (gsCons (gName 3) (gsCons (gName 4) gsNil))) b_behind_L1)
    (mRet (mLc (mItems (dCB (one gSorted) (aCons (dCB (one gListD) (aCons (dVar 2) aNil)) aNil))) (gName 3) (dCmp (cEq (!·)) (dVar 3) (dVar 1)) (dVar 3) [3]))))
def m_behind : List DV → R DV := runD 6 b_behind
def b_is_ahead : Env → SO := (mSeq (mExpr (dCall 1 m_need_graph (aCons (dVar 0) aNil)))
    (mSeq (mExpr (dCall 2 m__need_nodes (aCons (dVar 0) (aCons (mTup (aCons (dVar 1) (aCons (dVar 2) aNil))) aNil))))
    (mRet (dBin (cIn id) (dVar 2) (dCall 2 m_behind (aCons (dVar 0) (aCons (dVar 1) aNil)))))))
def m_is_ahead : List DV → R DV := runD 3 b_is_ahead
def b_beside : Env → SO := (mSeq (mExpr (dCall 1 m_need_graph (aCons (dVar 0) aNil)))
    (mSeq (mExpr (dCall 2 m__need_nodes (aCons (dVar 0) (aCons (mTup (aCons (dVar 1) aNil)) aNil))))
    (mSeq (sSet 2 (dCall 2 m_behind (aCons (dVar 0) (aCons (dVar 1) aNil))))
    (mRet (dCB (one gTuple) (aCons (mLc (mRg1 (dCB (one gLen) (aCons (dVar 0) aNil))) (gName 3) (tAndD (dCmp (cEq (!·)) (dVar 3) (dVar 1)) (tAndD (dCmp (cIn (!·)) (dVar 3) (dVar 2)) (dCmp (cIn (!·)) (dVar 1) (dCall 2 m_behind (aCons (dVar 0) (aCons (dVar 3) aNil)))))) (dVar 3) [3]) aNil))))))
def m_beside : List DV → R DV := runD 4 b_beside
def b_work : Env → SO := (mSeq (mExpr (dCall 1 m_need_graph (aCons (dVar 0) aNil)))
    (mRet (dCB (one gLen) (aCons (dVar 0) aNil))))
def m_work : List DV → R DV := runD 1 b_work
def b_heads : Env → SO := (mSeq (mExpr (dCall 1 m_need_graph (aCons (dVar 0) aNil)))
    (mRet (dCB (one gTuple) (aCons (dCall 1 m_heads_of (aCons (dVar 0) aNil)) aNil))))
def m_heads : List DV → R DV := runD 1 b_heads
def b_tails : Env → SO := (mSeq (mExpr (dCall 1 m_need_graph (aCons (dVar 0) aNil)))
    (mRet (dCB (one gTuple) (aCons (dCall 1 m_tails_of (aCons (dVar 0) aNil)) aNil))))
def m_tails : List DV → R DV := runD 1 b_tails
def b_span : Env → SO := (mSeq (mExpr (dCall 1 m_need_graph (aCons (dVar 0) aNil)))
    (mRet (dCall 1 m_span_of (aCons (dVar 0) aNil))))
def m_span : List DV → R DV := runD 1 b_span
def b__law_asked : Env → SO := (mSeq (mIf (dCmp (cEq id) (dVar 0) (kInt 0)) (mRet (dCall 3 m_is_ahead (aCons (dVar 1) (aCons (dVar 2) (aCons (dVar 3) aNil))))) mPass)
    (mSeq (mIf (dCmp (cEq id) (dVar 0) (kInt 1)) (mRet (dCall 2 m_beside (aCons (dVar 1) (aCons (dVar 2) aNil)))) mPass)
    (mSeq (mIf (dCmp (cEq id) (dVar 0) (kInt 2)) (mRet (dCall 1 m_work (aCons (dVar 1) aNil))) mPass)
    (mSeq (mIf (dCmp (cEq id) (dVar 0) (kInt 3)) (mRet (dCall 1 m_heads (aCons (dVar 1) aNil))) mPass)
    (mSeq (mIf (dCmp (cEq id) (dVar 0) (kInt 4)) (mRet (dCall 1 m_tails (aCons (dVar 1) aNil))) mPass)
    (mSeq (mIf (dCmp (cEq id) (dVar 0) (kInt 5)) (mRet (dCall 1 m_span (aCons (dVar 1) aNil))) mPass)
    (mRet (dCall 1 m_longest_way (aCons (dVar 1) aNil)))))))))
def m__law_asked : List DV → R DV := runD 4 b__law_asked
def b__law_told : Env → SO := (mTry (mRet (mTup (aCons (kStr (PySem.Str.ofString "value")) (aCons (dCall 4 m__law_asked (aCons (dVar 0) (aCons (dVar 1) (aCons (dVar 2) (aCons (dVar 3) aNil))))) aNil)))) [([("InvalidGraph", true), ("InvalidNumber", false)], (qTup (qCons (qStr (PySem.Str.ofString "graph")) (qCons (xFld "InvalidGraph" "value") qNil)))), ([("InvalidGraph", false), ("InvalidNumber", true)], (qTup (qCons (qStr (PySem.Str.ofString "number")) (qCons (xFld "InvalidNumber" "value") qNil))))])
def m__law_told : List DV → R DV := runD 6 b__law_told
def b__law_errors_right_L1 : Env → SO := (mFrz 5 (mIf (tNotD (dTru (dCall 2 m__law_equal (aCons (dCall 4 m__law_told (aCons (dVar 6) (aCons (dVar 5) (aCons (dVar 4) (aCons (kInt 0) aNil))))) (aCons (mTup (aCons (kStr (PySem.Str.ofString "graph")) (aCons (dVar 5) aNil))) aNil))))) (mRet (kBl false)) mPass))
def b__law_errors_right : Env → SO := (mSeq (sSet 2 (dCall 3 m__law_draws (aCons (dVar 0) (aCons (kInt 21) (aCons (mLst (aCons (kInt 3) (aCons (kInt 1000) aNil))) aNil)))))
    (mSeq (sSet 3 (dCB (one gLen) (aCons (dVar 1) aNil)))
    (mSeq (mFrz 3 (sSet 4 (dBin ixD (mLst (aCons (dBin (opInt fSub) (mNeg (kInt 1)) (dBin ixD (dVar 2) (kInt 1))) (aCons (dVar 3) (aCons (dBin opAdd (dBin opAdd (dVar 3) (kInt 1)) (dBin ixD (dVar 2) (kInt 1))) aNil)))) (dBin ixD (dVar 2) (kInt 0)))))
    (mSeq (sSet 5 (dCall 2 m__law_no_graph (aCons (dVar 0) (aCons (kInt 20) aNil))))
    (mSeq (sFor (mRg1 (kInt 7)) (gName 6) b__law_errors_right_L1)
    (mSeq (mFrz 4 (mIf (tOrD (tNotD (dTru (dCall 2 m__law_equal (aCons (dCall 4 m__law_told (aCons (kInt 0) (aCons (dVar 1) (aCons (dVar 4) (aCons (mNeg (kInt 1)) aNil))))) (aCons (mTup (aCons (kStr (PySem.Str.ofString "number")) (aCons (dVar 4) aNil))) aNil))))) (tNotD (dTru (dCall 2 m__law_equal (aCons (dCall 4 m__law_told (aCons (kInt 1) (aCons (dVar 1) (aCons (dVar 4) (aCons (kInt 0) aNil))))) (aCons (mTup (aCons (kStr (PySem.Str.ofString "number")) (aCons (dVar 4) aNil))) aNil)))))) (mRet (kBl false)) mPass))
    (mFrz 4 (mRet (dOr (dBin (cEq id) (dVar 3) (kInt 0)) (dCall 2 m__law_equal (aCons (dCall 4 m__law_told (aCons (kInt 0) (aCons (dVar 1) (aCons (kInt 0) (aCons (dVar 4) aNil))))) (aCons (mTup (aCons (kStr (PySem.Str.ofString "number")) (aCons (dVar 4) aNil))) aNil))))))))))))
def m__law_errors_right : List DV → R DV := runD 7 b__law_errors_right
def b__law_tails_L1 : Env → SO := (mIf (dCmp (cOrd oGt) (dBin opAdd (dBin ixD (dVar 1) (dVar 4)) (kInt 1)) (dBin ixD (dVar 1) (dVar 5))) (sPut 1 (dBin opAdd (dBin ixD (dVar 1) (dVar 4)) (kInt 1)) (dVar 5)) mPass)
def b__law_tails_L2 : Env → SO := (mSeq (sSet 4 (dBin (opInt fSub) (dBin (opInt fSub) (dCB (one gLen) (aCons (dVar 0) aNil)) (kInt 1)) (dVar 3)))
    (sFor (mItems (dBin ixD (dVar 0) (dVar 4))) (gName 5) b__law_tails_L1))
def b__law_tails : Env → SO := (mSeq (sSet 1 (mLc (mItems (dVar 0)) (gName 2) kTrue (kInt 0) [2]))
    (mSeq (sFor (mRg1 (dCB (one gLen) (aCons (dVar 0) aNil))) (gName 3) b__law_tails_L2)
    (retV 1)))
def m__law_tails : List DV → R DV := runD 6 b__law_tails
def b__law_heads_L1 : Env → SO := (mIf (dCmp (cOrd oGt) (dBin opAdd (dBin ixD (dVar 1) (dVar 4)) (kInt 1)) (dVar 3)) (sSet 3 (dBin opAdd (dBin ixD (dVar 1) (dVar 4)) (kInt 1))) mPass)
def b__law_heads_L2 : Env → SO := (mSeq (sSet 3 (kInt 0))
    (mSeq (sFor (mItems (dVar 2)) (gName 4) b__law_heads_L1)
    (mFrz 3 (methS gAppend 1 (aCons (dVar 3) aNil)))))
def b__law_heads : Env → SO := (mSeq (sSet 1 (mLst aNil))
    (mSeq (sFor (mItems (dVar 0)) (gName 2) b__law_heads_L2)
    (retV 1)))
def m__law_heads : List DV → R DV := runD 5 b__law_heads
def b__law_span_L1 : Env → SO := (mIf (dCmp (cOrd oGt) (dBin opAdd (dVar 2) (kInt 1)) (dVar 1)) (sSet 1 (dBin opAdd (dVar 2) (kInt 1))) mPass)
def b__law_span : Env → SO := (mSeq (sSet 1 (kInt 0))
    (mSeq (sFor (mItems (dCall 1 m__law_heads (aCons (dVar 0) aNil))) (gName 2) b__law_span_L1)
    (retV 1)))
def m__law_span : List DV → R DV := runD 3 b__law_span
def b__law_longest_L1 : Env → SO := (mSeq (sSet 6 (dAnd (dBin (cEq id) (dBin ixD (dVar 1) (dVar 5)) (dBin (opInt fSub) (dBin (opInt fSub) (dVar 2) (kInt 1)) (dVar 4))) (dOr (dBin (cEq id) (dCB (one gLen) (aCons (dVar 3) aNil)) (kInt 0)) (dBin (cIn id) (dBin ixD (dVar 3) (mNeg (kInt 1))) (dBin ixD (dVar 0) (dVar 5))))))
    (mIf (tAndD (dTru (dVar 6)) (dCmp (cEq id) (dCB (one gLen) (aCons (dVar 3) aNil)) (dVar 4))) (methS gAppend 3 (aCons (dVar 5) aNil)) mPass))
def b__law_longest_L2 : Env → SO := (sFor (mRg1 (dCB (one gLen) (aCons (dVar 0) aNil))) (gName 5) b__law_longest_L1)
def b__law_longest : Env → SO := (mSeq (sSet 1 (dCall 1 m__law_tails (aCons (dVar 0) aNil)))
    (mSeq (sSet 2 (dCall 1 m__law_span (aCons (dVar 0) aNil)))
    (mSeq (sSet 3 (mLst aNil))
    (mSeq (sFor (mRg1 (dVar 2)) (gName 4) b__law_longest_L2)
    (mRet (dCB (one gTuple) (aCons (dVar 3) aNil)))))))
def m__law_longest : List DV → R DV := runD 7 b__law_longest
def b_law_L1 : Env → SO := (mIf (tNotD (dTru (dCall 2 m__law_equal (aCons (dCall 3 m_is_ahead (aCons (dVar 1) (aCons (dVar 4) (aCons (dVar 6) aNil)))) (aCons (dBin ixD (dBin ixD (dVar 3) (dVar 4)) (dVar 6)) aNil))))) (mRet (kBl false)) mPass)
def b_law_L2 : Env → SO := (mSeq (sSet 5 (dCB (one gTuple) (aCons (mLc (mRg1 (dVar 2)) (gName 6) (tAndD (dCmp (cEq (!·)) (dVar 6) (dVar 4)) (tAndD (tNotD (dTru (dBin ixD (dBin ixD (dVar 3) (dVar 4)) (dVar 6)))) (tNotD (dTru (dBin ixD (dBin ixD (dVar 3) (dVar 6)) (dVar 4)))))) (dVar 6) [6]) aNil)))
    (mSeq (mIf (tNotD (dTru (dCall 2 m__law_equal (aCons (dCall 2 m_beside (aCons (dVar 1) (aCons (dVar 4) aNil))) (aCons (dVar 5) aNil))))) (mRet (kBl false)) mPass)
    (sFor (mRg1 (dVar 2)) (gName 6) b_law_L1)))
def b_law : Env → SO := (mSeq (sSet 1 (dCall 3 m__law_graph (aCons (dVar 0) (aCons (kInt 0) (aCons (kInt 14) aNil)))))
    (mSeq (sSet 2 (dCB (one gLen) (aCons (dVar 1) aNil)))
    (mSeq (sSet 3 (dCall 1 m__law_far (aCons (dVar 1) aNil)))
    (mSeq (mIf (tOrD (dCmp (isBoolD (!·)) (dCall 1 m_is_graph (aCons (dVar 1) aNil)) (kBl true)) (tOrD (tNotD (dTru (dCall 2 m__law_equal (aCons (dCall 1 m_work (aCons (dVar 1) aNil)) (aCons (dVar 2) aNil))))) (tNotD (dTru (dCall 2 m__law_equal (aCons (dCall 1 m_span (aCons (dVar 1) aNil)) (aCons (dCall 1 m__law_span (aCons (dVar 1) aNil)) aNil))))))) (mRet (kBl false)) mPass)
    (mSeq (mIf (tNotD (dTru (dCall 2 m__law_equal (aCons (dCall 1 m_heads (aCons (dVar 1) aNil)) (aCons (dCB (one gTuple) (aCons (dCall 1 m__law_heads (aCons (dVar 1) aNil)) aNil)) aNil))))) (mRet (kBl false)) mPass)
    (mSeq (mIf (tNotD (dTru (dCall 2 m__law_equal (aCons (dCall 1 m_tails (aCons (dVar 1) aNil)) (aCons (dCB (one gTuple) (aCons (dCall 1 m__law_tails (aCons (dVar 1) aNil)) aNil)) aNil))))) (mRet (kBl false)) mPass)
    (mSeq (mIf (tNotD (dTru (dCall 2 m__law_equal (aCons (dCall 1 m_longest_way (aCons (dVar 1) aNil)) (aCons (dCall 1 m__law_longest (aCons (dVar 1) aNil)) aNil))))) (mRet (kBl false)) mPass)
    (mSeq (sFor (mRg1 (dVar 2)) (gName 4) b_law_L2)
    (mRet (dCall 2 m__law_errors_right (aCons (dVar 0) (aCons (dVar 1) aNil))))))))))))
def m_law : List DV → R DV := runD 7 b_law
end K16
namespace K16
open PySem.Spec L2 FK
open PyProof.Rows hiding St
def topS (i : Nat) : PySem.Stmt := PySem.Challenge.pw_forkspan_k16_heads_tails_spans_ways.main.body.getD i (.Pass ⟨0, 0, 0, 0⟩)
abbrev s__law_draws : PySem.Stmt := topS 22
abbrev n__law_draws : List PySem.Str := ["_law_script", "_law_k", "_law_bounds", "_law_cell", "_law_rest", "_law_drawn", "_law_j", "_law_mixed"]
theorem sc__law_draws : FnScope n__law_draws ["_law_script", "_law_k", "_law_bounds"] (defScope s__law_draws) := ⟨rfl, rfl, rfl, by decide +kernel, rfl, by decide +kernel, by decide +kernel⟩
theorem ok__law_draws {P : PySem.Program} {w : PySem.World} {K : PySem.W.Frag} {mg : PySem.Str → Option PySem.Value} {base : PySem.Heap} {fa : PySem.Addr} {fd : PySem.FuncData} (F : Fun K "_law_draws" "_law_draws" s__law_draws fa fd) (gf : mg "_law_draws" = some (.ref fa)) (bf : Binds K fd ["_law_script", "_law_k", "_law_bounds"] []) (z_len : mg "len" = none) (z_int : mg "int" = none) (z_max : mg "max" = none) (z_range : mg "range" = none) :
    CallOk P w K mg base "_law_draws" 1 3 m__law_draws := by
  refine fn_rule F sc__law_draws rfl gf bf fun cdv A outer s H E hr => ?_
  have d : DSs (bodyX P w K mg base n__law_draws "_law_draws" s__law_draws fa cdv A outer s H E) E (defBody s__law_draws) _ :=
      (dss_cons (ds_set 3 de_int sc__law_draws.nd rfl (Or.inl rfl))
      (dss_cons (ds_set 4 de_int sc__law_draws.nd rfl (Or.inl rfl))
      (dss_cons (ds_if (dt_c (co_lt hr) (de_var 1 (pv 1)) (de_callB cb_len rfl z_len (by decide +kernel) (da_cons (de_var 0 (pv 0)) da_nil))) (dss_cons (ds_set 3 (de_callTy cb_int rfl z_int (by decide +kernel) (da_cons (de_ix hr (de_var 0 (pv 0)) (de_var 1 (pv 1))) da_nil)) sc__law_draws.nd rfl (Or.inl rfl))
      (dss_one (ds_set 4 (de_callB (cb_max2 rfl) rfl z_max (by decide +kernel) (da_cons de_int (da_cons (de_sub (de_var 3 (pv 3)) (de_pow de_int de_int)) da_nil))) sc__law_draws.nd rfl (Or.inl rfl)))) (dss_one (ds_if (dt_c (co_gt hr) (de_callB cb_len rfl z_len (by decide +kernel) (da_cons (de_var 0 (pv 0)) da_nil)) de_int) (dss_one (ds_set 3 (de_callTy cb_int rfl z_int (by decide +kernel) (da_cons (de_ix hr (de_var 0 (pv 0)) (de_mod (de_callTy cb_int rfl z_int (by decide +kernel) (da_cons (de_var 1 (pv 1)) da_nil)) (de_callB cb_len rfl z_len (by decide +kernel) (da_cons (de_var 0 (pv 0)) da_nil)))) da_nil)) sc__law_draws.nd rfl (Or.inl rfl))) dss_nil)))
      (dss_cons (ds_set 5 (de_lst da_nil) sc__law_draws.nd rfl (Or.inl rfl))
      (dss_cons (ds_for body_own rfl (di_range1 rfl z_range (de_callB cb_len rfl z_len (by decide +kernel) (da_cons (de_var 2 (pv 2)) da_nil))) (dg_name 6 sc__law_draws.nd rfl (Or.inl rfl)) (dss_one (ds_if (dt_c (co_gt hr) (de_var 4 (pv 4)) de_int) (dss_cons (ds_append 5 (pv 5) (de_mod (de_callTy cb_int rfl z_int (by decide +kernel) (da_cons (de_var 4 (pv 4)) da_nil)) (de_ix hr (de_var 2 (pv 2)) (de_var 6 (pv 6)))))
      (dss_one (ds_set 4 (de_div (de_var 4 (pv 4)) (de_ix hr (de_var 2 (pv 2)) (de_var 6 (pv 6)))) sc__law_draws.nd rfl (Or.inl rfl)))) (dss_cons (ds_set 7 (de_mod (de_callTy cb_int rfl z_int (by decide +kernel) (da_cons (de_add (de_add (de_add (de_mul (de_var 3 (pv 3)) de_int) (de_mul (de_var 1 (pv 1)) de_int)) (de_mul (de_var 6 (pv 6)) de_int)) de_int) da_nil)) de_int) sc__law_draws.nd rfl (Or.inl rfl))
      (dss_cons (ds_set 7 (de_mod (de_callTy cb_int rfl z_int (by decide +kernel) (da_cons (de_add (de_add (de_mul (de_var 7 (pv 7)) (de_var 7 (pv 7))) (de_mul (de_var 6 (pv 6)) de_int)) de_int) da_nil)) de_int) sc__law_draws.nd rfl (Or.inl rfl))
      (dss_cons (ds_set 7 (de_mod (de_callTy cb_int rfl z_int (by decide +kernel) (da_cons (de_add (de_add (de_mul (de_var 7 (pv 7)) (de_var 7 (pv 7))) (de_mul (de_var 7 (pv 7)) de_int)) de_int) da_nil)) de_int) sc__law_draws.nd rfl (Or.inl rfl))
      (dss_one (ds_append 5 (pv 5) (de_mod (de_div (de_var 7 (pv 7)) de_int) (de_ix hr (de_var 2 (pv 2)) (de_var 6 (pv 6))))))))))))
      (dss_one (ds_retV 5 (pv 5))))))))
  exact d
abbrev s__law_graph : PySem.Stmt := topS 24
abbrev n__law_graph : List PySem.Str := ["_law_script", "_law_k", "_law_most", "_law_drawn", "_law_graph_here", "_law_i", "_law_row", "_law_number", "_law_behind", "_law_j", "_law_near"]
theorem sc__law_graph : FnScope n__law_graph ["_law_script", "_law_k", "_law_most"] (defScope s__law_graph) := ⟨rfl, rfl, rfl, by decide +kernel, rfl, by decide +kernel, by decide +kernel⟩
theorem ok__law_graph {P : PySem.Program} {w : PySem.World} {K : PySem.W.Frag} {mg : PySem.Str → Option PySem.Value} {base : PySem.Heap} {fa : PySem.Addr} {fd : PySem.FuncData} (F : Fun K "_law_graph" "_law_graph" s__law_graph fa fd) (gf : mg "_law_graph" = some (.ref fa)) (bf : Binds K fd ["_law_script", "_law_k", "_law_most"] []) (c__law_draws : CallOk P w K mg base "_law_draws" 1 3 m__law_draws) (z_range : mg "range" = none) (z_int : mg "int" = none) (z_tuple : mg "tuple" = none) :
    CallOk P w K mg base "_law_graph" 2 3 m__law_graph := by
  refine fn_rule F sc__law_graph rfl gf bf fun cdv A outer s H E hr => ?_
  have d : DSs (bodyX P w K mg base n__law_graph "_law_graph" s__law_graph fa cdv A outer s H E) E (defBody s__law_graph) _ :=
      (dss_cons (ds_set 3 (de_call c__law_draws (hr.mono (by decide)) rfl body_passes (da_cons (de_var 0 (pv 0)) (da_cons (de_var 1 (pv 1)) (da_cons (de_lst (da_cons (de_add de_int (de_var 2 (pv 2))) (da_cons de_int da_nil))) da_nil)))) sc__law_graph.nd rfl (Or.inl rfl))
      (dss_cons (ds_set 4 (de_lst da_nil) sc__law_graph.nd rfl (Or.inl rfl))
      (dss_cons (ds_for body_own rfl (di_range1 rfl z_range (de_ix hr (de_var 3 (pv 3)) de_int)) (dg_name 5 sc__law_graph.nd rfl (Or.inl rfl)) (dss_cons (ds_set 6 (de_call c__law_draws (hr.mono (by decide)) rfl body_passes (da_cons (de_var 0 (pv 0)) (da_cons (de_add (de_add (de_var 1 (pv 1)) de_int) (de_mod (de_callTy cb_int rfl z_int (by decide +kernel) (da_cons (de_var 5 (pv 5)) da_nil)) de_int)) (da_cons (de_lst (da_cons de_int (da_cons de_int da_nil))) da_nil)))) sc__law_graph.nd rfl (Or.inl rfl))
      (dss_cons (ds_set 7 (de_ix hr (de_var 6 (pv 6)) de_int) sc__law_graph.nd rfl (Or.inl rfl))
      (dss_cons (ds_set 8 (de_lst da_nil) sc__law_graph.nd rfl (Or.inl rfl))
      (dss_cons (ds_for body_own rfl (di_range1 rfl z_range (de_var 5 (pv 5))) (dg_name 9 sc__law_graph.nd rfl (Or.inl rfl)) (dss_cons (ds_set 10 (de_c (co_ge hr) (de_var 9 (pv 9)) (de_sub (de_var 5 (pv 5)) de_int)) sc__law_graph.nd rfl (Or.inl rfl))
      (dss_cons (ds_if (dt_c (co_eq hr) (de_ix hr (de_var 3 (pv 3)) de_int) de_int) (dss_one (ds_set 10 (de_c (co_eq hr) (de_var 9 (pv 9)) (de_sub (de_var 5 (pv 5)) de_int)) sc__law_graph.nd rfl (Or.inl rfl))) dss_nil)
      (dss_cons (ds_if (dt_c (co_eq hr) (de_ix hr (de_var 3 (pv 3)) de_int) de_int) (dss_one (ds_set 10 (de_c (co_eq hr) (de_div (de_var 9 (pv 9)) de_int) (de_sub (de_div (de_var 5 (pv 5)) de_int) de_int)) sc__law_graph.nd rfl (Or.inl rfl))) dss_nil)
      (dss_cons (ds_if (DW.dt (dw_and (dt_truth (de_var 10 (pv 10))) (dw_and1 (dt_c (co_gt hr) (de_add (de_mod (de_callTy cb_int rfl z_int (by decide +kernel) (da_cons (de_var 7 (pv 7)) da_nil)) de_int) (de_callTy cb_int rfl z_int (by decide +kernel) (da_cons (de_and (de_c (co_lt hr) (de_ix hr (de_var 3 (pv 3)) de_int) de_int) (de_one (de_c (co_gt hr) (de_ix hr (de_var 6 (pv 6)) de_int) de_int))) da_nil))) de_int)))) (dss_one (ds_append 8 (pv 8) (de_var 9 (pv 9)))) dss_nil)
      (dss_one (ds_if (dt_truth (de_var 10 (pv 10))) (dss_one (ds_set 7 (de_div (de_var 7 (pv 7)) de_int) sc__law_graph.nd rfl (Or.inl rfl))) dss_nil)))))))
      (dss_cons (ds_if (DW.dt (dw_and (dt_c (co_eq hr) (de_ix hr (de_var 3 (pv 3)) de_int) de_int) (dw_and1 (dt_c (co_lt hr) (de_ix hr (de_var 6 (pv 6)) de_int) de_int)))) (dss_one (ds_set 8 (de_lst da_nil) sc__law_graph.nd rfl (Or.inl rfl))) dss_nil)
      (dss_one (ds_append 4 (pv 4) (de_callTy cb_tuple rfl z_tuple (by decide +kernel) (da_cons (de_var 8 (pv 8)) da_nil))))))))))
      (dss_one (ds_ret (de_callTy cb_tuple rfl z_tuple (by decide +kernel) (da_cons (de_var 4 (pv 4)) da_nil)))))))
  exact d
abbrev s__law_far : PySem.Stmt := topS 29
abbrev n__law_far : List PySem.Str := ["_law_graph_here", "_law_far_here", "_law_j", "_law_i", "_law_k", "_law_line"]
theorem sc__law_far : FnScope n__law_far ["_law_graph_here"] (defScope s__law_far) := ⟨rfl, rfl, rfl, by decide +kernel, rfl, by decide +kernel, by decide +kernel⟩
theorem ok__law_far {P : PySem.Program} {w : PySem.World} {K : PySem.W.Frag} {mg : PySem.Str → Option PySem.Value} {base : PySem.Heap} {fa : PySem.Addr} {fd : PySem.FuncData} (F : Fun K "_law_far" "_law_far" s__law_far fa fd) (gf : mg "_law_far" = some (.ref fa)) (bf : Binds K fd ["_law_graph_here"] []) (z_len : mg "len" = none) (z_range : mg "range" = none) :
    CallOk P w K mg base "_law_far" 1 1 m__law_far := by
  refine fn_rule F sc__law_far rfl gf bf fun cdv A outer s H E hr => ?_
  have d : DSs (bodyX P w K mg base n__law_far "_law_far" s__law_far fa cdv A outer s H E) E (defBody s__law_far) mFar := by
    refine' far_rule body_own rfl ?iA ?h1 ?hL ?hS ?hP ?iK ?gK ?iJ ?gJ ?hR
    case h1 => exact mat_asg (own := [("_law_i", 3)]) 1 rfl sc__law_far.nd rfl rfl (sw_true rfl rfl rfl (by decide +kernel)) (blkOk_by (own := [("_law_i", 3)]) (N := n__law_far) (by kernel_rfl)) (fun _ _ _ _ _ => (dg_name 3 sc__law_far.nd rfl (Or.inl rfl))) (fun _ _ _ _ _ => dts_nil) (fun _ _ _ _ _ => (de_lc (own := [("_law_j", 2)]) rfl sc__law_far.nd (di_seq (de_var 0 (pv 0))) (blkOk_by (own := [("_law_j", 2)]) (N := n__law_far) (by kernel_rfl)) (by decide) (fun _ _ _ _ _ => (dg_name 2 sc__law_far.nd rfl (Or.inl rfl))) (fun _ _ _ _ _ => dts_nil) (fun _ _ _ _ _ => de_bl)))
    case iA => exact di_seq (de_var 0 (pv 0))
    case hL => exact ps_for body_own rfl (pi_list (pv 1)) (pg_name sc__law_far.nd rfl (Or.inl rfl)) (pss_one (ps_if (pt_truth (pe_ix ix_list (pv 5) (pv 2) (fun _ _ => rfl)) (by intro _; rfl)) (pss_one (ps_asg pe_bl (pg_sub (pv 5) (pv 4) set_list))) pss_nil))
    case hS => exact ps_set sc__law_far.nd rfl (Or.inl rfl) (pe_ix ix_list (pv 1) (pv 2) (fun _ _ => rfl))
    case hP => exact ps_asg pe_bl (pg_sub (pv 5) (pv 4) set_list)
    case iK => exact di_range1 rfl z_range (de_callB cb_len rfl z_len (by decide +kernel) (da_cons (de_var 0 (pv 0)) da_nil))
    case gK => exact dg_name 4 sc__law_far.nd rfl (Or.inl rfl)
    case iJ => exact di_seq (de_ix hr (de_var 0 (pv 0)) (de_var 4 (pv 4)))
    case gJ => exact dg_name 2 sc__law_far.nd rfl (Or.inl rfl)
    case hR => exact pv 1
  exact d
abbrev s__law_no_graph : PySem.Stmt := topS 28
abbrev n__law_no_graph : List PySem.Str := ["_law_script", "_law_k", "_law_drawn"]
theorem sc__law_no_graph : FnScope n__law_no_graph ["_law_script", "_law_k"] (defScope s__law_no_graph) := ⟨rfl, rfl, rfl, by decide +kernel, rfl, by decide +kernel, by decide +kernel⟩
theorem ok__law_no_graph {P : PySem.Program} {w : PySem.World} {K : PySem.W.Frag} {mg : PySem.Str → Option PySem.Value} {base : PySem.Heap} {fa : PySem.Addr} {fd : PySem.FuncData} (F : Fun K "_law_no_graph" "_law_no_graph" s__law_no_graph fa fd) (gf : mg "_law_no_graph" = some (.ref fa)) (bf : Binds K fd ["_law_script", "_law_k"] []) (c__law_draws : CallOk P w K mg base "_law_draws" 1 3 m__law_draws) :
    CallOk P w K mg base "_law_no_graph" 2 2 m__law_no_graph := by
  refine fn_rule F sc__law_no_graph rfl gf bf fun cdv A outer s H E hr => ?_
  have d : DSs (bodyX P w K mg base n__law_no_graph "_law_no_graph" s__law_no_graph fa cdv A outer s H E) E (defBody s__law_no_graph) _ :=
      (dss_cons (ds_set 2 (de_call c__law_draws (hr.mono (by decide)) rfl body_passes (da_cons (de_var 0 (pv 0)) (da_cons (de_var 1 (pv 1)) (da_cons (de_lst (da_cons de_int da_nil)) da_nil)))) sc__law_no_graph.nd rfl (Or.inl rfl))
      (dss_one (ds_ret (de_ix hr (de_lst (da_cons de_non (da_cons (de_tup (da_cons (de_tup (da_cons de_int da_nil)) da_nil)) (da_cons (de_tup (da_cons (de_tup da_nil) (da_cons (de_tup (da_cons de_int da_nil)) da_nil))) (da_cons (de_tup (da_cons (de_tup da_nil) (da_cons (de_tup (da_cons de_int (da_cons de_int da_nil))) da_nil))) (da_cons (de_tup (da_cons (de_tup da_nil) (da_cons (de_tup (da_cons (de_neg de_int) da_nil)) da_nil))) (da_cons de_int (da_cons (de_tup (da_cons (de_tup da_nil) (da_cons (de_tup da_nil) (da_cons (de_tup (da_cons de_int (da_cons de_int da_nil))) da_nil)))) (da_cons (de_tup (da_cons de_non da_nil)) da_nil))))))))) (de_ix hr (de_var 2 (pv 2)) de_int)))))
  exact d
abbrev s__law_equal : PySem.Stmt := topS 23
abbrev n__law_equal : List PySem.Str := ["_law_actual", "_law_expected", "_law_k"]
theorem sc__law_equal : FnScope n__law_equal ["_law_actual", "_law_expected"] (defScope s__law_equal) := ⟨rfl, rfl, rfl, by decide +kernel, rfl, by decide +kernel, by decide +kernel⟩
theorem ok__law_equal {P : PySem.Program} {w : PySem.World} {K : PySem.W.Frag} {mg : PySem.Str → Option PySem.Value} {base : PySem.Heap} {fa : PySem.Addr} {fd : PySem.FuncData} (F : Fun K "_law_equal" "_law_equal" s__law_equal fa fd) (gf : mg "_law_equal" = some (.ref fa)) (bf : Binds K fd ["_law_actual", "_law_expected"] []) (z_isinstance : mg "isinstance" = none) (z_bool : mg "bool" = none) (z_int : mg "int" = none) (z_str : mg "str" = none) (z_len : mg "len" = none) (z_tuple : mg "tuple" = none) (z_range : mg "range" = none) : ∀ j : Nat,
    CallOk P w K mg base "_law_equal" (0 + j) 2 (l__law_equal j)
  | 0 => call_zero gf F.kp bf rfl
  | j + 1 => by
    have c_self := ok__law_equal (P := P) (w := w) (base := base) F gf bf z_isinstance z_bool z_int z_str z_len z_tuple z_range j
    refine fn_rule (k := 0 + j) F sc__law_equal rfl gf bf fun cdv A outer s H E hr => ?_
    have d : DSs (bodyX P w K mg base n__law_equal "_law_equal" s__law_equal fa cdv A outer s H E) E (defBody s__law_equal) _ :=
      (dss_cons (ds_if (dt_c (co_is) (de_var 1 (pv 1)) de_non) (dss_one (ds_ret (de_c (co_is) (de_var 0 (pv 0)) de_non))) dss_nil)
      (dss_cons (ds_if (dt_truth (de_isinst (x := "bool") (T := "bool") rfl z_isinstance (de_var 1 (pv 1)) rfl z_bool (by decide +kernel))) (dss_one (ds_ret (de_and (de_isinst (x := "bool") (T := "bool") rfl z_isinstance (de_var 0 (pv 0)) rfl z_bool (by decide +kernel)) (de_one (de_c (co_eq hr) (de_var 0 (pv 0)) (de_var 1 (pv 1))))))) dss_nil)
      (dss_cons (ds_if (dt_truth (de_isinst (x := "int") (T := "int") rfl z_isinstance (de_var 1 (pv 1)) rfl z_int (by decide +kernel))) (dss_one (ds_ret (de_and (de_isinst (x := "int") (T := "int") rfl z_isinstance (de_var 0 (pv 0)) rfl z_int (by decide +kernel)) (de_and (de_not (de_isinst (x := "bool") (T := "bool") rfl z_isinstance (de_var 0 (pv 0)) rfl z_bool (by decide +kernel))) (de_one (de_c (co_eq hr) (de_var 0 (pv 0)) (de_var 1 (pv 1)))))))) dss_nil)
      (dss_cons (ds_if (dt_truth (de_isinst (x := "str") (T := "str") rfl z_isinstance (de_var 1 (pv 1)) rfl z_str (by decide +kernel))) (dss_one (ds_ret (de_and (de_isinst (x := "str") (T := "str") rfl z_isinstance (de_var 0 (pv 0)) rfl z_str (by decide +kernel)) (de_one (de_c (co_eq hr) (de_var 0 (pv 0)) (de_var 1 (pv 1))))))) dss_nil)
      (dss_cons (ds_if (DW.dt (dw_or (dt_not (dt_truth (de_isinst (x := "tuple") (T := "tuple") rfl z_isinstance (de_var 0 (pv 0)) rfl z_tuple (by decide +kernel)))) (dw_or1 (dt_c (co_ne hr) (de_callB cb_len rfl z_len (by decide +kernel) (da_cons (de_var 0 (pv 0)) da_nil)) (de_callB cb_len rfl z_len (by decide +kernel) (da_cons (de_var 1 (pv 1)) da_nil)))))) (dss_one (ds_ret de_bl)) dss_nil)
      (dss_cons (ds_for body_own rfl (di_range1 rfl z_range (de_callB cb_len rfl z_len (by decide +kernel) (da_cons (de_var 1 (pv 1)) da_nil))) (dg_name 2 sc__law_equal.nd rfl (Or.inl rfl)) (dss_one (ds_if (dt_not (dt_truth (de_call c_self hr rfl body_passes (da_cons (de_ix hr (de_var 0 (pv 0)) (de_var 2 (pv 2))) (da_cons (de_ix hr (de_var 1 (pv 1)) (de_var 2 (pv 2))) da_nil))))) (dss_one (ds_ret de_bl)) dss_nil)))
      (dss_one (ds_ret de_bl))))))))
    exact d
abbrev s_is_whole : PySem.Stmt := topS 5
abbrev n_is_whole : List PySem.Str := ["value"]
theorem sc_is_whole : FnScope n_is_whole ["value"] (defScope s_is_whole) := ⟨rfl, rfl, rfl, by decide +kernel, rfl, by decide +kernel, by decide +kernel⟩
theorem ok_is_whole {P : PySem.Program} {w : PySem.World} {K : PySem.W.Frag} {mg : PySem.Str → Option PySem.Value} {base : PySem.Heap} {fa : PySem.Addr} {fd : PySem.FuncData} (F : Fun K "is_whole" "is_whole" s_is_whole fa fd) (gf : mg "is_whole" = some (.ref fa)) (bf : Binds K fd ["value"] []) (z_isinstance : mg "isinstance" = none) (z_bool : mg "bool" = none) (z_int : mg "int" = none) :
    CallOk P w K mg base "is_whole" 1 1 m_is_whole := by
  refine fn_rule F sc_is_whole rfl gf bf fun cdv A outer s H E hr => ?_
  have d : DSs (bodyX P w K mg base n_is_whole "is_whole" s_is_whole fa cdv A outer s H E) E (defBody s_is_whole) _ :=
      (dss_one (ds_ret (de_and (de_isinst (x := "int") (T := "int") rfl z_isinstance (de_var 0 (pv 0)) rfl z_int (by decide +kernel)) (de_one (de_not (de_isinst (x := "bool") (T := "bool") rfl z_isinstance (de_var 0 (pv 0)) rfl z_bool (by decide +kernel)))))))
  exact d
abbrev s__is_row : PySem.Stmt := topS 6
abbrev n__is_row : List PySem.Str := ["value", "at", "one", "k"]
theorem sc__is_row : FnScope n__is_row ["value", "at"] (defScope s__is_row) := ⟨rfl, rfl, rfl, by decide +kernel, rfl, by decide +kernel, by decide +kernel⟩
theorem ok__is_row {P : PySem.Program} {w : PySem.World} {K : PySem.W.Frag} {mg : PySem.Str → Option PySem.Value} {base : PySem.Heap} {fa : PySem.Addr} {fd : PySem.FuncData} (F : Fun K "_is_row" "_is_row" s__is_row fa fd) (gf : mg "_is_row" = some (.ref fa)) (bf : Binds K fd ["value", "at"] []) (c_is_whole : CallOk P w K mg base "is_whole" 1 1 m_is_whole) (z_all : mg "all" = none) (z_isinstance : mg "isinstance" = none) (z_tuple : mg "tuple" = none) (z_len : mg "len" = none) (z_range : mg "range" = none) :
    CallOk P w K mg base "_is_row" 2 2 m__is_row := by
  refine fn_rule F sc__is_row rfl gf bf fun cdv A outer s H E hr => ?_
  have d : DSs (bodyX P w K mg base n__is_row "_is_row" s__is_row fa cdv A outer s H E) E (defBody s__is_row) _ :=
      (dss_cons (ds_if (DW.dt (dw_or (dt_not (dt_truth (de_isinst (x := "tuple") (T := "tuple") rfl z_isinstance (de_var 0 (pv 0)) rfl z_tuple (by decide +kernel)))) (dw_or1 (dt_not (dt_truth (de_callB (cb_all rfl) rfl z_all (by decide +kernel) (da_cons (de_lc rfl sc__is_row.nd (di_seq (de_var 0 (pv 0))) (blkOk_by (own := [("one", 2)]) (N := n__is_row) (by kernel_rfl)) (by decide) (fun _ _ _ _ _ => (dg_name 2 sc__is_row.nd rfl (Or.inl rfl))) (fun _ _ _ _ _ => dts_nil) (fun _ _ _ _ _ => (de_and (de_call c_is_whole (hr.mono (by decide)) rfl passL (da_cons (de_var 2 (pv 2)) da_nil)) (de_one (de_chain (co_le hr) (co_lt hr) de_int (de_var 2 (pv 2)) (de_var 1 (pv 1))))))) da_nil))))))) (dss_one (ds_ret de_bl)) dss_nil)
      (dss_one (ds_ret (de_callB (cb_all rfl) rfl z_all (by decide +kernel) (da_cons (de_lc rfl sc__is_row.nd (di_range1 rfl z_range (de_sub (de_callB cb_len rfl z_len (by decide +kernel) (da_cons (de_var 0 (pv 0)) da_nil)) de_int)) (blkOk_by (own := [("k", 3)]) (N := n__is_row) (by kernel_rfl)) (by decide) (fun _ _ _ _ _ => (dg_name 3 sc__is_row.nd rfl (Or.inl rfl))) (fun _ _ _ _ _ => dts_nil) (fun _ _ _ _ _ => (de_c (co_lt hr) (de_ix hr (de_var 0 (pv 0)) (de_var 3 (pv 3))) (de_ix hr (de_var 0 (pv 0)) (de_add (de_var 3 (pv 3)) de_int))))) da_nil)))))
  exact d
abbrev s_is_graph : PySem.Stmt := topS 7
abbrev n_is_graph : List PySem.Str := ["value", "at", "row"]
theorem sc_is_graph : FnScope n_is_graph ["value"] (defScope s_is_graph) := ⟨rfl, rfl, rfl, by decide +kernel, rfl, by decide +kernel, by decide +kernel⟩
theorem ok_is_graph {P : PySem.Program} {w : PySem.World} {K : PySem.W.Frag} {mg : PySem.Str → Option PySem.Value} {base : PySem.Heap} {fa : PySem.Addr} {fd : PySem.FuncData} (F : Fun K "is_graph" "is_graph" s_is_graph fa fd) (gf : mg "is_graph" = some (.ref fa)) (bf : Binds K fd ["value"] []) (c__is_row : CallOk P w K mg base "_is_row" 2 2 m__is_row) (z_enumerate : mg "enumerate" = none) (z_all : mg "all" = none) (z_isinstance : mg "isinstance" = none) (z_tuple : mg "tuple" = none) :
    CallOk P w K mg base "is_graph" 3 1 m_is_graph := by
  refine fn_rule F sc_is_graph rfl gf bf fun cdv A outer s H E hr => ?_
  have d : DSs (bodyX P w K mg base n_is_graph "is_graph" s_is_graph fa cdv A outer s H E) E (defBody s_is_graph) _ :=
      (dss_one (ds_ret (de_and (de_isinst (x := "tuple") (T := "tuple") rfl z_isinstance (de_var 0 (pv 0)) rfl z_tuple (by decide +kernel)) (de_one (de_callB (cb_all rfl) rfl z_all (by decide +kernel) (da_cons (de_lc rfl sc_is_graph.nd (di_enum rfl z_enumerate (de_var 0 (pv 0))) (blkOk_by (own := [("at", 1), ("row", 2)]) (N := n_is_graph) (by kernel_rfl)) (by decide) (fun _ _ _ _ _ => (dg_tup (n := 2) rfl (dgs_cons (dg_name 1 sc_is_graph.nd rfl (Or.inl rfl)) (dgs_cons (dg_name 2 sc_is_graph.nd rfl (Or.inl rfl)) dgs_nil)))) (fun _ _ _ _ _ => dts_nil) (fun _ _ _ _ _ => (de_call c__is_row (hr.mono (by decide)) rfl passL (da_cons (de_var 2 (pv 2)) (da_cons (de_var 1 (pv 1)) da_nil))))) da_nil))))))
  exact d
abbrev s_need_graph : PySem.Stmt := topS 8
abbrev n_need_graph : List PySem.Str := ["graph"]
theorem sc_need_graph : FnScope n_need_graph ["graph"] (defScope s_need_graph) := ⟨rfl, rfl, rfl, by decide +kernel, rfl, by decide +kernel, by decide +kernel⟩
theorem ok_need_graph {P : PySem.Program} {w : PySem.World} {K : PySem.W.Frag} {mg : PySem.Str → Option PySem.Value} {base : PySem.Heap} {fa : PySem.Addr} {fd : PySem.FuncData} (F : Fun K "need_graph" "need_graph" s_need_graph fa fd) (gf : mg "need_graph" = some (.ref fa)) (bf : Binds K fd ["graph"] []) (c_is_graph : CallOk P w K mg base "is_graph" 3 1 m_is_graph) (e_InvalidGraph : ErrK P w K mg base "InvalidGraph" ["value"]) :
    CallOk P w K mg base "need_graph" 4 1 m_need_graph := by
  refine fn_rule F sc_need_graph rfl gf bf fun cdv A outer s H E hr => ?_
  have d : DSs (bodyX P w K mg base n_need_graph "need_graph" s_need_graph fa cdv A outer s H E) E (defBody s_need_graph) _ :=
      (dss_one (ds_if (dt_not (dt_truth (de_call c_is_graph (hr.mono (by decide)) rfl body_passes (da_cons (de_var 0 (pv 0)) da_nil)))) (dss_one (ds_raise e_InvalidGraph rfl (hr.mono (by decide)) body_takes rfl (da_cons (de_var 0 (pv 0)) da_nil))) dss_nil))
  exact d
abbrev s_tails_of : PySem.Stmt := topS 11
abbrev n_tails_of : List PySem.Str := ["graph", "found", "_", "at", "one"]
theorem sc_tails_of : FnScope n_tails_of ["graph"] (defScope s_tails_of) := ⟨rfl, rfl, rfl, by decide +kernel, rfl, by decide +kernel, by decide +kernel⟩
theorem ok_tails_of {P : PySem.Program} {w : PySem.World} {K : PySem.W.Frag} {mg : PySem.Str → Option PySem.Value} {base : PySem.Heap} {fa : PySem.Addr} {fd : PySem.FuncData} (F : Fun K "tails_of" "tails_of" s_tails_of fa fd) (gf : mg "tails_of" = some (.ref fa)) (bf : Binds K fd ["graph"] []) (z_len : mg "len" = none) (z_range : mg "range" = none) (z_max : mg "max" = none) :
    CallOk P w K mg base "tails_of" 1 1 m_tails_of := by
  refine fn_rule F sc_tails_of rfl gf bf fun cdv A outer s H E hr => ?_
  have d : DSs (bodyX P w K mg base n_tails_of "tails_of" s_tails_of fa cdv A outer s H E) E (defBody s_tails_of) _ :=
      (dss_cons (ds_setLc 1 rfl sc_tails_of.nd rfl rfl (sw_true rfl rfl rfl (by decide +kernel)) (di_seq (de_var 0 (pv 0))) (blkOk_by (own := [("_", 2)]) (N := n_tails_of) (by kernel_rfl)) (by decide) (fun _ _ _ _ _ => (dg_name 2 sc_tails_of.nd rfl (Or.inl rfl))) (fun _ _ _ _ _ => dts_nil) (fun _ _ _ _ _ => de_int))
      (dss_cons (ds_for body_own rfl (di_range3 rfl z_range (de_sub (de_callB cb_len rfl z_len (by decide +kernel) (da_cons (de_var 0 (pv 0)) da_nil)) de_int) (de_neg de_int) (de_neg de_int)) (dg_name 3 sc_tails_of.nd rfl (Or.inl rfl)) (dss_one (ds_for body_own rfl (di_seq (de_ix hr (de_var 0 (pv 0)) (de_var 3 (pv 3)))) (dg_name 4 sc_tails_of.nd rfl (Or.inl rfl)) (dss_one (ds_put 1 hr (pv 1) (de_var 4 (pv 4)) (de_callB (cb_max2 rfl) rfl z_max (by decide +kernel) (da_cons (de_ix hr (de_var 1 (pv 1)) (de_var 4 (pv 4))) (da_cons (de_add (de_ix hr (de_var 1 (pv 1)) (de_var 3 (pv 3))) de_int) da_nil))))))))
      (dss_one (ds_retV 1 (pv 1)))))
  exact d
abbrev s_heads_of : PySem.Stmt := topS 10
abbrev n_heads_of : List PySem.Str := ["graph", "found", "row", "one"]
theorem sc_heads_of : FnScope n_heads_of ["graph"] (defScope s_heads_of) := ⟨rfl, rfl, rfl, by decide +kernel, rfl, by decide +kernel, by decide +kernel⟩
theorem ok_heads_of {P : PySem.Program} {w : PySem.World} {K : PySem.W.Frag} {mg : PySem.Str → Option PySem.Value} {base : PySem.Heap} {fa : PySem.Addr} {fd : PySem.FuncData} (F : Fun K "heads_of" "heads_of" s_heads_of fa fd) (gf : mg "heads_of" = some (.ref fa)) (bf : Binds K fd ["graph"] []) (z_max : mg "max" = none) :
    CallOk P w K mg base "heads_of" 1 1 m_heads_of := by
  refine fn_rule F sc_heads_of rfl gf bf fun cdv A outer s H E hr => ?_
  have d : DSs (bodyX P w K mg base n_heads_of "heads_of" s_heads_of fa cdv A outer s H E) E (defBody s_heads_of) _ :=
      (dss_cons (ds_set 1 (de_lst da_nil) sc_heads_of.nd rfl (Or.inr rfl))
      (dss_cons (ds_for body_own rfl (di_seq (de_var 0 (pv 0))) (dg_name 2 sc_heads_of.nd rfl (Or.inl rfl)) (dss_one (ds_append 1 (pv 1) (de_maxDef rfl rfl z_max (by decide +kernel) hr (de_lc rfl sc_heads_of.nd (di_seq (de_var 2 (pv 2))) (blkOk_by (own := [("one", 3)]) (N := n_heads_of) (by kernel_rfl)) (by decide) (fun _ _ _ _ _ => (dg_name 3 sc_heads_of.nd rfl (Or.inl rfl))) (fun _ _ _ _ _ => dts_nil) (fun _ _ _ _ _ => (de_add (de_ix hr (de_var 1 (pv 1)) (de_var 3 (pv 3))) de_int))) de_int))))
      (dss_one (ds_retV 1 (pv 1)))))
  exact d
abbrev s_span_of : PySem.Stmt := topS 14
abbrev n_span_of : List PySem.Str := ["graph", "head"]
theorem sc_span_of : FnScope n_span_of ["graph"] (defScope s_span_of) := ⟨rfl, rfl, rfl, by decide +kernel, rfl, by decide +kernel, by decide +kernel⟩
theorem ok_span_of {P : PySem.Program} {w : PySem.World} {K : PySem.W.Frag} {mg : PySem.Str → Option PySem.Value} {base : PySem.Heap} {fa : PySem.Addr} {fd : PySem.FuncData} (F : Fun K "span_of" "span_of" s_span_of fa fd) (gf : mg "span_of" = some (.ref fa)) (bf : Binds K fd ["graph"] []) (c_heads_of : CallOk P w K mg base "heads_of" 1 1 m_heads_of) (z_max : mg "max" = none) :
    CallOk P w K mg base "span_of" 2 1 m_span_of := by
  refine fn_rule F sc_span_of rfl gf bf fun cdv A outer s H E hr => ?_
  have d : DSs (bodyX P w K mg base n_span_of "span_of" s_span_of fa cdv A outer s H E) E (defBody s_span_of) _ :=
      (dss_one (ds_ret (de_maxDef rfl rfl z_max (by decide +kernel) hr (de_lc rfl sc_span_of.nd (di_seq (de_call c_heads_of (hr.mono (by decide)) rfl body_passes (da_cons (de_var 0 (pv 0)) da_nil))) (blkOk_by (own := [("head", 1)]) (N := n_span_of) (by kernel_rfl)) (by decide) (fun _ _ _ _ _ => (dg_name 1 sc_span_of.nd rfl (Or.inl rfl))) (fun _ _ _ _ _ => dts_nil) (fun _ _ _ _ _ => (de_add (de_var 1 (pv 1)) de_int))) de_int)))
  exact d
abbrev s_longest_way : PySem.Stmt := topS 19
abbrev n_longest_way : List PySem.Str := ["graph", "left", "most", "way", "at", "row"]
theorem sc_longest_way : FnScope n_longest_way ["graph"] (defScope s_longest_way) := ⟨rfl, rfl, rfl, by decide +kernel, rfl, by decide +kernel, by decide +kernel⟩
theorem ok_longest_way {P : PySem.Program} {w : PySem.World} {K : PySem.W.Frag} {mg : PySem.Str → Option PySem.Value} {base : PySem.Heap} {fa : PySem.Addr} {fd : PySem.FuncData} (F : Fun K "longest_way" "longest_way" s_longest_way fa fd) (gf : mg "longest_way" = some (.ref fa)) (bf : Binds K fd ["graph"] []) (c_need_graph : CallOk P w K mg base "need_graph" 4 1 m_need_graph) (c_tails_of : CallOk P w K mg base "tails_of" 1 1 m_tails_of) (c_span_of : CallOk P w K mg base "span_of" 2 1 m_span_of) (z_enumerate : mg "enumerate" = none) (z_len : mg "len" = none) (z_tuple : mg "tuple" = none) :
    CallOk P w K mg base "longest_way" 5 1 m_longest_way := by
  refine fn_rule F sc_longest_way rfl gf bf fun cdv A outer s H E hr => ?_
  have d : DSs (bodyX P w K mg base n_longest_way "longest_way" s_longest_way fa cdv A outer s H E) E (defBody s_longest_way) _ :=
      (dss_cons (ds_expr (de_call c_need_graph (hr.mono (by decide)) rfl body_passes (da_cons (de_var 0 (pv 0)) da_nil)))
      (dss_cons (ds_set 1 (de_call c_tails_of (hr.mono (by decide)) rfl body_passes (da_cons (de_var 0 (pv 0)) da_nil)) sc_longest_way.nd rfl (Or.inl rfl))
      (dss_cons (ds_set 2 (de_call c_span_of (hr.mono (by decide)) rfl body_passes (da_cons (de_var 0 (pv 0)) da_nil)) sc_longest_way.nd rfl (Or.inl rfl))
      (dss_cons (ds_set 3 (de_lst da_nil) sc_longest_way.nd rfl (Or.inl rfl))
      (dss_cons (ds_for body_own rfl (di_enum rfl z_enumerate (de_var 0 (pv 0))) (dg_tup (n := 2) rfl (dgs_cons (dg_name 4 sc_longest_way.nd rfl (Or.inl rfl)) (dgs_cons (dg_name 5 sc_longest_way.nd rfl (Or.inl rfl)) dgs_nil))) (dss_one (ds_if (DW.dt (dw_and (dt_c (co_eq hr) (de_ix hr (de_var 1 (pv 1)) (de_var 4 (pv 4))) (de_sub (de_sub (de_var 2 (pv 2)) (de_callB cb_len rfl z_len (by decide +kernel) (da_cons (de_var 3 (pv 3)) da_nil))) de_int)) (dw_and1 (DW.dt (dw_or (dt_not (dt_truth (de_var 3 (pv 3)))) (dw_or1 (dt_c (co_in hr) (de_ix hr (de_var 3 (pv 3)) (de_neg de_int)) (de_var 5 (pv 5))))))))) (dss_one (ds_append 3 (pv 3) (de_var 4 (pv 4)))) dss_nil)))
      (dss_one (ds_ret (de_callTy cb_tuple rfl z_tuple (by decide +kernel) (da_cons (de_var 3 (pv 3)) da_nil)))))))))
  exact d
abbrev s__need_nodes : PySem.Stmt := topS 16
abbrev n__need_nodes : List PySem.Str := ["graph", "numbers", "number"]
theorem sc__need_nodes : FnScope n__need_nodes ["graph", "numbers"] (defScope s__need_nodes) := ⟨rfl, rfl, rfl, by decide +kernel, rfl, by decide +kernel, by decide +kernel⟩
theorem ok__need_nodes {P : PySem.Program} {w : PySem.World} {K : PySem.W.Frag} {mg : PySem.Str → Option PySem.Value} {base : PySem.Heap} {fa : PySem.Addr} {fd : PySem.FuncData} (F : Fun K "_need_nodes" "_need_nodes" s__need_nodes fa fd) (gf : mg "_need_nodes" = some (.ref fa)) (bf : Binds K fd ["graph", "numbers"] []) (c_is_whole : CallOk P w K mg base "is_whole" 1 1 m_is_whole) (z_len : mg "len" = none) (e_InvalidNumber : ErrK P w K mg base "InvalidNumber" ["value"]) :
    CallOk P w K mg base "_need_nodes" 3 2 m__need_nodes := by
  refine fn_rule F sc__need_nodes rfl gf bf fun cdv A outer s H E hr => ?_
  have d : DSs (bodyX P w K mg base n__need_nodes "_need_nodes" s__need_nodes fa cdv A outer s H E) E (defBody s__need_nodes) _ :=
      (dss_one (ds_for body_own rfl (di_seq (de_var 1 (pv 1))) (dg_name 2 sc__need_nodes.nd rfl (Or.inl rfl)) (dss_one (ds_if (DW.dt (dw_or (dt_not (dt_truth (de_call c_is_whole (hr.mono (by decide)) rfl body_passes (da_cons (de_var 2 (pv 2)) da_nil)))) (dw_or1 (dt_not (dt_chain (co_le hr) (co_lt hr) de_int (de_var 2 (pv 2)) (de_callB cb_len rfl z_len (by decide +kernel) (da_cons (de_var 0 (pv 0)) da_nil))))))) (dss_one (ds_raise e_InvalidNumber rfl (hr.mono (by decide)) body_takes rfl (da_cons (de_var 2 (pv 2)) da_nil))) dss_nil))))
  exact d
abbrev s_behind : PySem.Stmt := topS 17
abbrev n_behind : List PySem.Str := ["graph", "i", "found", "at", "row", "one"]
theorem sc_behind : FnScope n_behind ["graph", "i"] (defScope s_behind) := ⟨rfl, rfl, rfl, by decide +kernel, rfl, by decide +kernel, by decide +kernel⟩
theorem ok_behind {P : PySem.Program} {w : PySem.World} {K : PySem.W.Frag} {mg : PySem.Str → Option PySem.Value} {base : PySem.Heap} {fa : PySem.Addr} {fd : PySem.FuncData} (F : Fun K "behind" "behind" s_behind fa fd) (gf : mg "behind" = some (.ref fa)) (bf : Binds K fd ["graph", "i"] []) (z_enumerate : mg "enumerate" = none) (z_any : mg "any" = none) (z_list : mg "list" = none) (z_sorted : mg "sorted" = none) :
    CallOk P w K mg base "behind" 1 2 m_behind := by
  refine fn_rule F sc_behind rfl gf bf fun cdv A outer s H E hr => ?_
  have d : DSs (bodyX P w K mg base n_behind "behind" s_behind fa cdv A outer s H E) E (defBody s_behind) _ :=
      (dss_cons (ds_set 2 (de_dk1 (de_var 1 (pv 1)) de_bl) sc_behind.nd rfl (Or.inr rfl))
      (dss_cons (ds_for body_own rfl (di_enum rfl z_enumerate (de_var 0 (pv 0))) (dg_tup (n := 2) rfl (dgs_cons (dg_name 3 sc_behind.nd rfl (Or.inl rfl)) (dgs_cons (dg_name 4 sc_behind.nd rfl (Or.inl rfl)) dgs_nil))) (dss_one (ds_if (dt_truth (de_callB (cb_any rfl) rfl z_any (by decide +kernel) (da_cons (de_lc rfl sc_behind.nd (di_seq (de_var 4 (pv 4))) (blkOk_by (own := [("one", 5)]) (N := n_behind) (by kernel_rfl)) (by decide) (fun _ _ _ _ _ => (dg_name 5 sc_behind.nd rfl (Or.inl rfl))) (fun _ _ _ _ _ => dts_nil) (fun _ _ _ _ _ => (de_c (co_in hr) (de_var 5 (pv 5)) (de_var 2 (pv 2))))) da_nil))) (dss_one (ds_put 2 hr (pv 2) (de_var 3 (pv 3)) de_bl)) dss_nil)))
      (dss_one (ds_ret (de_lc rfl sc_behind.nd (di_seq (de_callB (cb_sorted hr) rfl z_sorted (by decide +kernel) (da_cons (de_callTy (cb_listD rfl) rfl z_list (by decide +kernel) (da_cons (de_var 2 (pv 2)) da_nil)) da_nil))) (blkOk_by (own := [("at", 3)]) (N := n_behind) (by kernel_rfl)) (by decide) (fun _ _ _ _ _ => (dg_name 3 sc_behind.nd rfl (Or.inl rfl))) (fun _ _ _ _ _ => (dts_one (dt_c (co_ne hr) (de_var 3 (pv 3)) (de_var 1 (pv 1))))) (fun _ _ _ _ _ => (de_var 3 (pv 3))))))))
  exact d
abbrev s_is_ahead : PySem.Stmt := topS 18
abbrev n_is_ahead : List PySem.Str := ["graph", "i", "k"]
theorem sc_is_ahead : FnScope n_is_ahead ["graph", "i", "k"] (defScope s_is_ahead) := ⟨rfl, rfl, rfl, by decide +kernel, rfl, by decide +kernel, by decide +kernel⟩
theorem ok_is_ahead {P : PySem.Program} {w : PySem.World} {K : PySem.W.Frag} {mg : PySem.Str → Option PySem.Value} {base : PySem.Heap} {fa : PySem.Addr} {fd : PySem.FuncData} (F : Fun K "is_ahead" "is_ahead" s_is_ahead fa fd) (gf : mg "is_ahead" = some (.ref fa)) (bf : Binds K fd ["graph", "i", "k"] []) (c_need_graph : CallOk P w K mg base "need_graph" 4 1 m_need_graph) (c__need_nodes : CallOk P w K mg base "_need_nodes" 3 2 m__need_nodes) (c_behind : CallOk P w K mg base "behind" 1 2 m_behind) :
    CallOk P w K mg base "is_ahead" 5 3 m_is_ahead := by
  refine fn_rule F sc_is_ahead rfl gf bf fun cdv A outer s H E hr => ?_
  have d : DSs (bodyX P w K mg base n_is_ahead "is_ahead" s_is_ahead fa cdv A outer s H E) E (defBody s_is_ahead) _ :=
      (dss_cons (ds_expr (de_call c_need_graph (hr.mono (by decide)) rfl body_passes (da_cons (de_var 0 (pv 0)) da_nil)))
      (dss_cons (ds_expr (de_call c__need_nodes (hr.mono (by decide)) rfl body_passes (da_cons (de_var 0 (pv 0)) (da_cons (de_tup (da_cons (de_var 1 (pv 1)) (da_cons (de_var 2 (pv 2)) da_nil))) da_nil))))
      (dss_one (ds_ret (de_c (co_in hr) (de_var 2 (pv 2)) (de_call c_behind (hr.mono (by decide)) rfl body_passes (da_cons (de_var 0 (pv 0)) (da_cons (de_var 1 (pv 1)) da_nil))))))))
  exact d
abbrev s_beside : PySem.Stmt := topS 20
abbrev n_beside : List PySem.Str := ["graph", "i", "near", "at"]
theorem sc_beside : FnScope n_beside ["graph", "i"] (defScope s_beside) := ⟨rfl, rfl, rfl, by decide +kernel, rfl, by decide +kernel, by decide +kernel⟩
theorem ok_beside {P : PySem.Program} {w : PySem.World} {K : PySem.W.Frag} {mg : PySem.Str → Option PySem.Value} {base : PySem.Heap} {fa : PySem.Addr} {fd : PySem.FuncData} (F : Fun K "beside" "beside" s_beside fa fd) (gf : mg "beside" = some (.ref fa)) (bf : Binds K fd ["graph", "i"] []) (c_need_graph : CallOk P w K mg base "need_graph" 4 1 m_need_graph) (c__need_nodes : CallOk P w K mg base "_need_nodes" 3 2 m__need_nodes) (c_behind : CallOk P w K mg base "behind" 1 2 m_behind) (z_len : mg "len" = none) (z_range : mg "range" = none) (z_tuple : mg "tuple" = none) :
    CallOk P w K mg base "beside" 5 2 m_beside := by
  refine fn_rule F sc_beside rfl gf bf fun cdv A outer s H E hr => ?_
  have d : DSs (bodyX P w K mg base n_beside "beside" s_beside fa cdv A outer s H E) E (defBody s_beside) _ :=
      (dss_cons (ds_expr (de_call c_need_graph (hr.mono (by decide)) rfl body_passes (da_cons (de_var 0 (pv 0)) da_nil)))
      (dss_cons (ds_expr (de_call c__need_nodes (hr.mono (by decide)) rfl body_passes (da_cons (de_var 0 (pv 0)) (da_cons (de_tup (da_cons (de_var 1 (pv 1)) da_nil)) da_nil))))
      (dss_cons (ds_set 2 (de_call c_behind (hr.mono (by decide)) rfl body_passes (da_cons (de_var 0 (pv 0)) (da_cons (de_var 1 (pv 1)) da_nil))) sc_beside.nd rfl (Or.inr rfl))
      (dss_one (ds_ret (de_callTy cb_tuple rfl z_tuple (by decide +kernel) (da_cons (de_lc rfl sc_beside.nd (di_range1 rfl z_range (de_callB cb_len rfl z_len (by decide +kernel) (da_cons (de_var 0 (pv 0)) da_nil))) (blkOk_by (own := [("at", 3)]) (N := n_beside) (by kernel_rfl)) (by decide) (fun _ _ _ _ _ => (dg_name 3 sc_beside.nd rfl (Or.inl rfl))) (fun _ _ _ _ _ => (dts_one (DW.dt (dw_and (dt_c (co_ne hr) (de_var 3 (pv 3)) (de_var 1 (pv 1))) (dw_and (dt_c (co_ni hr) (de_var 3 (pv 3)) (de_var 2 (pv 2))) (dw_and1 (dt_c (co_ni hr) (de_var 1 (pv 1)) (de_call c_behind (hr.mono (by decide)) rfl passL (da_cons (de_var 0 (pv 0)) (da_cons (de_var 3 (pv 3)) da_nil)))))))))) (fun _ _ _ _ _ => (de_var 3 (pv 3)))) da_nil)))))))
  exact d
abbrev s_work : PySem.Stmt := topS 9
abbrev n_work : List PySem.Str := ["graph"]
theorem sc_work : FnScope n_work ["graph"] (defScope s_work) := ⟨rfl, rfl, rfl, by decide +kernel, rfl, by decide +kernel, by decide +kernel⟩
theorem ok_work {P : PySem.Program} {w : PySem.World} {K : PySem.W.Frag} {mg : PySem.Str → Option PySem.Value} {base : PySem.Heap} {fa : PySem.Addr} {fd : PySem.FuncData} (F : Fun K "work" "work" s_work fa fd) (gf : mg "work" = some (.ref fa)) (bf : Binds K fd ["graph"] []) (c_need_graph : CallOk P w K mg base "need_graph" 4 1 m_need_graph) (z_len : mg "len" = none) :
    CallOk P w K mg base "work" 5 1 m_work := by
  refine fn_rule F sc_work rfl gf bf fun cdv A outer s H E hr => ?_
  have d : DSs (bodyX P w K mg base n_work "work" s_work fa cdv A outer s H E) E (defBody s_work) _ :=
      (dss_cons (ds_expr (de_call c_need_graph (hr.mono (by decide)) rfl body_passes (da_cons (de_var 0 (pv 0)) da_nil)))
      (dss_one (ds_ret (de_callB cb_len rfl z_len (by decide +kernel) (da_cons (de_var 0 (pv 0)) da_nil)))))
  exact d
abbrev s_heads : PySem.Stmt := topS 12
abbrev n_heads : List PySem.Str := ["graph"]
theorem sc_heads : FnScope n_heads ["graph"] (defScope s_heads) := ⟨rfl, rfl, rfl, by decide +kernel, rfl, by decide +kernel, by decide +kernel⟩
theorem fo_heads {P : PySem.Program} {w : PySem.World} {K : PySem.W.Frag} {mg : PySem.Str → Option PySem.Value} {base : PySem.Heap} {fa : PySem.Addr} {fd : PySem.FuncData} (F : Fun K "heads" "heads" s_heads fa fd) (c_need_graph : CallOk P w K mg base "need_graph" 4 1 m_need_graph) (c_heads_of : CallOk P w K mg base "heads_of" 1 1 m_heads_of) (z_tuple : mg "tuple" = none) :
    FnOk P w K mg base (L2.CX P w) 5 fa fd ["graph"] (spD K mg 1 m_heads) := by
  refine fn_ok F sc_heads rfl fun cdv A outer s H E hr => ?_
  have d : DSs (bodyX P w K mg base n_heads "heads" s_heads fa cdv A outer s H E) E (defBody s_heads) _ :=
      (dss_cons (ds_expr (de_call c_need_graph (hr.mono (by decide)) rfl body_passes (da_cons (de_var 0 (pv 0)) da_nil)))
      (dss_one (ds_ret (de_callTy cb_tuple rfl z_tuple (by decide +kernel) (da_cons (de_call c_heads_of (hr.mono (by decide)) rfl body_passes (da_cons (de_var 0 (pv 0)) da_nil)) da_nil)))))
  exact d
abbrev s_tails : PySem.Stmt := topS 13
abbrev n_tails : List PySem.Str := ["graph"]
theorem sc_tails : FnScope n_tails ["graph"] (defScope s_tails) := ⟨rfl, rfl, rfl, by decide +kernel, rfl, by decide +kernel, by decide +kernel⟩
theorem fo_tails {P : PySem.Program} {w : PySem.World} {K : PySem.W.Frag} {mg : PySem.Str → Option PySem.Value} {base : PySem.Heap} {fa : PySem.Addr} {fd : PySem.FuncData} (F : Fun K "tails" "tails" s_tails fa fd) (c_need_graph : CallOk P w K mg base "need_graph" 4 1 m_need_graph) (c_tails_of : CallOk P w K mg base "tails_of" 1 1 m_tails_of) (z_tuple : mg "tuple" = none) :
    FnOk P w K mg base (L2.CX P w) 5 fa fd ["graph"] (spD K mg 1 m_tails) := by
  refine fn_ok F sc_tails rfl fun cdv A outer s H E hr => ?_
  have d : DSs (bodyX P w K mg base n_tails "tails" s_tails fa cdv A outer s H E) E (defBody s_tails) _ :=
      (dss_cons (ds_expr (de_call c_need_graph (hr.mono (by decide)) rfl body_passes (da_cons (de_var 0 (pv 0)) da_nil)))
      (dss_one (ds_ret (de_callTy cb_tuple rfl z_tuple (by decide +kernel) (da_cons (de_call c_tails_of (hr.mono (by decide)) rfl body_passes (da_cons (de_var 0 (pv 0)) da_nil)) da_nil)))))
  exact d
abbrev s_span : PySem.Stmt := topS 15
abbrev n_span : List PySem.Str := ["graph"]
theorem sc_span : FnScope n_span ["graph"] (defScope s_span) := ⟨rfl, rfl, rfl, by decide +kernel, rfl, by decide +kernel, by decide +kernel⟩
theorem ok_span {P : PySem.Program} {w : PySem.World} {K : PySem.W.Frag} {mg : PySem.Str → Option PySem.Value} {base : PySem.Heap} {fa : PySem.Addr} {fd : PySem.FuncData} (F : Fun K "span" "span" s_span fa fd) (gf : mg "span" = some (.ref fa)) (bf : Binds K fd ["graph"] []) (c_need_graph : CallOk P w K mg base "need_graph" 4 1 m_need_graph) (c_span_of : CallOk P w K mg base "span_of" 2 1 m_span_of) :
    CallOk P w K mg base "span" 5 1 m_span := by
  refine fn_rule F sc_span rfl gf bf fun cdv A outer s H E hr => ?_
  have d : DSs (bodyX P w K mg base n_span "span" s_span fa cdv A outer s H E) E (defBody s_span) _ :=
      (dss_cons (ds_expr (de_call c_need_graph (hr.mono (by decide)) rfl body_passes (da_cons (de_var 0 (pv 0)) da_nil)))
      (dss_one (ds_ret (de_call c_span_of (hr.mono (by decide)) rfl body_passes (da_cons (de_var 0 (pv 0)) da_nil)))))
  exact d
abbrev s__law_asked : PySem.Stmt := topS 31
abbrev n__law_asked : List PySem.Str := ["_law_which", "_law_graph_here", "_law_i", "_law_k"]
theorem sc__law_asked : FnScope n__law_asked ["_law_which", "_law_graph_here", "_law_i", "_law_k"] (defScope s__law_asked) := ⟨rfl, rfl, rfl, by decide +kernel, rfl, by decide +kernel, by decide +kernel⟩
theorem ok__law_asked {P : PySem.Program} {w : PySem.World} {K : PySem.W.Frag} {mg : PySem.Str → Option PySem.Value} {base : PySem.Heap} {fa : PySem.Addr} {fd : PySem.FuncData} (F : Fun K "_law_asked" "_law_asked" s__law_asked fa fd) (gf : mg "_law_asked" = some (.ref fa)) (bf : Binds K fd ["_law_which", "_law_graph_here", "_law_i", "_law_k"] []) (c_is_ahead : CallOk P w K mg base "is_ahead" 5 3 m_is_ahead) (c_beside : CallOk P w K mg base "beside" 5 2 m_beside) (c_work : CallOk P w K mg base "work" 5 1 m_work) (c_heads : CallOk P w K mg base "heads" 5 1 m_heads) (c_tails : CallOk P w K mg base "tails" 5 1 m_tails) (c_span : CallOk P w K mg base "span" 5 1 m_span) (c_longest_way : CallOk P w K mg base "longest_way" 5 1 m_longest_way) :
    CallOk P w K mg base "_law_asked" 6 4 m__law_asked := by
  refine fn_rule F sc__law_asked rfl gf bf fun cdv A outer s H E hr => ?_
  have d : DSs (bodyX P w K mg base n__law_asked "_law_asked" s__law_asked fa cdv A outer s H E) E (defBody s__law_asked) _ :=
      (dss_cons (ds_if (dt_c (co_eq hr) (de_var 0 (pv 0)) de_int) (dss_one (ds_ret (de_call c_is_ahead (hr.mono (by decide)) rfl body_passes (da_cons (de_var 1 (pv 1)) (da_cons (de_var 2 (pv 2)) (da_cons (de_var 3 (pv 3)) da_nil)))))) dss_nil)
      (dss_cons (ds_if (dt_c (co_eq hr) (de_var 0 (pv 0)) de_int) (dss_one (ds_ret (de_call c_beside (hr.mono (by decide)) rfl body_passes (da_cons (de_var 1 (pv 1)) (da_cons (de_var 2 (pv 2)) da_nil))))) dss_nil)
      (dss_cons (ds_if (dt_c (co_eq hr) (de_var 0 (pv 0)) de_int) (dss_one (ds_ret (de_call c_work (hr.mono (by decide)) rfl body_passes (da_cons (de_var 1 (pv 1)) da_nil)))) dss_nil)
      (dss_cons (ds_if (dt_c (co_eq hr) (de_var 0 (pv 0)) de_int) (dss_one (ds_ret (de_call c_heads (hr.mono (by decide)) rfl body_passes (da_cons (de_var 1 (pv 1)) da_nil)))) dss_nil)
      (dss_cons (ds_if (dt_c (co_eq hr) (de_var 0 (pv 0)) de_int) (dss_one (ds_ret (de_call c_tails (hr.mono (by decide)) rfl body_passes (da_cons (de_var 1 (pv 1)) da_nil)))) dss_nil)
      (dss_cons (ds_if (dt_c (co_eq hr) (de_var 0 (pv 0)) de_int) (dss_one (ds_ret (de_call c_span (hr.mono (by decide)) rfl body_passes (da_cons (de_var 1 (pv 1)) da_nil)))) dss_nil)
      (dss_one (ds_ret (de_call c_longest_way (hr.mono (by decide)) rfl body_passes (da_cons (de_var 1 (pv 1)) da_nil))))))))))
  exact d
abbrev s__law_told : PySem.Stmt := topS 32
abbrev n__law_told : List PySem.Str := ["_law_which", "_law_graph_here", "_law_i", "_law_k", "graph_error", "number_error"]
theorem sc__law_told : FnScope n__law_told ["_law_which", "_law_graph_here", "_law_i", "_law_k"] (defScope s__law_told) := ⟨rfl, rfl, rfl, by decide +kernel, rfl, by decide +kernel, by decide +kernel⟩
theorem ok__law_told {P : PySem.Program} {w : PySem.World} {K : PySem.W.Frag} {mg : PySem.Str → Option PySem.Value} {base : PySem.Heap} {fa : PySem.Addr} {fd : PySem.FuncData} (F : Fun K "_law_told" "_law_told" s__law_told fa fd) (gf : mg "_law_told" = some (.ref fa)) (bf : Binds K fd ["_law_which", "_law_graph_here", "_law_i", "_law_k"] []) (c__law_asked : CallOk P w K mg base "_law_asked" 6 4 m__law_asked) {C_InvalidNumber : PySem.Addr} (k_InvalidNumber : ClsK K mg "InvalidNumber" ["value"] C_InvalidNumber) (m_InvalidGraph_InvalidNumber : ExmK K mg "InvalidGraph" C_InvalidNumber false) (m_InvalidNumber_InvalidNumber : ExmK K mg "InvalidNumber" C_InvalidNumber true) {C_InvalidGraph : PySem.Addr} (k_InvalidGraph : ClsK K mg "InvalidGraph" ["value"] C_InvalidGraph) (m_InvalidGraph_InvalidGraph : ExmK K mg "InvalidGraph" C_InvalidGraph true) (m_InvalidNumber_InvalidGraph : ExmK K mg "InvalidNumber" C_InvalidGraph false) :
    CallOk P w K mg base "_law_told" 7 4 m__law_told := by
  refine fn_rule F sc__law_told rfl gf bf fun cdv A outer s H E hr => ?_
  have d : DSs (bodyX P w K mg base n__law_told "_law_told" s__law_told fa cdv A outer s H E) E (defBody s__law_told) _ :=
      (dss_one (ds_try rfl rfl sc__law_told.nd body_takes (fun E' pn xe px po => (dss_one (ds_ret (de_tup (da_cons de_str (da_cons (de_call c__law_asked (hr.mono (by decide)) rfl px (da_cons (de_var 0 (pv 0)) (da_cons (de_var 1 (pv 1)) (da_cons (de_var 2 (pv 2)) (da_cons (de_var 3 (pv 3)) da_nil))))) da_nil)))))) (.as (i := 4) ⟨rfl, by decide, .inl k_InvalidGraph.g⟩ rfl rfl (dx_ret (dq_tup (dqs_cons dq_str (dqs_cons (dq_fld k_InvalidGraph.g k_InvalidGraph.xf (k_InvalidGraph.no "value" (by simp)) (fun a oe pn => pv 4)) dqs_nil)))) (cat_cons m_InvalidGraph_InvalidGraph (cat_cons m_InvalidNumber_InvalidGraph cat_nil)) (.as (i := 5) ⟨rfl, by decide, .inl k_InvalidNumber.g⟩ rfl rfl (dx_ret (dq_tup (dqs_cons dq_str (dqs_cons (dq_fld k_InvalidNumber.g k_InvalidNumber.xf (k_InvalidNumber.no "value" (by simp)) (fun a oe pn => pv 5)) dqs_nil)))) (cat_cons m_InvalidGraph_InvalidNumber (cat_cons m_InvalidNumber_InvalidNumber cat_nil)) .nil))))
  exact d
abbrev s__law_errors_right : PySem.Stmt := topS 33
abbrev n__law_errors_right : List PySem.Str := ["_law_script", "_law_graph_here", "_law_drawn", "_law_size", "_law_bad", "_law_no_graph_here", "_law_which"]
theorem sc__law_errors_right : FnScope n__law_errors_right ["_law_script", "_law_graph_here"] (defScope s__law_errors_right) := ⟨rfl, rfl, rfl, by decide +kernel, rfl, by decide +kernel, by decide +kernel⟩
theorem ok__law_errors_right {P : PySem.Program} {w : PySem.World} {K : PySem.W.Frag} {mg : PySem.Str → Option PySem.Value} {base : PySem.Heap} {fa : PySem.Addr} {fd : PySem.FuncData} (F : Fun K "_law_errors_right" "_law_errors_right" s__law_errors_right fa fd) (gf : mg "_law_errors_right" = some (.ref fa)) (bf : Binds K fd ["_law_script", "_law_graph_here"] []) (c__law_draws : CallOk P w K mg base "_law_draws" 1 3 m__law_draws) (c__law_no_graph : CallOk P w K mg base "_law_no_graph" 2 2 m__law_no_graph) (c__law_equal : CallOk P w K mg base "_law_equal" 12 2 m__law_equal) (c__law_told : CallOk P w K mg base "_law_told" 7 4 m__law_told) (z_len : mg "len" = none) (z_range : mg "range" = none) :
    CallOk P w K mg base "_law_errors_right" 13 2 m__law_errors_right := by
  refine fn_rule F sc__law_errors_right rfl gf bf fun cdv A outer s H E hr => ?_
  have d : DSs (bodyX P w K mg base n__law_errors_right "_law_errors_right" s__law_errors_right fa cdv A outer s H E) E (defBody s__law_errors_right) _ :=
      (dss_cons (ds_set 2 (de_call c__law_draws (hr.mono (by decide)) rfl body_passes (da_cons (de_var 0 (pv 0)) (da_cons de_int (da_cons (de_lst (da_cons de_int (da_cons de_int da_nil))) da_nil)))) sc__law_errors_right.nd rfl (Or.inl rfl))
      (dss_cons (ds_set 3 (de_callB cb_len rfl z_len (by decide +kernel) (da_cons (de_var 1 (pv 1)) da_nil)) sc__law_errors_right.nd rfl (Or.inl rfl))
      (dss_cons (ds_frz 3 (ds_set 4 (de_ix hr (de_lst (da_cons (de_sub (de_neg de_int) (de_ix hr (de_var 2 (pv 2)) de_int)) (da_cons (de_var 3 (pv 3)) (da_cons (de_add (de_add (de_var 3 (pv 3)) de_int) (de_ix hr (de_var 2 (pv 2)) de_int)) da_nil)))) (de_ix hr (de_var 2 (pv 2)) de_int)) sc__law_errors_right.nd rfl (Or.inl rfl)))
      (dss_cons (ds_set 5 (de_call c__law_no_graph (hr.mono (by decide)) rfl body_passes (da_cons (de_var 0 (pv 0)) (da_cons de_int da_nil))) sc__law_errors_right.nd rfl (Or.inl rfl))
      (dss_cons (ds_for body_own rfl (di_range1 rfl z_range de_int) (dg_name 6 sc__law_errors_right.nd rfl (Or.inl rfl)) (dss_one (ds_frz 5 (ds_if (dt_not (dt_truth (de_call c__law_equal (hr.mono (by decide)) rfl body_passes (da_cons (de_call c__law_told (hr.mono (by decide)) rfl body_passes (da_cons (de_var 6 (pv 6)) (da_cons (de_var 5 (pv 5)) (da_cons (de_var 4 (pv 4)) (da_cons de_int da_nil))))) (da_cons (de_tup (da_cons de_str (da_cons (de_var 5 (pv 5)) da_nil))) da_nil))))) (dss_one (ds_ret de_bl)) dss_nil))))
      (dss_cons (ds_frz 4 (ds_if (DW.dt (dw_or (dt_not (dt_truth (de_call c__law_equal (hr.mono (by decide)) rfl body_passes (da_cons (de_call c__law_told (hr.mono (by decide)) rfl body_passes (da_cons de_int (da_cons (de_var 1 (pv 1)) (da_cons (de_var 4 (pv 4)) (da_cons (de_neg de_int) da_nil))))) (da_cons (de_tup (da_cons de_str (da_cons (de_var 4 (pv 4)) da_nil))) da_nil))))) (dw_or1 (dt_not (dt_truth (de_call c__law_equal (hr.mono (by decide)) rfl body_passes (da_cons (de_call c__law_told (hr.mono (by decide)) rfl body_passes (da_cons de_int (da_cons (de_var 1 (pv 1)) (da_cons (de_var 4 (pv 4)) (da_cons de_int da_nil))))) (da_cons (de_tup (da_cons de_str (da_cons (de_var 4 (pv 4)) da_nil))) da_nil)))))))) (dss_one (ds_ret de_bl)) dss_nil))
      (dss_one (ds_frz 4 (ds_ret (de_or (de_c (co_eq hr) (de_var 3 (pv 3)) de_int) (de_one (de_call c__law_equal (hr.mono (by decide)) rfl body_passes (da_cons (de_call c__law_told (hr.mono (by decide)) rfl body_passes (da_cons de_int (da_cons (de_var 1 (pv 1)) (da_cons de_int (da_cons (de_var 4 (pv 4)) da_nil))))) (da_cons (de_tup (da_cons de_str (da_cons (de_var 4 (pv 4)) da_nil))) da_nil))))))))))))))
  exact d
abbrev s__law_tails : PySem.Stmt := topS 26
abbrev n__law_tails : List PySem.Str := ["_law_graph_here", "_law_counts", "_law_row", "_law_k", "_law_i", "_law_j"]
theorem sc__law_tails : FnScope n__law_tails ["_law_graph_here"] (defScope s__law_tails) := ⟨rfl, rfl, rfl, by decide +kernel, rfl, by decide +kernel, by decide +kernel⟩
theorem ok__law_tails {P : PySem.Program} {w : PySem.World} {K : PySem.W.Frag} {mg : PySem.Str → Option PySem.Value} {base : PySem.Heap} {fa : PySem.Addr} {fd : PySem.FuncData} (F : Fun K "_law_tails" "_law_tails" s__law_tails fa fd) (gf : mg "_law_tails" = some (.ref fa)) (bf : Binds K fd ["_law_graph_here"] []) (z_len : mg "len" = none) (z_range : mg "range" = none) :
    CallOk P w K mg base "_law_tails" 1 1 m__law_tails := by
  refine fn_rule F sc__law_tails rfl gf bf fun cdv A outer s H E hr => ?_
  have d : DSs (bodyX P w K mg base n__law_tails "_law_tails" s__law_tails fa cdv A outer s H E) E (defBody s__law_tails) _ :=
      (dss_cons (ds_setLc 1 rfl sc__law_tails.nd rfl rfl (sw_true rfl rfl rfl (by decide +kernel)) (di_seq (de_var 0 (pv 0))) (blkOk_by (own := [("_law_row", 2)]) (N := n__law_tails) (by kernel_rfl)) (by decide) (fun _ _ _ _ _ => (dg_name 2 sc__law_tails.nd rfl (Or.inl rfl))) (fun _ _ _ _ _ => dts_nil) (fun _ _ _ _ _ => de_int))
      (dss_cons (ds_for body_own rfl (di_range1 rfl z_range (de_callB cb_len rfl z_len (by decide +kernel) (da_cons (de_var 0 (pv 0)) da_nil))) (dg_name 3 sc__law_tails.nd rfl (Or.inl rfl)) (dss_cons (ds_set 4 (de_sub (de_sub (de_callB cb_len rfl z_len (by decide +kernel) (da_cons (de_var 0 (pv 0)) da_nil)) de_int) (de_var 3 (pv 3))) sc__law_tails.nd rfl (Or.inl rfl))
      (dss_one (ds_for body_own rfl (di_seq (de_ix hr (de_var 0 (pv 0)) (de_var 4 (pv 4)))) (dg_name 5 sc__law_tails.nd rfl (Or.inl rfl)) (dss_one (ds_if (dt_c (co_gt hr) (de_add (de_ix hr (de_var 1 (pv 1)) (de_var 4 (pv 4))) de_int) (de_ix hr (de_var 1 (pv 1)) (de_var 5 (pv 5)))) (dss_one (ds_put 1 hr (pv 1) (de_var 5 (pv 5)) (de_add (de_ix hr (de_var 1 (pv 1)) (de_var 4 (pv 4))) de_int))) dss_nil))))))
      (dss_one (ds_retV 1 (pv 1)))))
  exact d
abbrev s__law_heads : PySem.Stmt := topS 25
abbrev n__law_heads : List PySem.Str := ["_law_graph_here", "_law_counts", "_law_row", "_law_count", "_law_j"]
theorem sc__law_heads : FnScope n__law_heads ["_law_graph_here"] (defScope s__law_heads) := ⟨rfl, rfl, rfl, by decide +kernel, rfl, by decide +kernel, by decide +kernel⟩
theorem ok__law_heads {P : PySem.Program} {w : PySem.World} {K : PySem.W.Frag} {mg : PySem.Str → Option PySem.Value} {base : PySem.Heap} {fa : PySem.Addr} {fd : PySem.FuncData} (F : Fun K "_law_heads" "_law_heads" s__law_heads fa fd) (gf : mg "_law_heads" = some (.ref fa)) (bf : Binds K fd ["_law_graph_here"] []) :
    CallOk P w K mg base "_law_heads" 1 1 m__law_heads := by
  refine fn_rule F sc__law_heads rfl gf bf fun cdv A outer s H E hr => ?_
  have d : DSs (bodyX P w K mg base n__law_heads "_law_heads" s__law_heads fa cdv A outer s H E) E (defBody s__law_heads) _ :=
      (dss_cons (ds_set 1 (de_lst da_nil) sc__law_heads.nd rfl (Or.inl rfl))
      (dss_cons (ds_for body_own rfl (di_seq (de_var 0 (pv 0))) (dg_name 2 sc__law_heads.nd rfl (Or.inl rfl)) (dss_cons (ds_set 3 de_int sc__law_heads.nd rfl (Or.inl rfl))
      (dss_cons (ds_for body_own rfl (di_seq (de_var 2 (pv 2))) (dg_name 4 sc__law_heads.nd rfl (Or.inl rfl)) (dss_one (ds_if (dt_c (co_gt hr) (de_add (de_ix hr (de_var 1 (pv 1)) (de_var 4 (pv 4))) de_int) (de_var 3 (pv 3))) (dss_one (ds_set 3 (de_add (de_ix hr (de_var 1 (pv 1)) (de_var 4 (pv 4))) de_int) sc__law_heads.nd rfl (Or.inl rfl))) dss_nil)))
      (dss_one (ds_frz 3 (ds_append 1 (pv 1) (de_var 3 (pv 3))))))))
      (dss_one (ds_retV 1 (pv 1)))))
  exact d
abbrev s__law_span : PySem.Stmt := topS 27
abbrev n__law_span : List PySem.Str := ["_law_graph_here", "_law_most", "_law_count"]
theorem sc__law_span : FnScope n__law_span ["_law_graph_here"] (defScope s__law_span) := ⟨rfl, rfl, rfl, by decide +kernel, rfl, by decide +kernel, by decide +kernel⟩
theorem ok__law_span {P : PySem.Program} {w : PySem.World} {K : PySem.W.Frag} {mg : PySem.Str → Option PySem.Value} {base : PySem.Heap} {fa : PySem.Addr} {fd : PySem.FuncData} (F : Fun K "_law_span" "_law_span" s__law_span fa fd) (gf : mg "_law_span" = some (.ref fa)) (bf : Binds K fd ["_law_graph_here"] []) (c__law_heads : CallOk P w K mg base "_law_heads" 1 1 m__law_heads) :
    CallOk P w K mg base "_law_span" 2 1 m__law_span := by
  refine fn_rule F sc__law_span rfl gf bf fun cdv A outer s H E hr => ?_
  have d : DSs (bodyX P w K mg base n__law_span "_law_span" s__law_span fa cdv A outer s H E) E (defBody s__law_span) _ :=
      (dss_cons (ds_set 1 de_int sc__law_span.nd rfl (Or.inl rfl))
      (dss_cons (ds_for body_own rfl (di_seq (de_call c__law_heads (hr.mono (by decide)) rfl body_passes (da_cons (de_var 0 (pv 0)) da_nil))) (dg_name 2 sc__law_span.nd rfl (Or.inl rfl)) (dss_one (ds_if (dt_c (co_gt hr) (de_add (de_var 2 (pv 2)) de_int) (de_var 1 (pv 1))) (dss_one (ds_set 1 (de_add (de_var 2 (pv 2)) de_int) sc__law_span.nd rfl (Or.inl rfl))) dss_nil)))
      (dss_one (ds_retV 1 (pv 1)))))
  exact d
abbrev s__law_longest : PySem.Stmt := topS 30
abbrev n__law_longest : List PySem.Str := ["_law_graph_here", "_law_counts", "_law_most", "_law_way", "_law_turn", "_law_k", "_law_fits"]
theorem sc__law_longest : FnScope n__law_longest ["_law_graph_here"] (defScope s__law_longest) := ⟨rfl, rfl, rfl, by decide +kernel, rfl, by decide +kernel, by decide +kernel⟩
theorem ok__law_longest {P : PySem.Program} {w : PySem.World} {K : PySem.W.Frag} {mg : PySem.Str → Option PySem.Value} {base : PySem.Heap} {fa : PySem.Addr} {fd : PySem.FuncData} (F : Fun K "_law_longest" "_law_longest" s__law_longest fa fd) (gf : mg "_law_longest" = some (.ref fa)) (bf : Binds K fd ["_law_graph_here"] []) (c__law_tails : CallOk P w K mg base "_law_tails" 1 1 m__law_tails) (c__law_span : CallOk P w K mg base "_law_span" 2 1 m__law_span) (z_range : mg "range" = none) (z_len : mg "len" = none) (z_tuple : mg "tuple" = none) :
    CallOk P w K mg base "_law_longest" 3 1 m__law_longest := by
  refine fn_rule F sc__law_longest rfl gf bf fun cdv A outer s H E hr => ?_
  have d : DSs (bodyX P w K mg base n__law_longest "_law_longest" s__law_longest fa cdv A outer s H E) E (defBody s__law_longest) _ :=
      (dss_cons (ds_set 1 (de_call c__law_tails (hr.mono (by decide)) rfl body_passes (da_cons (de_var 0 (pv 0)) da_nil)) sc__law_longest.nd rfl (Or.inl rfl))
      (dss_cons (ds_set 2 (de_call c__law_span (hr.mono (by decide)) rfl body_passes (da_cons (de_var 0 (pv 0)) da_nil)) sc__law_longest.nd rfl (Or.inl rfl))
      (dss_cons (ds_set 3 (de_lst da_nil) sc__law_longest.nd rfl (Or.inl rfl))
      (dss_cons (ds_for body_own rfl (di_range1 rfl z_range (de_var 2 (pv 2))) (dg_name 4 sc__law_longest.nd rfl (Or.inl rfl)) (dss_one (ds_for body_own rfl (di_range1 rfl z_range (de_callB cb_len rfl z_len (by decide +kernel) (da_cons (de_var 0 (pv 0)) da_nil))) (dg_name 5 sc__law_longest.nd rfl (Or.inl rfl)) (dss_cons (ds_set 6 (de_and (de_c (co_eq hr) (de_ix hr (de_var 1 (pv 1)) (de_var 5 (pv 5))) (de_sub (de_sub (de_var 2 (pv 2)) de_int) (de_var 4 (pv 4)))) (de_one (de_or (de_c (co_eq hr) (de_callB cb_len rfl z_len (by decide +kernel) (da_cons (de_var 3 (pv 3)) da_nil)) de_int) (de_one (de_c (co_in hr) (de_ix hr (de_var 3 (pv 3)) (de_neg de_int)) (de_ix hr (de_var 0 (pv 0)) (de_var 5 (pv 5)))))))) sc__law_longest.nd rfl (Or.inl rfl))
      (dss_one (ds_if (DW.dt (dw_and (dt_truth (de_var 6 (pv 6))) (dw_and1 (dt_c (co_eq hr) (de_callB cb_len rfl z_len (by decide +kernel) (da_cons (de_var 3 (pv 3)) da_nil)) (de_var 4 (pv 4)))))) (dss_one (ds_append 3 (pv 3) (de_var 5 (pv 5)))) dss_nil))))))
      (dss_one (ds_ret (de_callTy cb_tuple rfl z_tuple (by decide +kernel) (da_cons (de_var 3 (pv 3)) da_nil))))))))
  exact d
abbrev s_law : PySem.Stmt := topS 34
abbrev n_law : List PySem.Str := ["_law_script", "_law_graph_here", "_law_size", "_law_far_here", "_law_i", "_law_near", "_law_k"]
theorem sc_law : FnScope n_law ["_law_script"] (defScope s_law) := ⟨rfl, rfl, rfl, by decide +kernel, rfl, by decide +kernel, by decide +kernel⟩
theorem ok_law {P : PySem.Program} {w : PySem.World} {K : PySem.W.Frag} {mg : PySem.Str → Option PySem.Value} {base : PySem.Heap} {fa : PySem.Addr} {fd : PySem.FuncData} (F : Fun K "law" "law" s_law fa fd) (c__law_graph : CallOk P w K mg base "_law_graph" 2 3 m__law_graph) (c__law_far : CallOk P w K mg base "_law_far" 1 1 m__law_far) (c__law_equal : CallOk P w K mg base "_law_equal" 12 2 m__law_equal) (c__law_span : CallOk P w K mg base "_law_span" 2 1 m__law_span) (c_span : CallOk P w K mg base "span" 5 1 m_span) (c_work : CallOk P w K mg base "work" 5 1 m_work) (c_is_graph : CallOk P w K mg base "is_graph" 3 1 m_is_graph) (c__law_heads : CallOk P w K mg base "_law_heads" 1 1 m__law_heads) (c__law_tails : CallOk P w K mg base "_law_tails" 1 1 m__law_tails) (c__law_longest : CallOk P w K mg base "_law_longest" 3 1 m__law_longest) (c_longest_way : CallOk P w K mg base "longest_way" 5 1 m_longest_way) (c_beside : CallOk P w K mg base "beside" 5 2 m_beside) (c_is_ahead : CallOk P w K mg base "is_ahead" 5 3 m_is_ahead) (c__law_errors_right : CallOk P w K mg base "_law_errors_right" 13 2 m__law_errors_right) (ck_heads : CallKw P w K mg base "heads" 5 1 ["graph"] m_heads) (ck_tails : CallKw P w K mg base "tails" 5 1 ["graph"] m_tails) (z_len : mg "len" = none) (z_tuple : mg "tuple" = none) (z_range : mg "range" = none) :
    GRun P w K mg base 14 fa fd ["_law_script"] (spD K mg 1 m_law) := by
  refine law_rule F sc_law rfl fun cdv A s H E hgd hr => ?_
  have d : DSs (bodyX P w K mg base n_law "law" s_law fa cdv A [] s H E) E (defBody s_law) _ :=
      (dss_cons (ds_set 1 (de_call c__law_graph (hr.mono (by decide)) rfl body_passes (da_cons (de_var 0 (pv 0)) (da_cons de_int (da_cons de_int da_nil)))) sc_law.nd rfl (Or.inl rfl))
      (dss_cons (ds_set 2 (de_callB cb_len rfl z_len (by decide +kernel) (da_cons (de_var 1 (pv 1)) da_nil)) sc_law.nd rfl (Or.inl rfl))
      (dss_cons (ds_set 3 (de_call c__law_far (hr.mono (by decide)) rfl body_passes (da_cons (de_var 1 (pv 1)) da_nil)) sc_law.nd rfl (Or.inr rfl))
      (dss_cons (ds_if (DW.dt (dw_or (dt_c (co_isnB) (de_call c_is_graph (hr.mono (by decide)) rfl body_passes (da_cons (de_var 1 (pv 1)) da_nil)) de_bl) (dw_or (dt_not (dt_truth (de_call c__law_equal (hr.mono (by decide)) rfl body_passes (da_cons (de_call c_work (hr.mono (by decide)) rfl body_passes (da_cons (de_var 1 (pv 1)) da_nil)) (da_cons (de_var 2 (pv 2)) da_nil))))) (dw_or1 (dt_not (dt_truth (de_call c__law_equal (hr.mono (by decide)) rfl body_passes (da_cons (de_call c_span (hr.mono (by decide)) rfl body_passes (da_cons (de_var 1 (pv 1)) da_nil)) (da_cons (de_call c__law_span (hr.mono (by decide)) rfl body_passes (da_cons (de_var 1 (pv 1)) da_nil)) da_nil))))))))) (dss_one (ds_ret de_bl)) dss_nil)
      (dss_cons (ds_if (dt_not (dt_truth (de_call c__law_equal (hr.mono (by decide)) rfl body_passes (da_cons (de_callKw ck_heads (hr.mono (by decide)) rfl body_passes (dk_cons (de_var 1 (pv 1)) dk_nil) rfl) (da_cons (de_callTy cb_tuple rfl z_tuple (by decide +kernel) (da_cons (de_call c__law_heads (hr.mono (by decide)) rfl body_passes (da_cons (de_var 1 (pv 1)) da_nil)) da_nil)) da_nil))))) (dss_one (ds_ret de_bl)) dss_nil)
      (dss_cons (ds_if (dt_not (dt_truth (de_call c__law_equal (hr.mono (by decide)) rfl body_passes (da_cons (de_callKw ck_tails (hr.mono (by decide)) rfl body_passes (dk_cons (de_var 1 (pv 1)) dk_nil) rfl) (da_cons (de_callTy cb_tuple rfl z_tuple (by decide +kernel) (da_cons (de_call c__law_tails (hr.mono (by decide)) rfl body_passes (da_cons (de_var 1 (pv 1)) da_nil)) da_nil)) da_nil))))) (dss_one (ds_ret de_bl)) dss_nil)
      (dss_cons (ds_if (dt_not (dt_truth (de_call c__law_equal (hr.mono (by decide)) rfl body_passes (da_cons (de_call c_longest_way (hr.mono (by decide)) rfl body_passes (da_cons (de_var 1 (pv 1)) da_nil)) (da_cons (de_call c__law_longest (hr.mono (by decide)) rfl body_passes (da_cons (de_var 1 (pv 1)) da_nil)) da_nil))))) (dss_one (ds_ret de_bl)) dss_nil)
      (dss_cons (ds_for body_own rfl (di_range1 rfl z_range (de_var 2 (pv 2))) (dg_name 4 sc_law.nd rfl (Or.inr rfl)) (dss_cons (ds_set 5 (de_callTy cb_tuple rfl z_tuple (by decide +kernel) (da_cons (de_lc rfl sc_law.nd (di_range1 rfl z_range (de_var 2 (pv 2))) (blkOk_by (own := [("_law_k", 6)]) (N := n_law) (by kernel_rfl)) (by decide) (fun _ _ _ _ _ => (dg_name 6 sc_law.nd rfl (Or.inl rfl))) (fun _ _ _ _ _ => (dts_one (DW.dt (dw_and (dt_c (co_ne hr) (de_var 6 (pv 6)) (de_var 4 (pv 4))) (dw_and (dt_not (dt_truth (de_ix hr (de_ix hr (de_var 3 (pv 3)) (de_var 4 (pv 4))) (de_var 6 (pv 6))))) (dw_and1 (dt_not (dt_truth (de_ix hr (de_ix hr (de_var 3 (pv 3)) (de_var 6 (pv 6))) (de_var 4 (pv 4))))))))))) (fun _ _ _ _ _ => (de_var 6 (pv 6)))) da_nil)) sc_law.nd rfl (Or.inl rfl))
      (dss_cons (ds_if (dt_not (dt_truth (de_call c__law_equal (hr.mono (by decide)) rfl body_passes (da_cons (de_call c_beside (hr.mono (by decide)) rfl body_passes (da_cons (de_var 1 (pv 1)) (da_cons (de_var 4 (pv 4)) da_nil))) (da_cons (de_var 5 (pv 5)) da_nil))))) (dss_one (ds_ret de_bl)) dss_nil)
      (dss_one (ds_for body_own rfl (di_range1 rfl z_range (de_var 2 (pv 2))) (dg_name 6 sc_law.nd rfl (Or.inl rfl)) (dss_one (ds_if (dt_not (dt_truth (de_call c__law_equal (hr.mono (by decide)) rfl body_passes (da_cons (de_call c_is_ahead (hr.mono (by decide)) rfl body_passes (da_cons (de_var 1 (pv 1)) (da_cons (de_var 4 (pv 4)) (da_cons (de_var 6 (pv 6)) da_nil)))) (da_cons (de_ix hr (de_ix hr (de_var 3 (pv 3)) (de_var 4 (pv 4))) (de_var 6 (pv 6))) da_nil))))) (dss_one (ds_ret de_bl)) dss_nil)))))))
      (dss_one (ds_ret (de_call c__law_errors_right (hr.mono (by decide)) rfl body_passes (da_cons (de_var 0 (pv 0)) (da_cons (de_var 1 (pv 1)) da_nil)))))))))))))
  exact d
abbrev s_InvalidGraph_i : PySem.Stmt := inClass (topS 2) 0
theorem sc_InvalidGraph_i : FnScope ["self", "value"] ["self", "value"] (defScope s_InvalidGraph_i) := ⟨rfl, rfl, rfl, by decide +kernel, rfl, by decide +kernel, by decide +kernel⟩
theorem er_InvalidGraph {P : PySem.Program} {w : PySem.World} {K : PySem.W.Frag} {mg : PySem.Str → Option PySem.Value} {base : PySem.Heap} {C fI : PySem.Addr} {fd : PySem.FuncData} (F : Fun K "__init__" "InvalidGraph.__init__" s_InvalidGraph_i fI fd) (gC : mg "InvalidGraph" = some (.ref C)) (o : OexC K C) (x : XfC K C) (n0 : PySem.W.findIn K (.ref C) "value" = some none) (iC : PySem.W.findIn K (.ref C) "__init__" = some (some (.ref fI))) (tI : PySem.W.typeIn K (.ref fI) = some (.type "function")) (bf : Binds K fd ["self", "value"] []) : ErrK P w K mg base "InvalidGraph" ["value"] :=
  ⟨C, fI, fd, _, gC, o, x, (fun f hf => by simp at hf; subst hf; first | exact n0), iC, tI, init1 F sc_InvalidGraph_i o n0 (fun cdv A outer s H E => pss_one (ps_ost (pv 0) (pv 1))), bf⟩
abbrev s_InvalidNumber_i : PySem.Stmt := inClass (topS 3) 0
theorem sc_InvalidNumber_i : FnScope ["self", "value"] ["self", "value"] (defScope s_InvalidNumber_i) := ⟨rfl, rfl, rfl, by decide +kernel, rfl, by decide +kernel, by decide +kernel⟩
theorem er_InvalidNumber {P : PySem.Program} {w : PySem.World} {K : PySem.W.Frag} {mg : PySem.Str → Option PySem.Value} {base : PySem.Heap} {C fI : PySem.Addr} {fd : PySem.FuncData} (F : Fun K "__init__" "InvalidNumber.__init__" s_InvalidNumber_i fI fd) (gC : mg "InvalidNumber" = some (.ref C)) (o : OexC K C) (x : XfC K C) (n0 : PySem.W.findIn K (.ref C) "value" = some none) (iC : PySem.W.findIn K (.ref C) "__init__" = some (some (.ref fI))) (tI : PySem.W.typeIn K (.ref fI) = some (.type "function")) (bf : Binds K fd ["self", "value"] []) : ErrK P w K mg base "InvalidNumber" ["value"] :=
  ⟨C, fI, fd, _, gC, o, x, (fun f hf => by simp at hf; subst hf; first | exact n0), iC, tI, init1 F sc_InvalidNumber_i o n0 (fun cdv A outer s H E => pss_one (ps_ost (pv 0) (pv 1))), bf⟩
theorem all_mk {l : PySem.W.OpenLaw} {w : PySem.World} {K : PySem.W.Frag} {h : PySem.Heap} {mg : PySem.Str → Option PySem.Value} {fa f1 f2 f3 f4 f5 f6 f7 f8 f9 f10 f11 f12 f13 f14 f15 f16 f17 f18 f19 f20 f21 f22 f23 f24 f25 f26 f27 f28 f29 C_InvalidGraph C_InvalidNumber I_InvalidGraph I_InvalidNumber : PySem.Addr} (X : K.In h) (G : h.Ns PySem.mainGlobals mg) (hfa : mg "law" = some (.ref fa))
    {od1 an1 od2 an2 od3 an3 od4 an4 od5 an5 od6 an6 od7 an7 od8 an8 od9 an9 od10 an10 od11 an11 od12 an12 od13 an13 od14 an14 od15 an15 od16 an16 od17 an17 od18 an18 od19 an19 od20 an20 od21 an21 od22 an22 od23 an23 od24 an24 od25 an25 od26 an26 od27 an27 od28 an28 od29 an29 : Option PySem.Addr} {sl1 sl2 sl3 sl4 sl5 sl6 sl7 sl8 sl9 sl10 sl11 sl12 sl13 sl14 sl15 sl16 sl17 sl18 sl19 sl20 sl21 sl22 sl23 sl24 sl25 sl26 sl27 sl28 sl29 : Array (Option PySem.Value)} {oc1 kV1 dc1 pm1 cd1 ct1 oc2 kV2 dc2 pm2 cd2 ct2 oc3 kV3 dc3 pm3 cd3 ct3 oc4 kV4 dc4 pm4 cd4 ct4 oc5 kV5 dc5 pm5 cd5 ct5 oc6 kV6 dc6 pm6 cd6 ct6 oc7 kV7 dc7 pm7 cd7 ct7 oc8 kV8 dc8 pm8 cd8 ct8 oc9 kV9 dc9 pm9 cd9 ct9 oc10 kV10 dc10 pm10 cd10 ct10 oc11 kV11 dc11 pm11 cd11 ct11 oc12 kV12 dc12 pm12 cd12 ct12 oc13 kV13 dc13 pm13 cd13 ct13 oc14 kV14 dc14 pm14 cd14 ct14 oc15 kV15 dc15 pm15 cd15 ct15 oc16 kV16 dc16 pm16 cd16 ct16 oc17 kV17 dc17 pm17 cd17 ct17 oc18 kV18 dc18 pm18 cd18 ct18 oc19 kV19 dc19 pm19 cd19 ct19 oc20 kV20 dc20 pm20 cd20 ct20 oc21 kV21 dc21 pm21 cd21 ct21 oc22 kV22 dc22 pm22 cd22 ct22 oc23 kV23 dc23 pm23 cd23 ct23 oc24 kV24 dc24 pm24 cd24 ct24 oc25 kV25 dc25 pm25 cd25 ct25 oc26 kV26 dc26 pm26 cd26 ct26 oc27 kV27 dc27 pm27 cd27 ct27 oc28 kV28 dc28 pm28 cd28 ct28 oc29 kV29 dc29 pm29 cd29 ct29 : PySem.Value}
    {nm_InvalidGraph qn_InvalidGraph : PySem.Str} {N_InvalidGraph : PySem.Addr} {bs_InvalidGraph bm_InvalidGraph : List PySem.Value} {sn_InvalidGraph : List PySem.Str} {su_InvalidGraph : List PySem.Value} {ab_InvalidGraph : Bool} {co_InvalidGraph : Option Bool} {dd_InvalidGraph : Option PySem.Addr} {p0_InvalidGraph p1_InvalidGraph p2_InvalidGraph p3_InvalidGraph p5_InvalidGraph : Option PySem.Value} {od_InvalidGraph an_InvalidGraph : Option PySem.Addr} {sl_InvalidGraph : Array (Option PySem.Value)} {oc_InvalidGraph kV_InvalidGraph dc_InvalidGraph pm_InvalidGraph cd_InvalidGraph ct_InvalidGraph : PySem.Value}
    {nm_InvalidNumber qn_InvalidNumber : PySem.Str} {N_InvalidNumber : PySem.Addr} {bs_InvalidNumber bm_InvalidNumber : List PySem.Value} {sn_InvalidNumber : List PySem.Str} {su_InvalidNumber : List PySem.Value} {ab_InvalidNumber : Bool} {co_InvalidNumber : Option Bool} {dd_InvalidNumber : Option PySem.Addr} {p0_InvalidNumber p1_InvalidNumber p2_InvalidNumber p3_InvalidNumber p5_InvalidNumber : Option PySem.Value} {od_InvalidNumber an_InvalidNumber : Option PySem.Addr} {sl_InvalidNumber : Array (Option PySem.Value)} {oc_InvalidNumber kV_InvalidNumber dc_InvalidNumber pm_InvalidNumber cd_InvalidNumber ct_InvalidNumber : PySem.Value}
    (a1 : PySem.W.nsIn K PySem.mainGlobals "_law_draws" = some (some (.ref f1))) (l1 : K.lookup f1 = some ⟨oc1, od1, .func (PySem.W.fnOf "_law_draws" "_law_draws" (defArgs s__law_draws) (defBody s__law_draws) (defScope s__law_draws) .none kV1 dc1 pm1 an1 cd1 ct1), sl1⟩) (c1 : PySem.W.codeIn K cd1 "_law_draws" = true) (k1 : PySem.W.keepIn K (.ref f1) = true)
    (a2 : PySem.W.nsIn K PySem.mainGlobals "_law_graph" = some (some (.ref f2))) (l2 : K.lookup f2 = some ⟨oc2, od2, .func (PySem.W.fnOf "_law_graph" "_law_graph" (defArgs s__law_graph) (defBody s__law_graph) (defScope s__law_graph) .none kV2 dc2 pm2 an2 cd2 ct2), sl2⟩) (c2 : PySem.W.codeIn K cd2 "_law_graph" = true) (k2 : PySem.W.keepIn K (.ref f2) = true)
    (a3 : PySem.W.nsIn K PySem.mainGlobals "_law_far" = some (some (.ref f3))) (l3 : K.lookup f3 = some ⟨oc3, od3, .func (PySem.W.fnOf "_law_far" "_law_far" (defArgs s__law_far) (defBody s__law_far) (defScope s__law_far) .none kV3 dc3 pm3 an3 cd3 ct3), sl3⟩) (c3 : PySem.W.codeIn K cd3 "_law_far" = true) (k3 : PySem.W.keepIn K (.ref f3) = true)
    (a4 : PySem.W.nsIn K PySem.mainGlobals "_law_no_graph" = some (some (.ref f4))) (l4 : K.lookup f4 = some ⟨oc4, od4, .func (PySem.W.fnOf "_law_no_graph" "_law_no_graph" (defArgs s__law_no_graph) (defBody s__law_no_graph) (defScope s__law_no_graph) .none kV4 dc4 pm4 an4 cd4 ct4), sl4⟩) (c4 : PySem.W.codeIn K cd4 "_law_no_graph" = true) (k4 : PySem.W.keepIn K (.ref f4) = true)
    (a5 : PySem.W.nsIn K PySem.mainGlobals "_law_equal" = some (some (.ref f5))) (l5 : K.lookup f5 = some ⟨oc5, od5, .func (PySem.W.fnOf "_law_equal" "_law_equal" (defArgs s__law_equal) (defBody s__law_equal) (defScope s__law_equal) .none kV5 dc5 pm5 an5 cd5 ct5), sl5⟩) (c5 : PySem.W.codeIn K cd5 "_law_equal" = true) (k5 : PySem.W.keepIn K (.ref f5) = true)
    (a6 : PySem.W.nsIn K PySem.mainGlobals "is_whole" = some (some (.ref f6))) (l6 : K.lookup f6 = some ⟨oc6, od6, .func (PySem.W.fnOf "is_whole" "is_whole" (defArgs s_is_whole) (defBody s_is_whole) (defScope s_is_whole) .none kV6 dc6 pm6 an6 cd6 ct6), sl6⟩) (c6 : PySem.W.codeIn K cd6 "is_whole" = true) (k6 : PySem.W.keepIn K (.ref f6) = true)
    (a7 : PySem.W.nsIn K PySem.mainGlobals "_is_row" = some (some (.ref f7))) (l7 : K.lookup f7 = some ⟨oc7, od7, .func (PySem.W.fnOf "_is_row" "_is_row" (defArgs s__is_row) (defBody s__is_row) (defScope s__is_row) .none kV7 dc7 pm7 an7 cd7 ct7), sl7⟩) (c7 : PySem.W.codeIn K cd7 "_is_row" = true) (k7 : PySem.W.keepIn K (.ref f7) = true)
    (a8 : PySem.W.nsIn K PySem.mainGlobals "is_graph" = some (some (.ref f8))) (l8 : K.lookup f8 = some ⟨oc8, od8, .func (PySem.W.fnOf "is_graph" "is_graph" (defArgs s_is_graph) (defBody s_is_graph) (defScope s_is_graph) .none kV8 dc8 pm8 an8 cd8 ct8), sl8⟩) (c8 : PySem.W.codeIn K cd8 "is_graph" = true) (k8 : PySem.W.keepIn K (.ref f8) = true)
    (a9 : PySem.W.nsIn K PySem.mainGlobals "need_graph" = some (some (.ref f9))) (l9 : K.lookup f9 = some ⟨oc9, od9, .func (PySem.W.fnOf "need_graph" "need_graph" (defArgs s_need_graph) (defBody s_need_graph) (defScope s_need_graph) .none kV9 dc9 pm9 an9 cd9 ct9), sl9⟩) (c9 : PySem.W.codeIn K cd9 "need_graph" = true) (k9 : PySem.W.keepIn K (.ref f9) = true)
    (a10 : PySem.W.nsIn K PySem.mainGlobals "tails_of" = some (some (.ref f10))) (l10 : K.lookup f10 = some ⟨oc10, od10, .func (PySem.W.fnOf "tails_of" "tails_of" (defArgs s_tails_of) (defBody s_tails_of) (defScope s_tails_of) .none kV10 dc10 pm10 an10 cd10 ct10), sl10⟩) (c10 : PySem.W.codeIn K cd10 "tails_of" = true) (k10 : PySem.W.keepIn K (.ref f10) = true)
    (a11 : PySem.W.nsIn K PySem.mainGlobals "heads_of" = some (some (.ref f11))) (l11 : K.lookup f11 = some ⟨oc11, od11, .func (PySem.W.fnOf "heads_of" "heads_of" (defArgs s_heads_of) (defBody s_heads_of) (defScope s_heads_of) .none kV11 dc11 pm11 an11 cd11 ct11), sl11⟩) (c11 : PySem.W.codeIn K cd11 "heads_of" = true) (k11 : PySem.W.keepIn K (.ref f11) = true)
    (a12 : PySem.W.nsIn K PySem.mainGlobals "span_of" = some (some (.ref f12))) (l12 : K.lookup f12 = some ⟨oc12, od12, .func (PySem.W.fnOf "span_of" "span_of" (defArgs s_span_of) (defBody s_span_of) (defScope s_span_of) .none kV12 dc12 pm12 an12 cd12 ct12), sl12⟩) (c12 : PySem.W.codeIn K cd12 "span_of" = true) (k12 : PySem.W.keepIn K (.ref f12) = true)
    (a13 : PySem.W.nsIn K PySem.mainGlobals "longest_way" = some (some (.ref f13))) (l13 : K.lookup f13 = some ⟨oc13, od13, .func (PySem.W.fnOf "longest_way" "longest_way" (defArgs s_longest_way) (defBody s_longest_way) (defScope s_longest_way) .none kV13 dc13 pm13 an13 cd13 ct13), sl13⟩) (c13 : PySem.W.codeIn K cd13 "longest_way" = true) (k13 : PySem.W.keepIn K (.ref f13) = true)
    (a14 : PySem.W.nsIn K PySem.mainGlobals "_need_nodes" = some (some (.ref f14))) (l14 : K.lookup f14 = some ⟨oc14, od14, .func (PySem.W.fnOf "_need_nodes" "_need_nodes" (defArgs s__need_nodes) (defBody s__need_nodes) (defScope s__need_nodes) .none kV14 dc14 pm14 an14 cd14 ct14), sl14⟩) (c14 : PySem.W.codeIn K cd14 "_need_nodes" = true) (k14 : PySem.W.keepIn K (.ref f14) = true)
    (a15 : PySem.W.nsIn K PySem.mainGlobals "behind" = some (some (.ref f15))) (l15 : K.lookup f15 = some ⟨oc15, od15, .func (PySem.W.fnOf "behind" "behind" (defArgs s_behind) (defBody s_behind) (defScope s_behind) .none kV15 dc15 pm15 an15 cd15 ct15), sl15⟩) (c15 : PySem.W.codeIn K cd15 "behind" = true) (k15 : PySem.W.keepIn K (.ref f15) = true)
    (a16 : PySem.W.nsIn K PySem.mainGlobals "is_ahead" = some (some (.ref f16))) (l16 : K.lookup f16 = some ⟨oc16, od16, .func (PySem.W.fnOf "is_ahead" "is_ahead" (defArgs s_is_ahead) (defBody s_is_ahead) (defScope s_is_ahead) .none kV16 dc16 pm16 an16 cd16 ct16), sl16⟩) (c16 : PySem.W.codeIn K cd16 "is_ahead" = true) (k16 : PySem.W.keepIn K (.ref f16) = true)
    (a17 : PySem.W.nsIn K PySem.mainGlobals "beside" = some (some (.ref f17))) (l17 : K.lookup f17 = some ⟨oc17, od17, .func (PySem.W.fnOf "beside" "beside" (defArgs s_beside) (defBody s_beside) (defScope s_beside) .none kV17 dc17 pm17 an17 cd17 ct17), sl17⟩) (c17 : PySem.W.codeIn K cd17 "beside" = true) (k17 : PySem.W.keepIn K (.ref f17) = true)
    (a18 : PySem.W.nsIn K PySem.mainGlobals "work" = some (some (.ref f18))) (l18 : K.lookup f18 = some ⟨oc18, od18, .func (PySem.W.fnOf "work" "work" (defArgs s_work) (defBody s_work) (defScope s_work) .none kV18 dc18 pm18 an18 cd18 ct18), sl18⟩) (c18 : PySem.W.codeIn K cd18 "work" = true) (k18 : PySem.W.keepIn K (.ref f18) = true)
    (a19 : PySem.W.nsIn K PySem.mainGlobals "heads" = some (some (.ref f19))) (l19 : K.lookup f19 = some ⟨oc19, od19, .func (PySem.W.fnOf "heads" "heads" (defArgs s_heads) (defBody s_heads) (defScope s_heads) .none kV19 dc19 pm19 an19 cd19 ct19), sl19⟩) (c19 : PySem.W.codeIn K cd19 "heads" = true) (k19 : PySem.W.keepIn K (.ref f19) = true)
    (a20 : PySem.W.nsIn K PySem.mainGlobals "tails" = some (some (.ref f20))) (l20 : K.lookup f20 = some ⟨oc20, od20, .func (PySem.W.fnOf "tails" "tails" (defArgs s_tails) (defBody s_tails) (defScope s_tails) .none kV20 dc20 pm20 an20 cd20 ct20), sl20⟩) (c20 : PySem.W.codeIn K cd20 "tails" = true) (k20 : PySem.W.keepIn K (.ref f20) = true)
    (a21 : PySem.W.nsIn K PySem.mainGlobals "span" = some (some (.ref f21))) (l21 : K.lookup f21 = some ⟨oc21, od21, .func (PySem.W.fnOf "span" "span" (defArgs s_span) (defBody s_span) (defScope s_span) .none kV21 dc21 pm21 an21 cd21 ct21), sl21⟩) (c21 : PySem.W.codeIn K cd21 "span" = true) (k21 : PySem.W.keepIn K (.ref f21) = true)
    (a22 : PySem.W.nsIn K PySem.mainGlobals "_law_asked" = some (some (.ref f22))) (l22 : K.lookup f22 = some ⟨oc22, od22, .func (PySem.W.fnOf "_law_asked" "_law_asked" (defArgs s__law_asked) (defBody s__law_asked) (defScope s__law_asked) .none kV22 dc22 pm22 an22 cd22 ct22), sl22⟩) (c22 : PySem.W.codeIn K cd22 "_law_asked" = true) (k22 : PySem.W.keepIn K (.ref f22) = true)
    (a23 : PySem.W.nsIn K PySem.mainGlobals "_law_told" = some (some (.ref f23))) (l23 : K.lookup f23 = some ⟨oc23, od23, .func (PySem.W.fnOf "_law_told" "_law_told" (defArgs s__law_told) (defBody s__law_told) (defScope s__law_told) .none kV23 dc23 pm23 an23 cd23 ct23), sl23⟩) (c23 : PySem.W.codeIn K cd23 "_law_told" = true) (k23 : PySem.W.keepIn K (.ref f23) = true)
    (a24 : PySem.W.nsIn K PySem.mainGlobals "_law_errors_right" = some (some (.ref f24))) (l24 : K.lookup f24 = some ⟨oc24, od24, .func (PySem.W.fnOf "_law_errors_right" "_law_errors_right" (defArgs s__law_errors_right) (defBody s__law_errors_right) (defScope s__law_errors_right) .none kV24 dc24 pm24 an24 cd24 ct24), sl24⟩) (c24 : PySem.W.codeIn K cd24 "_law_errors_right" = true) (k24 : PySem.W.keepIn K (.ref f24) = true)
    (a25 : PySem.W.nsIn K PySem.mainGlobals "_law_tails" = some (some (.ref f25))) (l25 : K.lookup f25 = some ⟨oc25, od25, .func (PySem.W.fnOf "_law_tails" "_law_tails" (defArgs s__law_tails) (defBody s__law_tails) (defScope s__law_tails) .none kV25 dc25 pm25 an25 cd25 ct25), sl25⟩) (c25 : PySem.W.codeIn K cd25 "_law_tails" = true) (k25 : PySem.W.keepIn K (.ref f25) = true)
    (a26 : PySem.W.nsIn K PySem.mainGlobals "_law_heads" = some (some (.ref f26))) (l26 : K.lookup f26 = some ⟨oc26, od26, .func (PySem.W.fnOf "_law_heads" "_law_heads" (defArgs s__law_heads) (defBody s__law_heads) (defScope s__law_heads) .none kV26 dc26 pm26 an26 cd26 ct26), sl26⟩) (c26 : PySem.W.codeIn K cd26 "_law_heads" = true) (k26 : PySem.W.keepIn K (.ref f26) = true)
    (a27 : PySem.W.nsIn K PySem.mainGlobals "_law_span" = some (some (.ref f27))) (l27 : K.lookup f27 = some ⟨oc27, od27, .func (PySem.W.fnOf "_law_span" "_law_span" (defArgs s__law_span) (defBody s__law_span) (defScope s__law_span) .none kV27 dc27 pm27 an27 cd27 ct27), sl27⟩) (c27 : PySem.W.codeIn K cd27 "_law_span" = true) (k27 : PySem.W.keepIn K (.ref f27) = true)
    (a28 : PySem.W.nsIn K PySem.mainGlobals "_law_longest" = some (some (.ref f28))) (l28 : K.lookup f28 = some ⟨oc28, od28, .func (PySem.W.fnOf "_law_longest" "_law_longest" (defArgs s__law_longest) (defBody s__law_longest) (defScope s__law_longest) .none kV28 dc28 pm28 an28 cd28 ct28), sl28⟩) (c28 : PySem.W.codeIn K cd28 "_law_longest" = true) (k28 : PySem.W.keepIn K (.ref f28) = true)
    (a29 : PySem.W.nsIn K PySem.mainGlobals "law" = some (some (.ref f29))) (l29 : K.lookup f29 = some ⟨oc29, od29, .func (PySem.W.fnOf "law" "law" (defArgs s_law) (defBody s_law) (defScope s_law) .none kV29 dc29 pm29 an29 cd29 ct29), sl29⟩) (c29 : PySem.W.codeIn K cd29 "law" = true) (k29 : PySem.W.keepIn K (.ref f29) = true)
    (aC_InvalidGraph : PySem.W.nsIn K PySem.mainGlobals "InvalidGraph" = some (some (.ref C_InvalidGraph)))
    (ga_InvalidGraph : PySem.W.findIn K (.ref C_InvalidGraph) "__getattribute__" = some (some (.builtin "BaseException.__getattribute__"))) (gg_InvalidGraph : PySem.W.findIn K (.ref C_InvalidGraph) "__getattr__" = some none) (eC_InvalidGraph : PySem.W.subIn K (.ref C_InvalidGraph) (.type "BaseException") = some true) (hC_InvalidGraph : PySem.W.hasDictIn K C_InvalidGraph = true)
    (tC_InvalidGraph : PySem.W.typeIn K (.ref C_InvalidGraph) = some (.type "type"))
    (ic_InvalidGraph : PySem.W.isClsIn K C_InvalidGraph = true)
    (n0_InvalidGraph : PySem.W.findIn K (.ref C_InvalidGraph) "value" = some none)
    (xL_InvalidGraph : K.lookup C_InvalidGraph = some (PySem.excClassObj nm_InvalidGraph qn_InvalidGraph C_InvalidGraph N_InvalidGraph bs_InvalidGraph bm_InvalidGraph true sn_InvalidGraph su_InvalidGraph ab_InvalidGraph co_InvalidGraph dd_InvalidGraph p0_InvalidGraph p1_InvalidGraph p2_InvalidGraph p3_InvalidGraph p5_InvalidGraph "ValueError.__new__")) (rv_InvalidGraph : PySem.HandSPX.refsVE bm_InvalidGraph = true) (sa_InvalidGraph : PySem.W.findIn K (.ref C_InvalidGraph) "__setattr__" = some (some (.builtin "object.__setattr__"))) (kC_InvalidGraph : PySem.W.keepIn K (.ref C_InvalidGraph) = true) (iC_InvalidGraph : PySem.W.findIn K (.ref C_InvalidGraph) "__init__" = some (some (.ref I_InvalidGraph))) (tI_InvalidGraph : PySem.W.typeIn K (.ref I_InvalidGraph) = some (.type "function")) (lI_InvalidGraph : K.lookup I_InvalidGraph = some ⟨oc_InvalidGraph, od_InvalidGraph, .func (PySem.W.fnOf "__init__" "InvalidGraph.__init__" (defArgs s_InvalidGraph_i) (defBody s_InvalidGraph_i) (defScope s_InvalidGraph_i) .none kV_InvalidGraph dc_InvalidGraph pm_InvalidGraph an_InvalidGraph cd_InvalidGraph ct_InvalidGraph), sl_InvalidGraph⟩) (cI_InvalidGraph : PySem.W.codeIn K cd_InvalidGraph "InvalidGraph.__init__" = true) (kI_InvalidGraph : PySem.W.keepIn K (.ref I_InvalidGraph) = true)
    (aC_InvalidNumber : PySem.W.nsIn K PySem.mainGlobals "InvalidNumber" = some (some (.ref C_InvalidNumber)))
    (ga_InvalidNumber : PySem.W.findIn K (.ref C_InvalidNumber) "__getattribute__" = some (some (.builtin "BaseException.__getattribute__"))) (gg_InvalidNumber : PySem.W.findIn K (.ref C_InvalidNumber) "__getattr__" = some none) (eC_InvalidNumber : PySem.W.subIn K (.ref C_InvalidNumber) (.type "BaseException") = some true) (hC_InvalidNumber : PySem.W.hasDictIn K C_InvalidNumber = true)
    (tC_InvalidNumber : PySem.W.typeIn K (.ref C_InvalidNumber) = some (.type "type"))
    (ic_InvalidNumber : PySem.W.isClsIn K C_InvalidNumber = true)
    (n0_InvalidNumber : PySem.W.findIn K (.ref C_InvalidNumber) "value" = some none)
    (xL_InvalidNumber : K.lookup C_InvalidNumber = some (PySem.excClassObj nm_InvalidNumber qn_InvalidNumber C_InvalidNumber N_InvalidNumber bs_InvalidNumber bm_InvalidNumber true sn_InvalidNumber su_InvalidNumber ab_InvalidNumber co_InvalidNumber dd_InvalidNumber p0_InvalidNumber p1_InvalidNumber p2_InvalidNumber p3_InvalidNumber p5_InvalidNumber "ValueError.__new__")) (rv_InvalidNumber : PySem.HandSPX.refsVE bm_InvalidNumber = true) (sa_InvalidNumber : PySem.W.findIn K (.ref C_InvalidNumber) "__setattr__" = some (some (.builtin "object.__setattr__"))) (kC_InvalidNumber : PySem.W.keepIn K (.ref C_InvalidNumber) = true) (iC_InvalidNumber : PySem.W.findIn K (.ref C_InvalidNumber) "__init__" = some (some (.ref I_InvalidNumber))) (tI_InvalidNumber : PySem.W.typeIn K (.ref I_InvalidNumber) = some (.type "function")) (lI_InvalidNumber : K.lookup I_InvalidNumber = some ⟨oc_InvalidNumber, od_InvalidNumber, .func (PySem.W.fnOf "__init__" "InvalidNumber.__init__" (defArgs s_InvalidNumber_i) (defBody s_InvalidNumber_i) (defScope s_InvalidNumber_i) .none kV_InvalidNumber dc_InvalidNumber pm_InvalidNumber an_InvalidNumber cd_InvalidNumber ct_InvalidNumber), sl_InvalidNumber⟩) (cI_InvalidNumber : PySem.W.codeIn K cd_InvalidNumber "InvalidNumber.__init__" = true) (kI_InvalidNumber : PySem.W.keepIn K (.ref I_InvalidNumber) = true)
    (x_InvalidGraph_InvalidNumber : PySem.W.subIn K (.ref C_InvalidGraph) (.ref C_InvalidNumber) = some false)
    (x_InvalidNumber_InvalidNumber : PySem.W.subIn K (.ref C_InvalidNumber) (.ref C_InvalidNumber) = some true)
    (x_InvalidGraph_InvalidGraph : PySem.W.subIn K (.ref C_InvalidGraph) (.ref C_InvalidGraph) = some true)
    (x_InvalidNumber_InvalidGraph : PySem.W.subIn K (.ref C_InvalidNumber) (.ref C_InvalidGraph) = some false)
    (z_len : PySem.W.nsIn K PySem.mainGlobals "len" = some none) (z_int : PySem.W.nsIn K PySem.mainGlobals "int" = some none) (z_max : PySem.W.nsIn K PySem.mainGlobals "max" = some none) (z_range : PySem.W.nsIn K PySem.mainGlobals "range" = some none) (z_tuple : PySem.W.nsIn K PySem.mainGlobals "tuple" = some none) (z_isinstance : PySem.W.nsIn K PySem.mainGlobals "isinstance" = some none) (z_bool : PySem.W.nsIn K PySem.mainGlobals "bool" = some none) (z_str : PySem.W.nsIn K PySem.mainGlobals "str" = some none) (z_all : PySem.W.nsIn K PySem.mainGlobals "all" = some none) (z_enumerate : PySem.W.nsIn K PySem.mainGlobals "enumerate" = some none) (z_any : PySem.W.nsIn K PySem.mainGlobals "any" = some none) (z_list : PySem.W.nsIn K PySem.mainGlobals "list" = some none) (z_sorted : PySem.W.nsIn K PySem.mainGlobals "sorted" = some none) :
    ∃ fd : PySem.FuncData, (∀ (s : PySem.Shared) (v : PySem.Value), PySem.BindsTo s fd ⟨[v], []⟩ [("_law_script", v)]) ∧ ∀ base : PySem.Heap, K.In base → base.Ns PySem.mainGlobals mg → GRun l.prog w K mg base 14 fa fd ["_law_script"] (spD K mg 1 m_law) := by
  have e := hfa.symm.trans (PySem.W.mg_of X G a29)
  cases e
  have F1 := fun_mk (st := s__law_draws) l1 c1 k1
  have b1 := F1.binds (ps := ["_law_script", "_law_k", "_law_bounds"]) fun _ _ _ _ _ _ us hl => match us, hl with | [_, _, _], _ => rfl
  have F2 := fun_mk (st := s__law_graph) l2 c2 k2
  have b2 := F2.binds (ps := ["_law_script", "_law_k", "_law_most"]) fun _ _ _ _ _ _ us hl => match us, hl with | [_, _, _], _ => rfl
  have F3 := fun_mk (st := s__law_far) l3 c3 k3
  have b3 := F3.binds (ps := ["_law_graph_here"]) fun _ _ _ _ _ _ us hl => match us, hl with | [_], _ => rfl
  have F4 := fun_mk (st := s__law_no_graph) l4 c4 k4
  have b4 := F4.binds (ps := ["_law_script", "_law_k"]) fun _ _ _ _ _ _ us hl => match us, hl with | [_, _], _ => rfl
  have F5 := fun_mk (st := s__law_equal) l5 c5 k5
  have b5 := F5.binds (ps := ["_law_actual", "_law_expected"]) fun _ _ _ _ _ _ us hl => match us, hl with | [_, _], _ => rfl
  have F6 := fun_mk (st := s_is_whole) l6 c6 k6
  have b6 := F6.binds (ps := ["value"]) fun _ _ _ _ _ _ us hl => match us, hl with | [_], _ => rfl
  have F7 := fun_mk (st := s__is_row) l7 c7 k7
  have b7 := F7.binds (ps := ["value", "at"]) fun _ _ _ _ _ _ us hl => match us, hl with | [_, _], _ => rfl
  have F8 := fun_mk (st := s_is_graph) l8 c8 k8
  have b8 := F8.binds (ps := ["value"]) fun _ _ _ _ _ _ us hl => match us, hl with | [_], _ => rfl
  have F9 := fun_mk (st := s_need_graph) l9 c9 k9
  have b9 := F9.binds (ps := ["graph"]) fun _ _ _ _ _ _ us hl => match us, hl with | [_], _ => rfl
  have F10 := fun_mk (st := s_tails_of) l10 c10 k10
  have b10 := F10.binds (ps := ["graph"]) fun _ _ _ _ _ _ us hl => match us, hl with | [_], _ => rfl
  have F11 := fun_mk (st := s_heads_of) l11 c11 k11
  have b11 := F11.binds (ps := ["graph"]) fun _ _ _ _ _ _ us hl => match us, hl with | [_], _ => rfl
  have F12 := fun_mk (st := s_span_of) l12 c12 k12
  have b12 := F12.binds (ps := ["graph"]) fun _ _ _ _ _ _ us hl => match us, hl with | [_], _ => rfl
  have F13 := fun_mk (st := s_longest_way) l13 c13 k13
  have b13 := F13.binds (ps := ["graph"]) fun _ _ _ _ _ _ us hl => match us, hl with | [_], _ => rfl
  have F14 := fun_mk (st := s__need_nodes) l14 c14 k14
  have b14 := F14.binds (ps := ["graph", "numbers"]) fun _ _ _ _ _ _ us hl => match us, hl with | [_, _], _ => rfl
  have F15 := fun_mk (st := s_behind) l15 c15 k15
  have b15 := F15.binds (ps := ["graph", "i"]) fun _ _ _ _ _ _ us hl => match us, hl with | [_, _], _ => rfl
  have F16 := fun_mk (st := s_is_ahead) l16 c16 k16
  have b16 := F16.binds (ps := ["graph", "i", "k"]) fun _ _ _ _ _ _ us hl => match us, hl with | [_, _, _], _ => rfl
  have F17 := fun_mk (st := s_beside) l17 c17 k17
  have b17 := F17.binds (ps := ["graph", "i"]) fun _ _ _ _ _ _ us hl => match us, hl with | [_, _], _ => rfl
  have F18 := fun_mk (st := s_work) l18 c18 k18
  have b18 := F18.binds (ps := ["graph"]) fun _ _ _ _ _ _ us hl => match us, hl with | [_], _ => rfl
  have F19 := fun_mk (st := s_heads) l19 c19 k19
  have b19 := F19.binds (ps := ["graph"]) fun _ _ _ _ _ _ us hl => match us, hl with | [_], _ => rfl
  have kb19 := fun_kbn (ps := ["graph"]) (ks := ["graph"]) F19 fun _ _ _ _ _ _ us hl => match us, hl with | [_], _ => rfl
  have F20 := fun_mk (st := s_tails) l20 c20 k20
  have b20 := F20.binds (ps := ["graph"]) fun _ _ _ _ _ _ us hl => match us, hl with | [_], _ => rfl
  have kb20 := fun_kbn (ps := ["graph"]) (ks := ["graph"]) F20 fun _ _ _ _ _ _ us hl => match us, hl with | [_], _ => rfl
  have F21 := fun_mk (st := s_span) l21 c21 k21
  have b21 := F21.binds (ps := ["graph"]) fun _ _ _ _ _ _ us hl => match us, hl with | [_], _ => rfl
  have F22 := fun_mk (st := s__law_asked) l22 c22 k22
  have b22 := F22.binds (ps := ["_law_which", "_law_graph_here", "_law_i", "_law_k"]) fun _ _ _ _ _ _ us hl => match us, hl with | [_, _, _, _], _ => rfl
  have F23 := fun_mk (st := s__law_told) l23 c23 k23
  have b23 := F23.binds (ps := ["_law_which", "_law_graph_here", "_law_i", "_law_k"]) fun _ _ _ _ _ _ us hl => match us, hl with | [_, _, _, _], _ => rfl
  have F24 := fun_mk (st := s__law_errors_right) l24 c24 k24
  have b24 := F24.binds (ps := ["_law_script", "_law_graph_here"]) fun _ _ _ _ _ _ us hl => match us, hl with | [_, _], _ => rfl
  have F25 := fun_mk (st := s__law_tails) l25 c25 k25
  have b25 := F25.binds (ps := ["_law_graph_here"]) fun _ _ _ _ _ _ us hl => match us, hl with | [_], _ => rfl
  have F26 := fun_mk (st := s__law_heads) l26 c26 k26
  have b26 := F26.binds (ps := ["_law_graph_here"]) fun _ _ _ _ _ _ us hl => match us, hl with | [_], _ => rfl
  have F27 := fun_mk (st := s__law_span) l27 c27 k27
  have b27 := F27.binds (ps := ["_law_graph_here"]) fun _ _ _ _ _ _ us hl => match us, hl with | [_], _ => rfl
  have F28 := fun_mk (st := s__law_longest) l28 c28 k28
  have b28 := F28.binds (ps := ["_law_graph_here"]) fun _ _ _ _ _ _ us hl => match us, hl with | [_], _ => rfl
  have F29 := fun_mk (st := s_law) l29 c29 k29
  have FI_InvalidGraph := fun_mk (st := s_InvalidGraph_i) lI_InvalidGraph cI_InvalidGraph kI_InvalidGraph
  have bI_InvalidGraph := FI_InvalidGraph.binds (ps := ["self", "value"]) fun _ _ _ _ _ _ us hl => match us, hl with | [_, _], _ => rfl
  have FI_InvalidNumber := fun_mk (st := s_InvalidNumber_i) lI_InvalidNumber cI_InvalidNumber kI_InvalidNumber
  have bI_InvalidNumber := FI_InvalidNumber.binds (ps := ["self", "value"]) fun _ _ _ _ _ _ us hl => match us, hl with | [_, _], _ => rfl
  have y_len : mg "len" = none := PySem.W.mg_none_of X G z_len
  have y_int : mg "int" = none := PySem.W.mg_none_of X G z_int
  have y_max : mg "max" = none := PySem.W.mg_none_of X G z_max
  have y_range : mg "range" = none := PySem.W.mg_none_of X G z_range
  have y_tuple : mg "tuple" = none := PySem.W.mg_none_of X G z_tuple
  have y_isinstance : mg "isinstance" = none := PySem.W.mg_none_of X G z_isinstance
  have y_bool : mg "bool" = none := PySem.W.mg_none_of X G z_bool
  have y_str : mg "str" = none := PySem.W.mg_none_of X G z_str
  have y_all : mg "all" = none := PySem.W.mg_none_of X G z_all
  have y_enumerate : mg "enumerate" = none := PySem.W.mg_none_of X G z_enumerate
  have y_any : mg "any" = none := PySem.W.mg_none_of X G z_any
  have y_list : mg "list" = none := PySem.W.mg_none_of X G z_list
  have y_sorted : mg "sorted" = none := PySem.W.mg_none_of X G z_sorted
  have K_InvalidNumber : ClsK K mg "InvalidNumber" ["value"] C_InvalidNumber := ⟨PySem.W.mg_of X G aC_InvalidNumber, ⟨ga_InvalidNumber, gg_InvalidNumber, eC_InvalidNumber, hC_InvalidNumber⟩, fun f hf => by simp at hf; subst hf; first | exact n0_InvalidNumber⟩
  have K_InvalidGraph : ClsK K mg "InvalidGraph" ["value"] C_InvalidGraph := ⟨PySem.W.mg_of X G aC_InvalidGraph, ⟨ga_InvalidGraph, gg_InvalidGraph, eC_InvalidGraph, hC_InvalidGraph⟩, fun f hf => by simp at hf; subst hf; first | exact n0_InvalidGraph⟩
  have M_InvalidGraph_InvalidNumber : ExmK K mg "InvalidGraph" C_InvalidNumber false := ⟨⟨C_InvalidGraph, PySem.W.mg_of X G aC_InvalidGraph, exm_of eC_InvalidNumber ic_InvalidNumber tC_InvalidNumber x_InvalidGraph_InvalidNumber⟩⟩
  have M_InvalidNumber_InvalidNumber : ExmK K mg "InvalidNumber" C_InvalidNumber true := ⟨⟨C_InvalidNumber, PySem.W.mg_of X G aC_InvalidNumber, exm_of eC_InvalidNumber ic_InvalidNumber tC_InvalidNumber x_InvalidNumber_InvalidNumber⟩⟩
  have M_InvalidGraph_InvalidGraph : ExmK K mg "InvalidGraph" C_InvalidGraph true := ⟨⟨C_InvalidGraph, PySem.W.mg_of X G aC_InvalidGraph, exm_of eC_InvalidGraph ic_InvalidGraph tC_InvalidGraph x_InvalidGraph_InvalidGraph⟩⟩
  have M_InvalidNumber_InvalidGraph : ExmK K mg "InvalidNumber" C_InvalidGraph false := ⟨⟨C_InvalidNumber, PySem.W.mg_of X G aC_InvalidNumber, exm_of eC_InvalidGraph ic_InvalidGraph tC_InvalidGraph x_InvalidNumber_InvalidGraph⟩⟩
  refine ⟨PySem.W.fnOf "law" "law" (defArgs s_law) (defBody s_law) (defScope s_law) .none kV29 dc29 pm29 an29 cd29 ct29, fun s v => .of_eq rfl, fun base _ _ => ?_⟩
  have E_InvalidGraph : ErrK l.prog w K mg base "InvalidGraph" ["value"] := er_InvalidGraph FI_InvalidGraph (PySem.W.mg_of X G aC_InvalidGraph) ⟨⟨_, _, _, _, _, _, _, _, _, _, _, _, _, _, _, xL_InvalidGraph, rv_InvalidGraph⟩, sa_InvalidGraph, eC_InvalidGraph, tC_InvalidGraph, kC_InvalidGraph⟩ ⟨ga_InvalidGraph, gg_InvalidGraph, eC_InvalidGraph, hC_InvalidGraph⟩ n0_InvalidGraph iC_InvalidGraph tI_InvalidGraph bI_InvalidGraph
  have E_InvalidNumber : ErrK l.prog w K mg base "InvalidNumber" ["value"] := er_InvalidNumber FI_InvalidNumber (PySem.W.mg_of X G aC_InvalidNumber) ⟨⟨_, _, _, _, _, _, _, _, _, _, _, _, _, _, _, xL_InvalidNumber, rv_InvalidNumber⟩, sa_InvalidNumber, eC_InvalidNumber, tC_InvalidNumber, kC_InvalidNumber⟩ ⟨ga_InvalidNumber, gg_InvalidNumber, eC_InvalidNumber, hC_InvalidNumber⟩ n0_InvalidNumber iC_InvalidNumber tI_InvalidNumber bI_InvalidNumber
  have H__law_draws : CallOk l.prog w K mg base "_law_draws" 1 3 m__law_draws := ok__law_draws F1 (PySem.W.mg_of X G a1) b1 y_len y_int y_max y_range
  have H__law_graph : CallOk l.prog w K mg base "_law_graph" 2 3 m__law_graph := ok__law_graph F2 (PySem.W.mg_of X G a2) b2 H__law_draws y_range y_int y_tuple
  have H__law_far : CallOk l.prog w K mg base "_law_far" 1 1 m__law_far := ok__law_far F3 (PySem.W.mg_of X G a3) b3 y_len y_range
  have H__law_no_graph : CallOk l.prog w K mg base "_law_no_graph" 2 2 m__law_no_graph := ok__law_no_graph F4 (PySem.W.mg_of X G a4) b4 H__law_draws
  have H__law_equal : CallOk l.prog w K mg base "_law_equal" 12 2 m__law_equal := ok__law_equal F5 (PySem.W.mg_of X G a5) b5 y_isinstance y_bool y_int y_str y_len y_tuple y_range 12
  have H_is_whole : CallOk l.prog w K mg base "is_whole" 1 1 m_is_whole := ok_is_whole F6 (PySem.W.mg_of X G a6) b6 y_isinstance y_bool y_int
  have H__is_row : CallOk l.prog w K mg base "_is_row" 2 2 m__is_row := ok__is_row F7 (PySem.W.mg_of X G a7) b7 H_is_whole y_all y_isinstance y_tuple y_len y_range
  have H_is_graph : CallOk l.prog w K mg base "is_graph" 3 1 m_is_graph := ok_is_graph F8 (PySem.W.mg_of X G a8) b8 H__is_row y_enumerate y_all y_isinstance y_tuple
  have H_need_graph : CallOk l.prog w K mg base "need_graph" 4 1 m_need_graph := ok_need_graph F9 (PySem.W.mg_of X G a9) b9 H_is_graph E_InvalidGraph
  have H_tails_of : CallOk l.prog w K mg base "tails_of" 1 1 m_tails_of := ok_tails_of F10 (PySem.W.mg_of X G a10) b10 y_len y_range y_max
  have H_heads_of : CallOk l.prog w K mg base "heads_of" 1 1 m_heads_of := ok_heads_of F11 (PySem.W.mg_of X G a11) b11 y_max
  have H_span_of : CallOk l.prog w K mg base "span_of" 2 1 m_span_of := ok_span_of F12 (PySem.W.mg_of X G a12) b12 H_heads_of y_max
  have H_longest_way : CallOk l.prog w K mg base "longest_way" 5 1 m_longest_way := ok_longest_way F13 (PySem.W.mg_of X G a13) b13 H_need_graph H_tails_of H_span_of y_enumerate y_len y_tuple
  have H__need_nodes : CallOk l.prog w K mg base "_need_nodes" 3 2 m__need_nodes := ok__need_nodes F14 (PySem.W.mg_of X G a14) b14 H_is_whole y_len E_InvalidNumber
  have H_behind : CallOk l.prog w K mg base "behind" 1 2 m_behind := ok_behind F15 (PySem.W.mg_of X G a15) b15 y_enumerate y_any y_list y_sorted
  have H_is_ahead : CallOk l.prog w K mg base "is_ahead" 5 3 m_is_ahead := ok_is_ahead F16 (PySem.W.mg_of X G a16) b16 H_need_graph H__need_nodes H_behind
  have H_beside : CallOk l.prog w K mg base "beside" 5 2 m_beside := ok_beside F17 (PySem.W.mg_of X G a17) b17 H_need_graph H__need_nodes H_behind y_len y_range y_tuple
  have H_work : CallOk l.prog w K mg base "work" 5 1 m_work := ok_work F18 (PySem.W.mg_of X G a18) b18 H_need_graph y_len
  have O_heads := fo_heads (P := l.prog) (w := w) (mg := mg) (base := base) F19 H_need_graph H_heads_of y_tuple
  have H_heads : CallOk l.prog w K mg base "heads" 5 1 m_heads := ⟨⟨_, _, _, (PySem.W.mg_of X G a19), O_heads, F19.kp, b19⟩⟩
  have HK_heads : CallKw l.prog w K mg base "heads" 5 1 ["graph"] m_heads := ⟨⟨_, _, _, (PySem.W.mg_of X G a19), O_heads, F19.kp, kb19⟩⟩
  have O_tails := fo_tails (P := l.prog) (w := w) (mg := mg) (base := base) F20 H_need_graph H_tails_of y_tuple
  have H_tails : CallOk l.prog w K mg base "tails" 5 1 m_tails := ⟨⟨_, _, _, (PySem.W.mg_of X G a20), O_tails, F20.kp, b20⟩⟩
  have HK_tails : CallKw l.prog w K mg base "tails" 5 1 ["graph"] m_tails := ⟨⟨_, _, _, (PySem.W.mg_of X G a20), O_tails, F20.kp, kb20⟩⟩
  have H_span : CallOk l.prog w K mg base "span" 5 1 m_span := ok_span F21 (PySem.W.mg_of X G a21) b21 H_need_graph H_span_of
  have H__law_asked : CallOk l.prog w K mg base "_law_asked" 6 4 m__law_asked := ok__law_asked F22 (PySem.W.mg_of X G a22) b22 H_is_ahead H_beside H_work H_heads H_tails H_span H_longest_way
  have H__law_told : CallOk l.prog w K mg base "_law_told" 7 4 m__law_told := ok__law_told F23 (PySem.W.mg_of X G a23) b23 H__law_asked K_InvalidNumber M_InvalidGraph_InvalidNumber M_InvalidNumber_InvalidNumber K_InvalidGraph M_InvalidGraph_InvalidGraph M_InvalidNumber_InvalidGraph
  have H__law_errors_right : CallOk l.prog w K mg base "_law_errors_right" 13 2 m__law_errors_right := ok__law_errors_right F24 (PySem.W.mg_of X G a24) b24 H__law_draws H__law_no_graph H__law_equal H__law_told y_len y_range
  have H__law_tails : CallOk l.prog w K mg base "_law_tails" 1 1 m__law_tails := ok__law_tails F25 (PySem.W.mg_of X G a25) b25 y_len y_range
  have H__law_heads : CallOk l.prog w K mg base "_law_heads" 1 1 m__law_heads := ok__law_heads F26 (PySem.W.mg_of X G a26) b26 
  have H__law_span : CallOk l.prog w K mg base "_law_span" 2 1 m__law_span := ok__law_span F27 (PySem.W.mg_of X G a27) b27 H__law_heads
  have H__law_longest : CallOk l.prog w K mg base "_law_longest" 3 1 m__law_longest := ok__law_longest F28 (PySem.W.mg_of X G a28) b28 H__law_tails H__law_span y_range y_len y_tuple
  exact ok_law F29 H__law_graph H__law_far H__law_equal H__law_span H_span H_work H_is_graph H__law_heads H__law_tails H__law_longest H_longest_way H_beside H_is_ahead H__law_errors_right HK_heads HK_tails y_len y_tuple y_range
end K16
namespace K16
open FK

/-! ### the law's numbers -/
@[simp] theorem gInt_bl (b : Bool) (k : Kd) : gInt (.bl b, k) = .ok (.int (if b = true then 1 else 0), .fz) := by cases b <;> rfl
theorem pow18 : opInt fPow (.int 10, .fz) (.int 18, .fz) = .ok (.int 1000000000000000000, .fz) := by
  refine opInt_ok ?_
  unfold fPow
  rw [if_pos ⟨by decide, by decide, by decide⟩]
  rfl
theorem draws_ok (ns : List Int) (kk : Int) (lim : List Int) (k : Kd) (hk : InK k) (hk0 : 0 ≤ kk ∧ kk < 1000) (hl : ∀ l ∈ lim, 0 < l ∧ l < 1073741824) (hz : lim.length ≤ 1000) :
    (m__law_draws [(.lst (iL ns), k), (.int kk, .fz), (.lst (iL lim), .fz)]).w fun x => ∃ ds : List Int, x = (.lst (iL ds), .ow) ∧ ds.length = lim.length ∧ ∀ (i : Nat) (d l : Int), ds[i]? = some d → lim[i]? = some l → 0 ≤ d ∧ d < l := by
  have hd := dVar_in hk (.lst (iL ns))
  have sz := sizeLine_val
  refine runD_w ?_
  have loop : ∀ (s0 h0 : Int), (forM (gName 6) b__law_draws_L1 (rangeL 0 1 lim.length) [some (.lst (iL ns), k), some (.int kk, .fz), some (.lst (iL lim), .fz), some (.int s0, .fz), some (.int h0, .fz), some (.lst [], .ow), none, none]).w
      (fun ρ => (retV 5 ρ).w (fun _ => False) (fun _ => False) (fun _ => False) fun x => ∃ ds : List Int, x = (.lst (iL ds), .ow) ∧ ds.length = lim.length ∧ ∀ (i : Nat) (d l : Int), ds[i]? = some d → lim[i]? = some l → 0 ≤ d ∧ d < l)
      (fun _ => False) (fun _ => False) fun x => ∃ ds : List Int, x = (.lst (iL ds), .ow) ∧ ds.length = lim.length ∧ ∀ (i : Nat) (d l : Int), ds[i]? = some d → lim[i]? = some l → 0 ≤ d ∧ d < l := by
    intro s0 h0
    refine w_rng (fun j ρ => ∃ (r : Int) (ds : List Int) (x y : Option DV), ρ = [some (.lst (iL ns), k), some (.int kk, .fz), some (.lst (iL lim), .fz), some (.int s0, .fz), some (.int r, .fz), some (.lst (iL ds), .ow), x, y] ∧ ds.length = j ∧ ∀ (i : Nat) (d l : Int), ds[i]? = some d → lim[i]? = some l → 0 ≤ d ∧ d < l)
      ⟨h0, [], none, none, rfl, rfl, fun i d l z => by simp at z⟩ (fun j ρ hj hI => ?_) ?_
    · obtain ⟨r, ds, x, y, rfl, hlen, hds⟩ := hI
      refine ⟨_, rfl, ?_⟩
      obtain ⟨h1, h2⟩ := hl lim[j] (List.getElem_mem hj)
      have hx : ∀ l, ixD (.lst (iL lim), .fz) (.int j, l) = .ok (.int lim[j], .fz) := fun l => ix_lst _ _ rfl (by rw [iL_get, List.getElem?_eq_getElem hj]; rfl)
      have new : ∀ v : Int, 0 ≤ v → v < lim[j] → ∀ (i : Nat) (d l : Int), (ds ++ [v])[i]? = some d → lim[i]? = some l → 0 ≤ d ∧ d < l := by
        intro v v1 v2 i d l e1 e2
        by_cases hi : i < ds.length
        · rw [List.getElem?_append_left hi] at e1
          exact hds i d l e1 e2
        · rw [List.getElem?_append_right (by omega)] at e1
          have : i - ds.length = 0 := by
            rcases Nat.eq_zero_or_pos (i - ds.length) with z | z
            · exact z
            · rw [List.getElem?_eq_none (by simp; omega)] at e1; cases e1
          rw [this] at e1
          cases e1
          have : i = j := by omega
          subst this
          rw [List.getElem?_eq_getElem hj] at e2
          cases e2
          exact ⟨v1, v2⟩
      have m1 := fun z : Int => new (z % lim[j]) (Int.emod_nonneg _ (by omega)) (Int.emod_lt_of_pos _ h1)
      have hz2 : j < PySem.sizeLine := by omega
      by_cases hr : r > 0
      · simp (dsimp := false) [b__law_draws_L1, hx, imod, idiv, h1, h2, appR_fz, hz2, hlen, hr]
        exact ⟨_, _, ⟨rfl, rfl⟩, by simp [hlen], m1 r⟩
      · have q1 : ∀ z : Int, (z % 2147483647).natAbs < 2 ^ 64 := fun z => by
          have := Int.emod_nonneg z (b := 2147483647) (by omega)
          have := Int.emod_lt_of_pos z (b := 2147483647) (by omega)
          omega
        have q2 : ∀ z : Int, (z % 2147483563).natAbs < 2 ^ 64 := fun z => by
          have := Int.emod_nonneg z (b := 2147483563) (by omega)
          have := Int.emod_lt_of_pos z (b := 2147483563) (by omega)
          omega
        simp (dsimp := false) [b__law_draws_L1, hd, hx, imod, idiv, h1, h2, appR_fz, hz2, hlen, hr, mul_small, q1, q2]
        exact ⟨_, _, ⟨rfl, rfl⟩, by simp [hlen], m1 _⟩
    · rintro _ ⟨r, ds, x, y, rfl, hlen, hds⟩
      simp (dsimp := false)
      exact ⟨ds, rfl, hlen, hds⟩
  have hr := rg1_nat lim.length .fz (by omega)
  by_cases g : kk < ns.length
  · have hx : ixD (.lst (iL ns), k) (.int kk, .fz) = .ok (.int (ns[kk.toNat]'(by omega)), .fz) := ix_lst (j := kk.toNat) _ _ (by omega) (by rw [iL_get, List.getElem?_eq_getElem (by omega)]; rfl)
    simp (dsimp := false) [b__law_draws, hd, g, hr, hx, pow18]
    exact SO.w_mono (loop _ _) (fun ρ h => SO.w_mono h (fun _ z => z.elim) (fun _ z => z) (fun _ z => z) fun _ z => z) (fun _ z => z) (fun _ z => z) fun _ z => z
  · by_cases g2 : 0 < ns.length
    · have hn : 0 < (ns.length : Int) := by omega
      have e1 := Int.emod_nonneg kk (b := ns.length) (by omega)
      have e2 := Int.emod_lt_of_pos kk (b := ns.length) (by omega)
      have hx : ixD (.lst (iL ns), k) (.int (kk % ns.length), .fz) = .ok (.int (ns[(kk % ns.length).toNat]'(by omega)), .fz) := ix_lst (j := (kk % ns.length).toNat) _ _ (by omega) (by rw [iL_get, List.getElem?_eq_getElem (by omega)]; rfl)
      simp (dsimp := false) [b__law_draws, hd, g, g2, hr, imod, hn, hx]
      exact SO.w_mono (loop _ _) (fun ρ h => SO.w_mono h (fun _ z => z.elim) (fun _ z => z) (fun _ z => z) fun _ z => z) (fun _ z => z) (fun _ z => z) fun _ z => z
    · simp (dsimp := false) [b__law_draws, hd, g, g2, hr]
      exact SO.w_mono (loop _ _) (fun ρ h => SO.w_mono h (fun _ z => z.elim) (fun _ z => z) (fun _ z => z) fun _ z => z) (fun _ z => z) (fun _ z => z) fun _ z => z
/-- a graph, as data -/
def gD (G : List (List Int)) : D := .tup (G.map fun r => .tup (iL r))
def Good (G : List (List Int)) : Prop := ∀ (i : Nat) (r : List Int), G[i]? = some r → r.Pairwise (· < ·) ∧ ∀ a ∈ r, 0 ≤ a ∧ a < i
theorem len_sub {α : Type} [DecidableEq α] : ∀ (dd l : List α), dd.Nodup → (∀ a ∈ dd, a ∈ l) → dd.length ≤ l.length
  | [], _, _, _ => Nat.zero_le _
  | a :: t, l, h, s => by
    obtain ⟨h1, h2⟩ := List.nodup_cons.mp h
    have ha := s a List.mem_cons_self
    have e := List.length_erase_of_mem ha
    have i := len_sub t (l.erase a) h2 fun b hb => (List.mem_erase_of_ne fun z => h1 (by rw [← z]; exact hb)).mpr (s b (List.mem_cons_of_mem _ hb))
    have : 0 < l.length := List.length_pos_of_mem ha
    rw [List.length_cons]
    omega
theorem asc_len {r : List Int} {n : Nat} (h1 : r.Pairwise (· < ·)) (h2 : ∀ a ∈ r, 0 ≤ a ∧ a < n) : r.length ≤ n := by
  have : r.Nodup := h1.imp fun h e => by omega
  have := len_sub r (rng n) this fun a ha => mem_rng.mpr (h2 a ha)
  rwa [rng_length] at this
theorem asc_snoc {r : List Int} {x : Int} (h : r.Pairwise (· < ·)) (hx : ∀ a ∈ r, a < x) : (r ++ [x]).Pairwise (· < ·) :=
  List.pairwise_append.mpr ⟨h, List.pairwise_singleton _ _, fun a ha b hb => by cases List.mem_singleton.mp hb; exact hx a ha⟩
def rest1 : Env → SO := (mSeq (mIf (tAndD (dTru (dVar 10)) (dCmp (cOrd oGt) (dBin opAdd (dBin (opInt fMod) (dCB (one gInt) (aCons (dVar 7) aNil)) (kInt 2)) (dCB (one gInt) (aCons (dAnd (dBin (cOrd oLt) (dBin ixD (dVar 3) (kInt 1)) (kInt 3)) (dBin (cOrd oGt) (dBin ixD (dVar 6) (kInt 1)) (kInt 3))) aNil))) (kInt 0))) (methS gAppend 8 (aCons (dVar 9) aNil)) mPass)
    (mIf (dTru (dVar 10)) (sSet 7 (dBin (opInt fDiv) (dVar 7) (kInt 2))) mPass))
theorem ite_w {p : Prop} [Decidable p] {a b : Prop} (h1 : p → a) (h2 : ¬ p → b) : if p then a else b := by
  split
  · exact h1 (by assumption)
  · exact h2 (by assumption)
theorem rest1_ok (e0 e1 e2 e4 e5 e9 : Option DV) (d0 d1 r0 r1 : Int) (num : Int) (bh : List Int) (j : Nat) (near : Bool) (hz : bh.length < PySem.sizeLine) :
    (rest1 [e0, e1, e2, some (.lst (iL [d0, d1]), .ow), e4, e5, some (.lst (iL [r0, r1]), .ow), some (.int num, .fz), some (.lst (iL bh), .ow), some (.int j, .fz), some (.bl near, .fz)]).w
      (fun ρ => ∃ (m : Int) (x : Option DV) (b2 : List Int), ρ = [e0, e1, e2, some (.lst (iL [d0, d1]), .ow), e4, e5, some (.lst (iL [r0, r1]), .ow), some (.int m, .fz), some (.lst (iL b2), .ow), some (.int j, .fz), x] ∧ (b2 = bh ∨ b2 = bh ++ [(j : Int)])) (fun _ => False) (fun _ => False) (fun _ => False) := by
  have hx1 : ixD (.lst (iL [d0, d1]), .al) (.int 1, .fz) = .ok (.int d1, .fz) := ix_lst (j := 1) _ _ rfl rfl
  have hy1 : ixD (.lst (iL [r0, r1]), .al) (.int 1, .fz) = .ok (.int r1, .fz) := ix_lst (j := 1) _ _ rfl rfl
  cases near with
  | false =>
    simp (dsimp := false) [rest1]
    exact ⟨_, _, _, ⟨rfl, rfl, rfl⟩, .inl rfl⟩
  | true =>
    by_cases c1 : d1 < 3
    · simp (dsimp := false) [rest1, hx1, hy1, c1, imod, idiv, appR_fz, hz]
      exact ite_w (fun _ => ⟨_, _, _, ⟨rfl, rfl, rfl⟩, .inr rfl⟩) (fun _ => ⟨_, _, _, ⟨rfl, rfl, rfl⟩, .inl rfl⟩)
    · simp (dsimp := false) [rest1, hx1, hy1, c1, imod, idiv, appR_fz, hz]
      exact ite_w (fun _ => ⟨_, _, _, ⟨rfl, rfl, rfl⟩, .inr rfl⟩) (fun _ => ⟨_, _, _, ⟨rfl, rfl, rfl⟩, .inl rfl⟩)
theorem turn_ok (e0 e1 e2 e4 x : Option DV) (i : Nat) (d0 d1 r0 r1 : Int) (num : Int) (bh : List Int) (j : Nat) (hz : bh.length < PySem.sizeLine) :
    (b__law_graph_L1 [e0, e1, e2, some (.lst (iL [d0, d1]), .ow), e4, some (.int i, .fz), some (.lst (iL [r0, r1]), .ow), some (.int num, .fz), some (.lst (iL bh), .ow), some (.int j, .fz), x]).w
      (fun ρ => ∃ (m : Int) (x : Option DV) (b2 : List Int), ρ = [e0, e1, e2, some (.lst (iL [d0, d1]), .ow), e4, some (.int i, .fz), some (.lst (iL [r0, r1]), .ow), some (.int m, .fz), some (.lst (iL b2), .ow), some (.int j, .fz), x] ∧ (b2 = bh ∨ b2 = bh ++ [(j : Int)])) (fun _ => False) (fun _ => False) (fun _ => False) := by
  have hx1 : ixD (.lst (iL [d0, d1]), .al) (.int 1, .fz) = .ok (.int d1, .fz) := ix_lst (j := 1) _ _ rfl rfl
  have e : b__law_graph_L1 = (mSeq (sSet 10 (dBin (cOrd oGe) (dVar 9) (dBin (opInt fSub) (dVar 5) (kInt 4))))
    (mSeq (mIf (dCmp (cEq id) (dBin ixD (dVar 3) (kInt 1)) (kInt 1)) (sSet 10 (dBin (cEq id) (dVar 9) (dBin (opInt fSub) (dVar 5) (kInt 1)))) mPass)
    (mSeq (mIf (dCmp (cEq id) (dBin ixD (dVar 3) (kInt 1)) (kInt 2)) (sSet 10 (dBin (cEq id) (dBin (opInt fDiv) (dVar 9) (kInt 3)) (dBin (opInt fSub) (dBin (opInt fDiv) (dVar 5) (kInt 3)) (kInt 1)))) mPass) rest1))) := rfl
  rw [e]
  by_cases c1 : d1 = 1
  · subst c1
    simp (dsimp := false) [hx1]
    exact rest1_ok _ _ _ _ _ none _ _ _ _ _ _ _ _ hz
  · by_cases c2 : d1 = 2
    · subst c2
      simp (dsimp := false) [hx1, idiv]
      exact rest1_ok _ _ _ _ _ none _ _ _ _ _ _ _ _ hz
    · simp (dsimp := false) [hx1, c1, c2]
      exact rest1_ok _ _ _ _ _ none _ _ _ _ _ _ _ _ hz
theorem two_of {ds : List Int} (h : ds.length = 2) : ∃ a b, ds = [a, b] := by
  match ds, h with
  | [a, b], _ => exact ⟨a, b, rfl⟩
theorem graph_ok (ns : List Int) (s m : Nat) (hs : s ≤ 100) (hm : m ≤ 50) : (m__law_graph [(.lst (iL ns), .fz), (.int s, .fz), (.int m, .fz)]).w fun x => ∃ G, x = (gD G, .fz) ∧ G.length ≤ m ∧ Good G := by
  have sz := sizeLine_val
  refine runD_w ?_
  simp (dsimp := false) [b__law_graph, iL_one, iL_cons]
  refine R.w_mono (draws_ok ns s [1 + m, 5] .fz (.inl rfl) (by omega) (fun l h => ?_) (by simp)) ?_
  · simp at h
    omega
  rintro _ ⟨ds, rfl, h1, h2⟩
  obtain ⟨d0, d1, rfl⟩ := two_of h1
  obtain ⟨b1, b2⟩ := h2 0 d0 _ rfl rfl
  have hx0 : ixD (.lst (iL [d0, d1]), .al) (.int 0, .fz) = .ok (.int d0, .fz) := ix_lst (j := 0) _ _ rfl rfl
  obtain ⟨n, rfl⟩ : ∃ e : Nat, d0 = e := ⟨d0.toNat, by omega⟩
  have hrn := rg1_nat n .fz (by omega)
  simp (dsimp := false) [hx0, hrn]
  refine w_rng (fun j ρ => ∃ (G : List (List Int)) (x y z u v w : Option DV), ρ = [some (.lst (iL ns), .fz), some (.int s, .fz), some (.int m, .fz), some (.lst (iL [(n : Int), d1]), .ow), some (.lst (G.map fun r => .tup (iL r)), .ow), x, y, z, u, v, w] ∧ G.length = j ∧ Good G)
    ⟨[], _, _, _, _, _, _, rfl, rfl, fun i r e => by simp at e⟩ (fun i ρ hi hI => ?_) ?_
  · obtain ⟨G, x, y, z, u, v, w, rfl, hG, g⟩ := hI
    refine ⟨_, rfl, ?_⟩
    have hsn : (s : Int) + 1 + (i : Int) % 12 = ((s + 1 + i % 12 : Nat) : Int) := by omega
    simp (dsimp := false) [b__law_graph_L2, iL_one, iL_cons, imod]
    refine R.w_mono (draws_ok ns ((s : Int) + 1 + (i : Int) % 12) [2520, 6] .fz (.inl rfl) (by omega) (fun l h => ?_) (by simp)) ?_
    · simp at h
      omega
    rintro _ ⟨rs, rfl, h3, h4⟩
    obtain ⟨r0, r1, rfl⟩ := two_of h3
    have hy0 : ixD (.lst (iL [r0, r1]), .al) (.int 0, .fz) = .ok (.int r0, .fz) := ix_lst (j := 0) _ _ rfl rfl
    have hy1 : ixD (.lst (iL [r0, r1]), .al) (.int 1, .fz) = .ok (.int r1, .fz) := ix_lst (j := 1) _ _ rfl rfl
    have hx1 : ixD (.lst (iL [(n : Int), d1]), .al) (.int 1, .fz) = .ok (.int d1, .fz) := ix_lst (j := 1) _ _ rfl rfl
    have hri := rg1_nat i .fz (by omega)
    simp (dsimp := false) [hy0, hri]
    refine w_rng (fun j ρ => ∃ (num : Int) (bh : List Int) (x y : Option DV), ρ = [some (.lst (iL ns), .fz), some (.int s, .fz), some (.int m, .fz), some (.lst (iL [(n : Int), d1]), .ow), some (.lst (G.map fun r => .tup (iL r)), .ow), some (.int i, .fz), some (.lst (iL [r0, r1]), .ow), some (.int num, .fz), some (.lst (iL bh), .ow), x, y] ∧ bh.Pairwise (· < ·) ∧ ∀ a ∈ bh, 0 ≤ a ∧ a < j)
      ⟨_, [], _, _, rfl, .nil, fun a h => nomatch h⟩ (fun j ρ hj hJ => ?_) ?_
    · obtain ⟨num, bh, x, y, rfl, p1, p2⟩ := hJ
      refine ⟨_, rfl, ?_⟩
      have hl := asc_len p1 p2
      refine SO.w_mono (turn_ok _ _ _ _ y i _ _ _ _ num bh j (by omega)) ?_ (fun _ z => z.elim) (fun _ z => z.elim) (fun _ z => z.elim)
      rintro _ ⟨m2, x2, b2, rfl, e | e⟩
      · subst e
        exact ⟨_, _, _, _, rfl, p1, fun a ha => by have := p2 a ha; omega⟩
      · subst e
        refine ⟨_, _, _, _, rfl, asc_snoc p1 fun a ha => (p2 a ha).2, fun a ha => ?_⟩
        rcases List.mem_append.mp ha with z | z
        · have := p2 a z; omega
        · cases List.mem_singleton.mp z
          omega
    · rintro _ ⟨num, bh, x, y, rfl, p1, p2⟩
      have fin : ∀ b2 : List Int, b2.Pairwise (· < ·) → (∀ a ∈ b2, 0 ≤ a ∧ a < (i : Int)) → Good (G ++ [b2]) := by
        intro b2 q1 q2 i2 r e
        by_cases c : i2 < G.length
        · rw [List.getElem?_append_left c] at e
          exact g i2 r e
        · rw [List.getElem?_append_right (by omega)] at e
          have : i2 - G.length = 0 := by
            rcases Nat.eq_zero_or_pos (i2 - G.length) with z | z
            · exact z
            · rw [List.getElem?_eq_none (by simp; omega)] at e; cases e
          rw [this] at e
          cases e
          have : i2 = i := by omega
          subst this
          exact ⟨q1, q2⟩
      have hz : G.length < PySem.sizeLine := by omega
      have ap : ∀ b2 : List Int, (G.map fun r => D.tup (iL r)) ++ [D.tup (iL b2)] = (G ++ [b2]).map fun r => D.tup (iL r) := fun b2 => by rw [List.map_append]; rfl
      by_cases c : d1 = 4 ∧ r1 < 3
      · obtain ⟨rfl, c2⟩ := c
        simp (dsimp := false) [hx1, hy1, c2, appR_fz, hz]
        exact ⟨G ++ [[]], ap [], by simp; exact hG, fin [] .nil fun a h => nomatch h⟩
      · by_cases c1 : d1 = 4
        · subst c1
          have c2 : ¬ r1 < 3 := fun z => c ⟨rfl, z⟩
          simp (dsimp := false) [hx1, hy1, c2, appR_fz, hz]
          exact ⟨G ++ [bh], ap bh, by simp; exact hG, fin bh p1 p2⟩
        · simp (dsimp := false) [hx1, hy1, c1, appR_fz, hz]
          exact ⟨G ++ [bh], ap bh, by simp; exact hG, fin bh p1 p2⟩
  · rintro _ ⟨G, x, y, z, u, v, w, rfl, hG, g⟩
    simp (dsimp := false)
    exact ⟨G, rfl, by omega, g⟩
theorem is_whole_int (i : Int) (k : Kd) (hk : InK k) : m_is_whole [(.int i, k)] = .ok (.bl true, .fz) := by
  refine R.w_eq (runD_w ?_)
  simp (dsimp := false) [b_is_whole, dVar_in hk]
theorem row_ok (r : List Int) (n : Nat) (h1 : r.Pairwise (· < ·)) (h2 : ∀ a ∈ r, 0 ≤ a ∧ a < n) (h3 : r.length ≤ 1000) : m__is_row [(.tup (iL r), .fz), (.int n, .fz)] = .ok (.bl true, .fz) := by
  have sz := sizeLine_val
  have hz : r.length ≤ PySem.sizeLine := by omega
  have hw := fun i => is_whole_int i .fz (.inl rfl)
  have hr : rg1 (.int ((r.length : Int) - 1), .fz) = .ok (rangeL 0 1 (r.length - 1), .fz) := by
    have : -(2 ^ 62 : Int) ≤ (r.length : Int) - 1 ∧ (r.length : Int) - 1 < 2 ^ 62 := ⟨by omega, by omega⟩
    unfold rg1
    simp only [this, and_self, if_true]
    congr 3
    omega
  refine R.w_eq (runD_w ?_)
  simp (dsimp := false) [b__is_row, hz]
  refine w_lcI (fun _ => true) (fun a => .bl (decide (0 ≤ a ∧ a < n))) (fun a ha => ⟨_, rfl, ?_⟩) ?_
  · obtain ⟨p1, p2⟩ := h2 a ha
    simp (dsimp := false) [hw, p1, p2]
  rw [List.filter_eq_self.mpr fun _ _ => rfl]
  have hg := gAllT (xs := r.map fun a => .bl (decide (0 ≤ a ∧ a < (n : Int)))) .ow (fun d hd => by
    obtain ⟨a, ha, rfl⟩ := List.mem_map.mp hd
    obtain ⟨p1, p2⟩ := h2 a ha
    simp [p1, p2])
  generalize (r.map fun a => D.bl (decide (0 ≤ a ∧ a < (n : Int)))) = xs1 at hg ⊢
  have hz2 : r.length - 1 ≤ PySem.sizeLine := by omega
  simp (dsimp := false) [hg, hr, rangeL_rng, hz2]
  refine w_lcI (fun _ => true) (fun a => .bl true) (fun a ha => ⟨_, rfl, ?_⟩) ?_
  · obtain ⟨p1, p2⟩ := mem_rng.mp ha
    obtain ⟨i, rfl⟩ : ∃ i : Nat, a = i := ⟨a.toNat, by omega⟩
    have q1 : i < r.length := by omega
    have q2 : i + 1 < r.length := by omega
    have x1 : ∀ l, ixD (.tup (iL r), .fz) (.int (i : Int), l) = .ok (.int r[i], .fz) := fun l => ix_tup _ _ rfl (by rw [iL_get, List.getElem?_eq_getElem q1]; rfl)
    have x2 : ∀ l, ixD (.tup (iL r), .fz) (.int ((i : Int) + 1), l) = .ok (.int r[i + 1], .fz) := fun l => ix_tup (j := i + 1) _ _ (by omega) (by rw [iL_get, List.getElem?_eq_getElem q2]; rfl)
    have lt : r[i] < r[i + 1] := List.pairwise_iff_getElem.mp h1 i (i + 1) q1 q2 (by omega)
    simp (dsimp := false) [x1, x2, lt]
  have hg2 := fun l => gAllT (xs := (l : List Int).map fun _ => .bl true) .ow (fun d hd => by
    obtain ⟨a, ha, rfl⟩ := List.mem_map.mp hd
    rfl)
  simp (dsimp := false) only [R.bind_ok, R.w_ok, e_aNil, one_eq, hg2, retD_fz, SO.w_rt]
theorem isg_ok (G : List (List Int)) (hG : Good G) (hl : G.length ≤ 100) : m_is_graph [(gD G, .fz)] = .ok (.bl true, .fz) := by
  have sz := sizeLine_val
  have hz : G.length ≤ PySem.sizeLine := by omega
  refine R.w_eq (runD_w ?_)
  simp (dsimp := false) [b_is_graph, gD, enumL_rng, hz]
  refine w_lc (fun _ => true) (fun _ => .bl true) (fun d hd => ?_) ?_
  · obtain ⟨i, hi, rfl⟩ := List.mem_map.mp hd
    have hi := List.mem_range.mp hi
    obtain ⟨g1, g2⟩ := hG i G[i] (List.getElem?_eq_getElem hi)
    have g3 := asc_len g1 g2
    refine ⟨_, rfl, ?_⟩
    simp (dsimp := false) [hi, row_ok _ _ g1 g2 (by omega)]
  have hg2 := fun l => gAllT (xs := (l : List D).map fun _ => .bl true) .ow (fun d hd => by
    obtain ⟨a, ha, rfl⟩ := List.mem_map.mp hd
    rfl)
  simp (dsimp := false) only [R.bind_ok, R.w_ok, e_aNil, one_eq, hg2, retD_fz, SO.w_rt]
theorem need_ok (G : List (List Int)) (hG : Good G) (hl : G.length ≤ 100) : m_need_graph [(gD G, .fz)] = .ok (.non, .fz) := by
  refine R.w_eq (runD_w ?_)
  simp (dsimp := false) [b_need_graph, isg_ok G hG hl]
def deps (G : List (List Int)) (i : Int) : List Int := G.getD i.toNat []
theorem deps_nat (G : List (List Int)) {i : Nat} (h : i < G.length) : deps G i = G[i] := by
  unfold deps
  rw [Int.toNat_natCast, List.getD_eq_getElem?_getD, List.getElem?_eq_getElem h]
  rfl
/-! ### sinks, tails -/
def sinks (G : List (List Int)) : List Int := (rng G.length).filter fun i => !(G.any fun r => decide (i ∈ r))
theorem sinks_sub {G : List (List Int)} {a : Int} (h : a ∈ sinks G) : 0 ≤ a ∧ a < G.length := mem_rng.mp (List.mem_filter.mp h).1
theorem put_int {i : Nat} {ρ : Env} {xs : List Int} {v : Int} {j : Nat} (l : Kd) (h : j < xs.length) : putS i ρ (.lst (iL xs)) (.int v, .fz) (.int j, l) = .nx (ρ.set i (some (.lst (iL (xs.set j v)), .ow))) := by
  have hx : L2.ixN (iL xs).length (j : Int) = some j := by
    unfold L2.ixN
    rw [iL_length]
    split <;> (first | omega | skip)
    · split <;> (first | omega | simp)
  have hs : (iL xs).set j (D.int v) = iL (xs.set j v) := by
    unfold iL
    rw [List.map_set]
  unfold putS
  simp only [keep1_fz, hx, hs]
def mx0 (ns : List Int) : Int := ns.foldl max 0
theorem mx0_ge (ns : List Int) : 0 ≤ mx0 ns ∧ ∀ a ∈ ns, a ≤ mx0 ns := foldl_max_ge ns 0
theorem mx0_le {ns : List Int} {m : Int} (h0 : 0 ≤ m) (h : ∀ a ∈ ns, a ≤ m) : mx0 ns ≤ m := by
  have go : ∀ (ns : List Int) (n : Int), n ≤ m → (∀ a ∈ ns, a ≤ m) → ns.foldl max n ≤ m := by
    intro ns
    induction ns with
    | nil => exact fun n h _ => h
    | cons a r ih => exact fun n h hs => ih (max n a) (by have := hs a List.mem_cons_self; omega) fun b hb => hs b (List.mem_cons_of_mem _ hb)
  exact go ns 0 h0 h
theorem maxDef_ok (ns : List Int) (h : ∀ a ∈ ns, 0 ≤ a) (k l : Kd) : gMaxDef (.lst (iL ns), k) (.int 0, l) = .ok (.int (mx0 ns), .fz) := by
  have e : (if ns = [] then 0 else maxI ns) = mx0 ns := by
    cases ns with
    | nil => rfl
    | cons a r =>
      rw [if_neg (by simp)]
      show r.foldl max a = r.foldl max (max 0 a)
      rw [Int.max_eq_right (h a List.mem_cons_self)]
  unfold gMaxDef
  dsimp only
  rw [show intsD (iL ns) = some ns from intsD_map ns]
  dsimp only
  rw [e]
theorem maxL_ok (ns : List Int) (k : Kd) : gInts fMaxL (.lst (iL (0 :: ns)), k) = .ok (.int (mx0 ns), .fz) := by
  unfold gInts
  dsimp only
  rw [show intsD (iL (0 :: ns)) = some (0 :: ns) from intsD_map (0 :: ns)]
  rfl
def nth (acc : List Int) (a : Int) : Int := acc.getD a.toNat 0
theorem nth_at {acc : List Int} {a : Int} (h : a.toNat < acc.length) : nth acc a = acc[a.toNat] := by
  unfold nth
  rw [List.getD_eq_getElem?_getD, List.getElem?_eq_getElem h]
  rfl
def hdf (acc row : List Int) : List Int := acc ++ [mx0 (row.map fun a => nth acc a + 1)]
def hds (G : List (List Int)) : List Int := G.foldl hdf []
theorem hdf_len : ∀ (B : List (List Int)) (acc : List Int), (B.foldl hdf acc).length = acc.length + B.length
  | [], _ => rfl
  | r :: B, acc => by rw [List.foldl_cons, hdf_len B]; simp [hdf]; omega
theorem hdf_pre : ∀ (B : List (List Int)) (acc : List Int), ∃ C, B.foldl hdf acc = acc ++ C
  | [], acc => ⟨[], by simp⟩
  | r :: B, acc => by
    obtain ⟨C, h⟩ := hdf_pre B (hdf acc r)
    exact ⟨mx0 (r.map fun a => nth acc a + 1) :: C, by rw [List.foldl_cons, h]; simp [hdf]⟩
theorem hdf_nn : ∀ (B : List (List Int)) (acc : List Int), (∀ a ∈ acc, 0 ≤ a) → ∀ a ∈ B.foldl hdf acc, 0 ≤ a
  | [], _, h => h
  | r :: B, acc, h => hdf_nn B _ fun a ha => by
    rcases List.mem_append.mp ha with z | z
    · exact h a z
    · cases List.mem_singleton.mp z
      exact (mx0_ge _).1
theorem hds_len (G : List (List Int)) : (hds G).length = G.length := by
  have := hdf_len G []
  simpa [hds] using this
theorem hds_nn (G : List (List Int)) : ∀ a ∈ hds G, 0 ≤ a := hdf_nn G [] fun a h => nomatch h
theorem hds_take {G : List (List Int)} {j : Nat} (h : j < G.length) : hds (G.take (j + 1)) = hdf (hds (G.take j)) G[j] := by
  unfold hds
  rw [List.take_succ_eq_append_getElem h, List.foldl_append]
  rfl
theorem hds_at {G : List (List Int)} {j : Nat} (h : j < G.length) : ∃ C, hds G = hds (G.take j) ++ (mx0 (G[j].map fun a => nth (hds (G.take j)) a + 1) :: C) := by
  obtain ⟨C, e⟩ := hdf_pre (G.drop (j + 1)) (hds (G.take (j + 1)))
  refine ⟨C, ?_⟩
  have : hds G = (G.drop (j + 1)).foldl hdf (hds (G.take (j + 1))) := by
    unfold hds
    rw [← List.foldl_append, List.take_append_drop]
  rw [this, e, hds_take h]
  simp [hdf]
def Hd (G : List (List Int)) (v : Int) : Int := nth (hds G) v
theorem take_len {G : List (List Int)} {j : Nat} (h : j < G.length) : (hds (G.take j)).length = j := by
  rw [hds_len, List.length_take]
  omega
theorem hd_at {G : List (List Int)} {j : Nat} (h : j < G.length) : Hd G j = mx0 (G[j].map fun a => nth (hds (G.take j)) a + 1) := by
  obtain ⟨C, e⟩ := hds_at h
  have := take_len h
  show (hds G).getD (j : Int).toNat 0 = _
  rw [e, List.getD_eq_getElem?_getD, List.getElem?_append_right (by omega)]
  simp [this]
theorem hd_lt {G : List (List Int)} {j : Nat} (h : j < G.length) {a : Int} (h1 : 0 ≤ a) (h2 : a < j) : nth (hds (G.take j)) a = Hd G a := by
  obtain ⟨C, e⟩ := hds_at h
  have := take_len h
  unfold Hd nth
  rw [e, List.getD_eq_getElem?_getD, List.getD_eq_getElem?_getD, List.getElem?_append_left (by omega)]
theorem hd_step {G : List (List Int)} (hG : Good G) {v u : Int} (hv : v ∈ rng G.length) (hu : u ∈ deps G v) : Hd G u + 1 ≤ Hd G v := by
  obtain ⟨h0, h1⟩ := mem_rng.mp hv
  obtain ⟨j, rfl⟩ : ∃ j : Nat, v = j := ⟨v.toNat, by omega⟩
  have hj : j < G.length := by omega
  rw [deps_nat G hj] at hu
  obtain ⟨b1, b2⟩ := (hG j _ (List.getElem?_eq_getElem hj)).2 u hu
  rw [hd_at hj, ← hd_lt hj b1 b2]
  exact (mx0_ge _).2 _ (List.mem_map.mpr ⟨u, hu, rfl⟩)
def spanV (G : List (List Int)) : Int := mx0 ((hds G).map fun a => a + 1)
theorem hd_span {G : List (List Int)} {v : Int} (hv : v ∈ rng G.length) : Hd G v + 1 ≤ spanV G := by
  obtain ⟨h0, h1⟩ := mem_rng.mp hv
  have hl := hds_len G
  refine (mx0_ge _).2 _ (List.mem_map.mpr ⟨Hd G v, ?_, rfl⟩)
  unfold Hd nth
  rw [List.getD_eq_getElem?_getD, List.getElem?_eq_getElem (by omega)]
  exact List.getElem_mem _
theorem hd_le {G : List (List Int)} (hG : Good G) : ∀ j : Nat, j < G.length → Hd G j ≤ j := by
  intro j
  induction j using Nat.strongRecOn with
  | _ j ih =>
    intro h
    rw [hd_at h]
    refine mx0_le (by omega) fun a ha => ?_
    obtain ⟨b, hb, rfl⟩ := List.mem_map.mp ha
    obtain ⟨b1, b2⟩ := (hG j _ (List.getElem?_eq_getElem h)).2 b hb
    rw [hd_lt h b1 b2]
    have := ih b.toNat (by omega) (by omega)
    rw [Int.toNat_of_nonneg b1] at this
    omega
theorem span_le {G : List (List Int)} (hG : Good G) : spanV G ≤ G.length := by
  refine mx0_le (by omega) fun a ha => ?_
  obtain ⟨b, hb, rfl⟩ := List.mem_map.mp ha
  obtain ⟨j, hj, rfl⟩ := List.getElem_of_mem hb
  have hl := hds_len G
  have := hd_le hG j (by omega)
  unfold Hd nth at this
  rw [Int.toNat_natCast, List.getD_eq_getElem?_getD, List.getElem?_eq_getElem hj] at this
  simp only [Option.getD_some] at this
  omega
theorem span_nn (G : List (List Int)) : 0 ≤ spanV G := (mx0_ge _).1
theorem lc_all (ns : List Int) (f : Int → Int) : List.map (fun a => D.int (f a)) (List.filter (fun _ => true) ns) = iL (ns.map f) := by
  unfold iL
  rw [List.map_map, List.filter_eq_self.mpr fun _ _ => rfl]
  rfl
theorem heads_ok {G : List (List Int)} (hG : Good G) (hl : G.length ≤ 100) : m_heads_of [(gD G, .fz)] = .ok (.lst (iL (hds G)), .ow) := by
  have sz := sizeLine_val
  have hit : itemsD (gD G, .fz) = .ok (G.map fun r => .tup (iL r), .fz) := rfl
  refine R.w_eq (runD_w ?_)
  simp (dsimp := false) [b_heads_of, hit]
  refine w_for (fun j ρ => ∃ x y : Option DV, ρ = [some (gD G, .fz), some (.lst (iL (hds (G.take j))), .ow), x, y]) ⟨none, none, rfl⟩ (fun j d ρ e hI => ?_) ?_
  · obtain ⟨x, y, rfl⟩ := hI
    rw [List.getElem?_map] at e
    obtain ⟨r, er, rfl⟩ := Option.map_eq_some_iff.mp e
    obtain ⟨hj, er'⟩ := List.getElem?_eq_some_iff.mp er
    obtain ⟨g1, g2⟩ := hG j r er
    have g3 := asc_len g1 g2
    have hz : r.length ≤ PySem.sizeLine := by omega
    have htl := take_len hj
    have hz2 : (hds (G.take j)).length < PySem.sizeLine := by omega
    refine ⟨_, rfl, ?_⟩
    simp (dsimp := false) [b_heads_of_L1, hz]
    refine w_lcI (fun _ => true) (fun a => .int (nth (hds (G.take j)) a + 1)) (fun a ha => ⟨_, rfl, ?_⟩) ?_
    · obtain ⟨b1, b2⟩ := g2 a ha
      have hx : ixD (.lst (iL (hds (G.take j))), .al) (.int a, .fz) = .ok (.int (nth (hds (G.take j)) a), .fz) :=
        ix_lst (j := a.toNat) _ _ (by omega) (by rw [iL_get, nth_at (by omega), List.getElem?_eq_getElem (by omega)]; rfl)
      simp (dsimp := false) [hx]
    · rw [lc_all]
      have hm := maxDef_ok (r.map fun a => nth (hds (G.take j)) a + 1) (fun a ha => by
        obtain ⟨b, hb, rfl⟩ := List.mem_map.mp ha
        obtain ⟨b1, b2⟩ := g2 b hb
        have := hds_nn (G.take j) (nth (hds (G.take j)) b) (by
          rw [nth_at (by omega)]
          exact List.getElem_mem _)
        omega) .ow .fz
      have e3 : hds (G.take j) ++ [mx0 (r.map fun a => nth (hds (G.take j)) a + 1)] = hds (G.take (j + 1)) := by rw [hds_take hj, ← er']; rfl
      simp (dsimp := false) [hm, appR_fz, hz2, e3]
  · rintro _ ⟨x, y, rfl⟩
    rw [List.length_map, List.take_length]
    simp (dsimp := false)
theorem span_of_ok {G : List (List Int)} (hG : Good G) (hl : G.length ≤ 100) : m_span_of [(gD G, .fz)] = .ok (.int (spanV G), .fz) := by
  have sz := sizeLine_val
  have hlen := hds_len G
  have hz : (hds G).length ≤ PySem.sizeLine := by omega
  refine R.w_eq (runD_w ?_)
  simp (dsimp := false) [b_span_of, heads_ok hG hl, hz]
  refine w_lcI (fun _ => true) (fun a => .int (a + 1)) (fun a ha => ⟨_, rfl, by simp (dsimp := false)⟩) ?_
  rw [lc_all (hds G) fun a => a + 1]
  have hm := maxDef_ok ((hds G).map fun a => a + 1) (fun a ha => by
    obtain ⟨b, hb, rfl⟩ := List.mem_map.mp ha
    have := hds_nn G b hb
    omega) .ow .fz
  simp (dsimp := false) [hm]
  rfl
theorem span_ok {G : List (List Int)} (hG : Good G) (hl : G.length ≤ 100) : m_span [(gD G, .fz)] = .ok (.int (spanV G), .fz) := by
  refine R.w_eq (runD_w ?_)
  simp (dsimp := false) [b_span, need_ok G hG hl, span_of_ok hG hl]
theorem work_ok {G : List (List Int)} (hG : Good G) (hl : G.length ≤ 100) : m_work [(gD G, .fz)] = .ok (.int G.length, .fz) := by
  have hlen : gLen (gD G, .fz) = .ok (.int G.length, .fz) := by simp [gD]
  refine R.w_eq (runD_w ?_)
  simp (dsimp := false) [b_work, need_ok G hG hl, hlen]

theorem mx0_app (l : List Int) (x : Int) : mx0 (l ++ [x]) = max (mx0 l) x := by
  unfold mx0
  rw [List.foldl_append]
  rfl
theorem mx0_take {l : List Int} {j : Nat} {x : Int} (h : l[j]? = some x) : mx0 (l.take (j + 1)) = max (mx0 (l.take j)) x := by
  obtain ⟨hj, e⟩ := List.getElem?_eq_some_iff.mp h
  rw [List.take_succ_eq_append_getElem hj, e, mx0_app]
theorem law_heads_ok {G : List (List Int)} (hG : Good G) (hl : G.length ≤ 100) : m__law_heads [(gD G, .fz)] = .ok (.lst (iL (hds G)), .ow) := by
  have sz := sizeLine_val
  have hit : itemsD (gD G, .fz) = .ok (G.map fun r => .tup (iL r), .fz) := rfl
  refine R.w_eq (runD_w ?_)
  simp (dsimp := false) [b__law_heads, hit]
  refine w_for (fun j ρ => ∃ x y z : Option DV, ρ = [some (gD G, .fz), some (.lst (iL (hds (G.take j))), .ow), x, y, z]) ⟨none, none, none, rfl⟩ (fun j d ρ e hI => ?_) ?_
  · obtain ⟨x, y, z, rfl⟩ := hI
    rw [List.getElem?_map] at e
    obtain ⟨r, er, rfl⟩ := Option.map_eq_some_iff.mp e
    obtain ⟨hj, er'⟩ := List.getElem?_eq_some_iff.mp er
    obtain ⟨g1, g2⟩ := hG j r er
    have htl := take_len hj
    have hz2 : (hds (G.take j)).length < PySem.sizeLine := by omega
    refine ⟨_, rfl, ?_⟩
    simp (dsimp := false) [b__law_heads_L2]
    refine w_for (fun j2 ρ => ∃ z : Option DV, ρ = [some (gD G, .fz), some (.lst (iL (hds (G.take j))), .ow), some (.tup (iL r), .fz), some (.int (mx0 ((r.map fun a => nth (hds (G.take j)) a + 1).take j2)), .fz), z]) ⟨z, rfl⟩ (fun j2 d ρ e hJ => ?_) ?_
    · obtain ⟨z, rfl⟩ := hJ
      obtain ⟨a, ea, rfl⟩ := iL_at e
      obtain ⟨q1, q2⟩ := List.getElem?_eq_some_iff.mp ea
      obtain ⟨b1, b2⟩ := g2 a (List.mem_of_getElem? ea)
      have hx : ixD (.lst (iL (hds (G.take j))), .al) (.int a, .fz) = .ok (.int (nth (hds (G.take j)) a), .fz) :=
        ix_lst (j := a.toNat) _ _ (by omega) (by rw [iL_get, nth_at (by omega), List.getElem?_eq_getElem (by omega)]; rfl)
      have hn := mx0_take (l := r.map fun a => nth (hds (G.take j)) a + 1) (j := j2) (x := nth (hds (G.take j)) a + 1) (by rw [List.getElem?_map, ea]; rfl)
      generalize (r.map fun a => nth (hds (G.take j)) a + 1) = L at hn ⊢
      generalize nth (hds (G.take j)) a = va at hn hx
      refine ⟨_, rfl, ?_⟩
      by_cases c : mx0 (L.take j2) < va + 1
      · have e3 : max (mx0 (L.take j2)) (va + 1) = va + 1 := by omega
        simp (dsimp := false) [b__law_heads_L1, hx, c, hn, e3]
      · have e3 : max (mx0 (L.take j2)) (va + 1) = mx0 (L.take j2) := by omega
        simp (dsimp := false) [b__law_heads_L1, hx, c, hn, e3]
    · rintro _ ⟨z, rfl⟩
      rw [iL_length, show r.length = (r.map fun a => nth (hds (G.take j)) a + 1).length by rw [List.length_map], List.take_length]
      have e3 : hds (G.take j) ++ [mx0 (r.map fun a => nth (hds (G.take j)) a + 1)] = hds (G.take (j + 1)) := by rw [hds_take hj, ← er']; rfl
      simp (dsimp := false)
      rw [frzS_fz (i := 3) rfl]
      simp (dsimp := false) [appR_fz, hz2, e3]
  · rintro _ ⟨x, y, z, rfl⟩
    rw [List.length_map, List.take_length]
    simp (dsimp := false)
theorem law_span_ok {G : List (List Int)} (hG : Good G) (hl : G.length ≤ 100) : m__law_span [(gD G, .fz)] = .ok (.int (spanV G), .fz) := by
  refine R.w_eq (runD_w ?_)
  simp (dsimp := false) [b__law_span, law_heads_ok hG hl]
  refine w_for (fun j ρ => ∃ z : Option DV, ρ = [some (gD G, .fz), some (.int (mx0 (((hds G).map fun a => a + 1).take j)), .fz), z]) ⟨none, rfl⟩ (fun j d ρ e hJ => ?_) ?_
  · obtain ⟨z, rfl⟩ := hJ
    obtain ⟨a, ea, rfl⟩ := iL_at e
    have hn := mx0_take (l := (hds G).map fun a => a + 1) (j := j) (x := a + 1) (by rw [List.getElem?_map, ea]; rfl)
    generalize ((hds G).map fun a => a + 1) = L at hn ⊢
    refine ⟨_, rfl, ?_⟩
    by_cases c : mx0 (L.take j) < a + 1
    · have e3 : max (mx0 (L.take j)) (a + 1) = a + 1 := by omega
      simp (dsimp := false) [b__law_span_L1, c, hn, e3]
    · have e3 : max (mx0 (L.take j)) (a + 1) = mx0 (L.take j) := by omega
      simp (dsimp := false) [b__law_span_L1, c, hn, e3]
  · rintro _ ⟨z, rfl⟩
    rw [iL_length, show (hds G).length = ((hds G).map fun a => a + 1).length by rw [List.length_map], List.take_length]
    simp (dsimp := false)
    rfl
/-! ### equality -/
def Pl : Nat → D → Prop
  | 0, _ => False
  | n + 1, d => match d with
    | .non => True
    | .int _ => True
    | .str _ => True
    | .bl _ => True
    | .tup xs => xs.length ≤ 1000 ∧ ∀ x ∈ xs, Pl n x
    | _ => False
theorem cEq_bl_self (b : Bool) : cEq id (.bl b, .fz) (.bl b, .fz) = .ok (.bl true, .fz) := by
  cases b <;> simp [cEq, eqD, PySem.PyData.eqv, PySem.PyData.plain, PySem.PyData.depth]
theorem eq_self : ∀ (n : Nat) (d : D), Pl n d → l__law_equal n [(d, .fz), (d, .fz)] = .ok (.bl true, .fz)
  | 0, _, h => h.elim
  | n + 1, d, h => by
    have e : l__law_equal (n + 1) = runD 3 (b__law_equal (l__law_equal n)) := rfl
    rw [e]
    have ih := eq_self n
    generalize l__law_equal n = rr at ih
    have N1 : isNoneD id (D.non, .fz) (.non, .fz) = .ok (.bl true, .fz) := Eq.trans rfl rfl
    have N2 : ∀ b, isNoneD id (D.bl b, .fz) (.non, .fz) = .ok (.bl false, .fz) := fun _ => Eq.trans rfl rfl
    have N3 : ∀ b, isNoneD id (D.int b, .fz) (.non, .fz) = .ok (.bl false, .fz) := fun _ => Eq.trans rfl rfl
    have N4 : ∀ b, isNoneD id (D.str b, .fz) (.non, .fz) = .ok (.bl false, .fz) := fun _ => Eq.trans rfl rfl
    have N5 : ∀ b, isNoneD id (D.tup b, .fz) (.non, .fz) = .ok (.bl false, .fz) := fun _ => Eq.trans rfl rfl
    refine R.w_eq (runD_w ?_)
    cases d with
    | non => simp (dsimp := false) [b__law_equal, N1]
    | bl b => simp (dsimp := false) [b__law_equal, N2, cEq_bl_self]
    | int i => simp (dsimp := false) [b__law_equal, N3]
    | str s => simp (dsimp := false) [b__law_equal, N4, cEq_str_self]
    | lst xs => exact h.elim
    | dk xs => exact h.elim
    | dt xs => exact h.elim
    | tup xs =>
      obtain ⟨h1, h2⟩ := h
      have hr := rg1_nat xs.length .fz (by omega)
      simp (dsimp := false) [b__law_equal, N5, hr]
      refine w_rng (fun j ρ => ∃ z : Option DV, ρ = [some (.tup xs, .fz), some (.tup xs, .fz), z]) ⟨none, rfl⟩ (fun j ρ hj hI => ?_) ?_
      · obtain ⟨z, rfl⟩ := hI
        have hx : ∀ l, ixD (.tup xs, .fz) (.int j, l) = .ok (xs[j], .fz) := fun l => ix_tup _ _ rfl (List.getElem?_eq_getElem hj)
        have hi := ih xs[j] (h2 _ (List.getElem_mem hj))
        refine ⟨_, rfl, ?_⟩
        simp (dsimp := false) [b__law_equal_L1, hx, hi]
      · rintro _ ⟨z, rfl⟩
        simp (dsimp := false)
theorem equal_ok {d : D} (h : Pl 12 d) : m__law_equal [(d, .fz), (d, .fz)] = .ok (.bl true, .fz) := eq_self 12 d h
theorem pl_row (n : Nat) (r : List Int) (h : r.length ≤ 1000) : Pl (n + 2) (.tup (iL r)) := ⟨by rw [iL_length]; exact h, fun x hx => by
  obtain ⟨a, _, rfl⟩ := iL_mem hx
  trivial⟩
theorem pl_graph (n : Nat) {G : List (List Int)} (hG : Good G) (hl : G.length ≤ 100) : Pl (n + 3) (gD G) := ⟨by rw [List.length_map]; omega, fun x hx => by
  obtain ⟨r, hr, rfl⟩ := List.mem_map.mp hx
  obtain ⟨i, hi, rfl⟩ := List.getElem_of_mem hr
  obtain ⟨g1, g2⟩ := hG i _ (List.getElem?_eq_getElem hi)
  have := asc_len g1 g2
  exact pl_row n _ (by omega)⟩
/-! ### values that are no graphs -/
def bads : List D := [.non, .tup [.tup [.int 0]], .tup [.tup [], .tup [.int 1]], .tup [.tup [], .tup [.int 0, .int 0]], .tup [.tup [], .tup [.int (-1)]], .int 3, .tup [.tup [], .tup [], .tup [.int 1, .int 0]], .tup [.non]]
theorem bad_is : ∀ v ∈ bads, m_is_graph [(v, .fz)] = .ok (.bl false, .fz) := by
  intro v hv
  simp only [bads, List.mem_cons, List.not_mem_nil, or_false] at hv
  rcases hv with rfl | rfl | rfl | rfl | rfl | rfl | rfl | rfl <;> rfl
theorem pl_any (n : Nat) {S : List (List Int)} (h1 : S.length ≤ 1000) (h2 : ∀ r ∈ S, r.length ≤ 1000) : Pl (n + 3) (gD S) := ⟨by rw [List.length_map]; exact h1, fun x hx => by
  obtain ⟨r, hr, rfl⟩ := List.mem_map.mp hx
  exact pl_row n _ (h2 r hr)⟩
theorem bad_pl : ∀ v ∈ bads, Pl 11 v := by
  intro v hv
  simp only [bads, List.mem_cons, List.not_mem_nil, or_false] at hv
  rcases hv with rfl | rfl | rfl | rfl | rfl | rfl | rfl | rfl
  · trivial
  · exact pl_any 8 (S := [[0]]) (by decide) (by decide)
  · exact pl_any 8 (S := [[], [1]]) (by decide) (by decide)
  · exact pl_any 8 (S := [[], [0, 0]]) (by decide) (by decide)
  · exact pl_any 8 (S := [[], [-1]]) (by decide) (by decide)
  · trivial
  · exact pl_any 8 (S := [[], [], [1, 0]]) (by decide) (by decide)
  · exact ⟨by decide, fun x hx => by cases List.mem_singleton.mp hx; trivial⟩
theorem bad_need : ∀ v ∈ bads, m_need_graph [(v, .fz)] = .ex ⟨"InvalidGraph", [("value", v)]⟩ := by
  intro v hv
  have h := bad_is v hv
  have e : b_need_graph [some (v, .fz)] = .ex ⟨"InvalidGraph", [("value", v)]⟩ := by
    have e1 : (aCons (dVar 0) aNil) [some (v, .fz)] = .ok [(v, .fz)] := rfl
    have e2 : (dCall 1 m_is_graph (aCons (dVar 0) aNil)) [some (v, .fz)] = .ok (.bl false, .fz) := by
      exact h
    have e3 : (tNotD (dTru (dCall 1 m_is_graph (aCons (dVar 0) aNil)))) [some (v, .fz)] = .ok true := by
      show (((dCall 1 m_is_graph (aCons (dVar 0) aNil)) [some (v, .fz)]).bind truD).bind _ = _
      rw [e2]
      rfl
    show ((tNotD (dTru (dCall 1 m_is_graph (aCons (dVar 0) aNil)))) [some (v, .fz)]).st _ = _
    rw [e3]
    rfl
  show (match b_need_graph ([(v, Kd.fz)].map some ++ List.replicate (1 - 1) none) with
    | .nx _ => .ok (.non, .fz)
    | .rt x => .ok x
    | .ex e => .ex e
    | _ => .no : R DV) = _
  rw [show ([(v, Kd.fz)].map some ++ List.replicate (1 - 1) none) = [some (v, Kd.fz)] from rfl, e]
theorem run_ex {n : Nat} {m : Env → SO} {as : List DV} {e : Exn} (h : m (as.map some ++ List.replicate (n - as.length) none) = .ex e) : runD n m as = .ex e := by
  unfold runD
  rw [h]
theorem run_rt {n : Nat} {m : Env → SO} {as : List DV} {x : DV} (h : m (as.map some ++ List.replicate (n - as.length) none) = .rt x) : runD n m as = .ok x := by
  unfold runD
  rw [h]
theorem expr_ex {p : Env → R DV} {r : Env → SO} {ρ : Env} {e : Exn} (h : p ρ = .ex e) : mSeq (mExpr p) r ρ = .ex e := by
  show ((p ρ).st _).seq r = _
  rw [h]
  rfl
theorem expr_ok {p : Env → R DV} {r : Env → SO} {ρ : Env} {x : DV} (h : p ρ = .ok x) : mSeq (mExpr p) r ρ = r ρ := by
  show ((p ρ).st _).seq r = _
  rw [h]
  rfl
theorem cons_ex {p q : Env → R DV} {ρ : Env} {x : DV} {e : Exn} (h1 : p ρ = .ok x) (h2 : q ρ = .ex e) : (aCons p (aCons q aNil)) ρ = .ex e := by
  show ((p ρ).bind fun x => ((q ρ).bind fun y => (aNil ρ).bind fun ys => R.ok (y :: ys)).bind fun xs => R.ok (x :: xs)) = _
  rw [h1, h2]
  rfl
theorem mkLst_8 (a b c d e f g h : D) : mkLst [(a, .fz), (b, .fz), (c, .fz), (d, .fz), (e, .fz), (f, .fz), (g, .fz), (h, .fz)] = .ok (.lst [a, b, c, d, e, f, g, h], .ow) := by simp [mkLst, show 8 ≤ PySem.sizeLine by decide]
theorem no_graph_ok (ns : List Int) (kk : Int) (h : 0 ≤ kk ∧ kk < 1000) : (m__law_no_graph [(.lst (iL ns), .fz), (.int kk, .fz)]).w fun x => ∃ v ∈ bads, x = (v, .fz) := by
  refine runD_w ?_
  have il : [D.int 8] = iL [8] := rfl
  simp (dsimp := false) [b__law_no_graph, iL_one]
  refine R.w_mono (draws_ok ns kk [8] .fz (.inl rfl) h (fun l h => ?_) (by simp)) ?_
  · simp at h
    omega
  rintro _ ⟨ds, rfl, h1, h2⟩
  obtain ⟨d, rfl⟩ : ∃ a, ds = [a] := by
    match ds, h1 with
    | [a], _ => exact ⟨a, rfl⟩
  obtain ⟨b1, b2⟩ := h2 0 d _ rfl rfl
  obtain ⟨e, rfl⟩ : ∃ e : Nat, d = e := ⟨d.toNat, by omega⟩
  have hx : ixD (.lst (iL [(e : Int)]), .al) (.int 0, .fz) = .ok (.int e, .fz) := ix_lst (j := 0) _ _ rfl rfl
  have hneg : negD (.int 1, .fz) = .ok (.int (-1), .fz) := Eq.trans rfl rfl
  have hb : e < bads.length := by
    show e < 8
    omega
  have hy : ixD (.lst bads, .ow) (.int e, .fz) = .ok (bads[e], .fz) := ix_lst _ _ rfl (List.getElem?_eq_getElem hb)
  unfold bads at hy
  simp only [iL_one] at hy
  simp (dsimp := false) [hneg, mkLst_8, hx]
  rw [hy]
  simp (dsimp := false) only [R.w_ok, retD_fz, SO.w_rt]
  exact ⟨_, List.getElem_mem hb, rfl⟩
/-! ### tails -/
def tlJ (i : Int) (f : List Int) (j : Int) : List Int := f.set j.toNat (max (nth f j) (nth f i + 1))
theorem tlJ_len (i : Int) (f : List Int) (j : Int) : (tlJ i f j).length = f.length := List.length_set
theorem tlR_len (i : Int) : ∀ (row f : List Int), (row.foldl (tlJ i) f).length = f.length
  | [], _ => rfl
  | j :: r, f => by rw [List.foldl_cons, tlR_len i r, tlJ_len]
def tlF (G : List (List Int)) (k : Nat) : List Int := (List.range k).foldl (fun f k => (G.getD (G.length - 1 - k) []).foldl (tlJ ((G.length - 1 - k : Nat) : Int)) f) (List.replicate G.length 0)
def tls (G : List (List Int)) : List Int := tlF G G.length
theorem tlF_succ (G : List (List Int)) (k : Nat) : tlF G (k + 1) = (G.getD (G.length - 1 - k) []).foldl (tlJ ((G.length - 1 - k : Nat) : Int)) (tlF G k) := foldl_range_succ _ _ _
theorem tlF_len (G : List (List Int)) : ∀ k, (tlF G k).length = G.length
  | 0 => by simp [tlF]
  | k + 1 => by rw [tlF_succ, tlR_len, tlF_len]
theorem take_fold {α β : Type} (f : β → α → β) (b : β) {l : List α} {j : Nat} {x : α} (h : l[j]? = some x) : (l.take (j + 1)).foldl f b = f ((l.take j).foldl f b) x := by
  obtain ⟨hj, rfl⟩ := List.getElem?_eq_some_iff.mp h
  rw [List.take_succ_eq_append_getElem hj, List.foldl_append]
  rfl
theorem zeros_lc (G : List (List Int)) : List.map (fun _ => D.int 0) (List.filter (fun _ => true) (G.map fun r => D.tup (iL r))) = iL (List.replicate G.length 0) := by
  rw [List.filter_eq_self.mpr fun _ _ => rfl, List.map_map]
  unfold iL
  rw [List.map_replicate]
  exact List.eq_replicate_iff.mpr ⟨by simp, fun b hb => by obtain ⟨a, _, rfl⟩ := List.mem_map.mp hb; rfl⟩
theorem ix_int {f : List Int} {a : Int} (h0 : 0 ≤ a) (h : a < f.length) (k l : Kd) : ixD (.lst (iL f), k) (.int a, l) = .ok (.int (nth f a), .fz) :=
  ix_lst (j := a.toNat) _ _ (by omega) (by rw [iL_get, nth_at (by omega), List.getElem?_eq_getElem (by omega)]; rfl)
theorem tails_ok {G : List (List Int)} (hG : Good G) (hl : G.length ≤ 100) : m_tails_of [(gD G, .fz)] = .ok (.lst (iL (tls G)), .ow) := by
  have sz := sizeLine_val
  have hz : G.length ≤ PySem.sizeLine := by omega
  have hlen : gLen (gD G, .fz) = .ok (.int G.length, .fz) := by simp [gD]
  have hit : itemsD (gD G, .fz) = .ok (G.map fun r => .tup (iL r), .fz) := rfl
  have hr3 : rg3 (.int ((G.length : Int) - 1), .fz) (.int (-1), .fz) (.int (-1), .fz) = .ok (rangeL ((G.length : Int) - 1) (-1) G.length, .fz) := by
    unfold rg3
    dsimp only
    rw [if_pos ⟨rfl, by omega, by omega, by omega, by omega⟩]
    congr 3
    omega
  have hneg : negD (.int 1, .fz) = .ok (.int (-1), .fz) := Eq.trans rfl rfl
  refine R.w_eq (runD_w ?_)
  simp (dsimp := false) [b_tails_of, hit, hz]
  refine w_lc (fun _ => true) (fun _ => .int 0) (fun d hd => ⟨_, rfl, by simp (dsimp := false)⟩) ?_
  rw [zeros_lc]
  simp (dsimp := false) [hlen, hneg, hr3]
  refine w_for (fun j ρ => ∃ (x y z : Option DV), ρ = [some (gD G, .fz), some (.lst (iL (tlF G j)), .ow), x, y, z]) ⟨_, _, _, rfl⟩ (fun j d ρ e hI => ?_) ?_
  · obtain ⟨x, y, z, rfl⟩ := hI
    have hj : j < G.length := by
      have := (List.getElem?_eq_some_iff.mp e).1
      simpa [rangeL] using this
    have ed : d = D.int ((G.length - 1 - j : Nat) : Int) := by
      have := (List.getElem?_eq_some_iff.mp e).2
      simp [rangeL] at this
      rw [← this]
      congr 1
      omega
    subst ed
    have hs := tlF_succ G j
    have hfl := tlF_len G j
    generalize ha : G.length - 1 - j = at_ at hs ⊢
    have hat : at_ < G.length := by omega
    rw [getD_lt [] hat] at hs
    obtain ⟨g1, g2⟩ := hG at_ _ (List.getElem?_eq_getElem hat)
    have hx : ixD (gD G, .fz) (.int at_, .fz) = .ok (.tup (iL G[at_]), .fz) := ix_tup (j := at_) _ _ rfl (by rw [List.getElem?_map, List.getElem?_eq_getElem hat]; rfl)
    refine ⟨_, rfl, ?_⟩
    simp (dsimp := false) [b_tails_of_L2, hx]
    refine w_for (fun j2 ρ => ∃ (x z : Option DV), ρ = [some (gD G, .fz), some (.lst (iL ((G[at_].take j2).foldl (tlJ at_) (tlF G j))), .ow), x, some (.int at_, .fz), z])
      ⟨_, _, rfl⟩ (fun j2 d ρ e hJ => ?_) ?_
    · obtain ⟨x, z, rfl⟩ := hJ
      obtain ⟨a, ea, rfl⟩ := iL_at e
      obtain ⟨b1, b2⟩ := g2 a (List.mem_of_getElem? ea)
      have hfo := take_fold (tlJ at_) (tlF G j) ea
      have hln := tlR_len at_ (G[at_].take j2) (tlF G j)
      generalize (G[at_].take j2).foldl (tlJ at_) (tlF G j) = f at hfo hln ⊢
      obtain ⟨o, rfl⟩ : ∃ o : Nat, a = o := ⟨a.toNat, by omega⟩
      have ho : o < f.length := by omega
      have x1 : ∀ l, ixD (.lst (iL f), .al) (.int o, l) = .ok (.int (nth f o), .fz) := fun l => ix_int (by omega) (by omega) _ _
      have x2 : ∀ l, ixD (.lst (iL f), .al) (.int at_, l) = .ok (.int (nth f at_), .fz) := fun l => ix_int (by omega) (by omega) _ _
      refine ⟨_, rfl, ?_⟩
      have e3 : max (nth f o) (nth f at_ + 1) = if nth f o < nth f at_ + 1 then nth f at_ + 1 else nth f o := by
        rw [Int.max_def]
        split <;> split <;> omega
      rw [hfo]
      unfold tlJ
      rw [Int.toNat_natCast, e3]
      simp (dsimp := false) [b_tails_of_L1, x1, x2, put_int _ ho]
    · rintro _ ⟨x, z, rfl⟩
      rw [iL_length, List.take_length, ← hs]
      exact ⟨_, _, _, rfl⟩
  · rintro _ ⟨x, y, z, rfl⟩
    have hrl : (rangeL ((G.length : Int) - 1) (-1) G.length).length = G.length := by simp [rangeL]
    rw [hrl]
    simp (dsimp := false)
    rfl
theorem law_tails_ok {G : List (List Int)} (hG : Good G) (hl : G.length ≤ 100) : m__law_tails [(gD G, .fz)] = .ok (.lst (iL (tls G)), .ow) := by
  have sz := sizeLine_val
  have hz : G.length ≤ PySem.sizeLine := by omega
  have hlen : gLen (gD G, .fz) = .ok (.int G.length, .fz) := by simp [gD]
  have hit : itemsD (gD G, .fz) = .ok (G.map fun r => .tup (iL r), .fz) := rfl
  have hr := rg1_nat G.length .fz (by omega)
  refine R.w_eq (runD_w ?_)
  simp (dsimp := false) [b__law_tails, hit, hz]
  refine w_lc (fun _ => true) (fun _ => .int 0) (fun d hd => ⟨_, rfl, by simp (dsimp := false)⟩) ?_
  rw [zeros_lc]
  simp (dsimp := false) [hlen, hr]
  refine w_rng (fun j ρ => ∃ (x y z w : Option DV), ρ = [some (gD G, .fz), some (.lst (iL (tlF G j)), .ow), x, y, z, w]) ⟨_, _, _, _, rfl⟩ (fun j ρ hj hI => ?_) ?_
  · obtain ⟨x, y, z, w, rfl⟩ := hI
    have hs := tlF_succ G j
    have hfl := tlF_len G j
    have hsub : (G.length : Int) - 1 - j = ((G.length - 1 - j : Nat) : Int) := by omega
    refine ⟨_, rfl, ?_⟩
    simp (dsimp := false) [b__law_tails_L2, hlen, hsub]
    generalize ha : G.length - 1 - j = at_ at hs ⊢
    have hat : at_ < G.length := by omega
    rw [getD_lt [] hat] at hs
    obtain ⟨g1, g2⟩ := hG at_ _ (List.getElem?_eq_getElem hat)
    have hx : ixD (gD G, .fz) (.int at_, .fz) = .ok (.tup (iL G[at_]), .fz) := ix_tup (j := at_) _ _ rfl (by rw [List.getElem?_map, List.getElem?_eq_getElem hat]; rfl)
    simp (dsimp := false) [hx]
    refine w_for (fun j2 ρ => ∃ (x y z : Option DV), ρ = [some (gD G, .fz), some (.lst (iL ((G[at_].take j2).foldl (tlJ at_) (tlF G j))), .ow), x, y, some (.int at_, .fz), z])
      ⟨_, _, _, rfl⟩ (fun j2 d ρ e hJ => ?_) ?_
    · obtain ⟨x, y, z, rfl⟩ := hJ
      obtain ⟨a, ea, rfl⟩ := iL_at e
      obtain ⟨b1, b2⟩ := g2 a (List.mem_of_getElem? ea)
      have hfo := take_fold (tlJ at_) (tlF G j) ea
      have hln := tlR_len at_ (G[at_].take j2) (tlF G j)
      generalize (G[at_].take j2).foldl (tlJ at_) (tlF G j) = f at hfo hln ⊢
      obtain ⟨o, rfl⟩ : ∃ o : Nat, a = o := ⟨a.toNat, by omega⟩
      have ho : o < f.length := by omega
      have x1 : ∀ l, ixD (.lst (iL f), .al) (.int o, l) = .ok (.int (nth f o), .fz) := fun l => ix_int (by omega) (by omega) _ _
      have x2 : ∀ l, ixD (.lst (iL f), .al) (.int at_, l) = .ok (.int (nth f at_), .fz) := fun l => ix_int (by omega) (by omega) _ _
      have no : nth f o = f[o] := nth_at (a := (o : Int)) (by omega)
      refine ⟨_, rfl, ?_⟩
      rw [hfo]
      unfold tlJ
      rw [Int.toNat_natCast]
      by_cases c : nth f o < nth f at_ + 1
      · have e3 : max (nth f o) (nth f at_ + 1) = nth f at_ + 1 := by omega
        simp (dsimp := false) [b__law_tails_L1, x1, x2, put_int _ ho, c, e3]
      · have e3 : max (nth f o) (nth f at_ + 1) = nth f o := by omega
        have e4 : f.set o (nth f o) = f := by rw [no, List.set_getElem_self]
        simp (dsimp := false) [b__law_tails_L1, x1, x2, c, e3, e4]
    · rintro _ ⟨x, y, z, rfl⟩
      rw [iL_length, List.take_length, ← hs]
      exact ⟨_, _, _, _, rfl⟩
  · rintro _ ⟨x, y, z, w, rfl⟩
    simp (dsimp := false)
    rfl
/-! ### the longest way -/
section
variable (G : List (List Int)) (T : List Int) (s : Int)
def CC (p : List Int) (t : Nat) (k : Int) : Prop := nth T k = s - t - 1 ∧ (t = 0 ∨ p.getD (t - 1) 0 ∈ deps G k)
instance (p : List Int) (t : Nat) (k : Int) : Decidable (CC G T s p t k) := by unfold CC; infer_instance
def wS (p : List Int) (k : Nat) : List Int := if CC G T s p p.length k then p ++ [(k : Int)] else p
def wP (i : Nat) : List Int := (List.range i).foldl (wS G T s) []
def lS (t : Nat) (p : List Int) (k : Nat) : List Int := if CC G T s p t k ∧ p.length = t then p ++ [(k : Int)] else p
end
section
variable {G : List (List Int)} {T : List Int} {s : Int}
theorem wP_succ (i : Nat) : wP G T s (i + 1) = wS G T s (wP G T s i) i := foldl_range_succ _ _ _
theorem getD_app {p q : List Int} {i : Nat} (h : i < p.length) : (p ++ q).getD i 0 = p.getD i 0 := by
  rw [List.getD_eq_getElem?_getD, List.getD_eq_getElem?_getD, List.getElem?_append_left h]
theorem CC_app {p q : List Int} {t : Nat} {k : Int} (h : t ≤ p.length) : CC G T s (p ++ q) t k ↔ CC G T s p t k := by
  unfold CC
  by_cases c : t = 0
  · subst c; simp
  · rw [getD_app (by omega)]
theorem wP_inv (hG : Good G) : ∀ i : Nat, i ≤ G.length → (∀ t, (h : t < (wP G T s i).length) → 0 ≤ (wP G T s i)[t] ∧ (wP G T s i)[t] < i ∧ CC G T s (wP G T s i) t (wP G T s i)[t] ∧ ∀ k : Nat, (k : Int) < (wP G T s i)[t] → ¬ CC G T s (wP G T s i) t k) ∧
    ∀ k : Nat, k < i → ¬ CC G T s (wP G T s i) (wP G T s i).length k
  | 0, _ => ⟨fun t h => absurd h (Nat.not_lt_zero _), fun k h => absurd h (Nat.not_lt_zero _)⟩
  | i + 1, hi => by
    obtain ⟨A, B⟩ := wP_inv hG i (by omega)
    rw [wP_succ]
    generalize wP G T s i = p at A B ⊢
    unfold wS
    split
    · rename_i c
      refine ⟨fun t h => ?_, fun k hk => ?_⟩
      · rw [List.length_append, List.length_singleton] at h
        by_cases e : t < p.length
        · obtain ⟨a1, a2, a3, a4⟩ := A t e
          rw [List.getElem_append_left e]
          exact ⟨a1, by omega, (CC_app (by omega)).mpr a3, fun k hk z => a4 k hk ((CC_app (by omega)).mp z)⟩
        · have : t = p.length := by omega
          subst this
          rw [List.getElem_append_right (Nat.le_refl _)]
          simp only [Nat.sub_self, List.getElem_cons_zero]
          exact ⟨by omega, by omega, (CC_app (Nat.le_refl _)).mpr c, fun k hk z => B k (by omega) ((CC_app (Nat.le_refl _)).mp z)⟩
      · rintro ⟨_, z⟩
        rw [List.length_append, List.length_singleton] at z
        rcases z with z | z
        · omega
        · rw [Nat.add_sub_cancel, List.getD_eq_getElem?_getD, List.getElem?_append_right (Nat.le_refl _), Nat.sub_self] at z
          have z : (i : Int) ∈ deps G k := z
          rw [deps_nat G (by omega)] at z
          have := (hG k _ (List.getElem?_eq_getElem (by omega))).2 _ z
          omega
    · rename_i c
      refine ⟨fun t h => ?_, fun k hk => ?_⟩
      · obtain ⟨a1, a2, a3, a4⟩ := A t h
        exact ⟨a1, by omega, a3, a4⟩
      · by_cases e : k = i
        · subst e; exact c
        · exact B k (by omega)
theorem lS_done {t : Nat} {p : List Int} (h : p.length ≠ t) : ∀ k, (List.range k).foldl (lS G T s t) p = p
  | 0 => rfl
  | k + 1 => by
    rw [foldl_range_succ, lS_done h k]
    unfold lS
    rw [if_neg fun z => h z.2]
theorem CC_take {p : List Int} {t : Nat} {k : Int} (h : t ≤ p.length) : CC G T s (p.take t) t k ↔ CC G T s p t k := by
  have := CC_app (G := G) (T := T) (s := s) (p := p.take t) (q := p.drop t) (t := t) (k := k) (by rw [List.length_take]; omega)
  rw [List.take_append_drop] at this
  exact this.symm
theorem turn_ok' (hG : Good G) (t : Nat) : (List.range G.length).foldl (lS G T s t) ((wP G T s G.length).take t) = (wP G T s G.length).take (t + 1) := by
  obtain ⟨A, B⟩ := wP_inv (G := G) (T := T) (s := s) hG G.length (Nat.le_refl _)
  generalize wP G T s G.length = p at A B ⊢
  by_cases c1 : p.length < t
  · rw [List.take_of_length_le (by omega), List.take_of_length_le (by omega)]
    exact lS_done (by omega) _
  · by_cases c2 : p.length = t
    · subst c2
      rw [List.take_length, List.take_of_length_le (by omega)]
      have : ∀ k, k ≤ G.length → (List.range k).foldl (lS G T s p.length) p = p := by
        intro k
        induction k with
        | zero => intro _; rfl
        | succ k ih =>
          intro hk
          rw [foldl_range_succ, ih (by omega)]
          unfold lS
          rw [if_neg fun z => B k (by omega) z.1]
      exact this _ (Nat.le_refl _)
    · have ht : t < p.length := by omega
      obtain ⟨a1, a2, a3, a4⟩ := A t ht
      have hlt : (p.take t).length = t := by rw [List.length_take]; omega
      have hs : p.take t ++ [p[t]] = p.take (t + 1) := (List.take_succ_eq_append_getElem ht).symm
      have key : ∀ k : Nat, k ≤ G.length → (List.range k).foldl (lS G T s t) (p.take t) = if p[t] < (k : Int) then p.take (t + 1) else p.take t := by
        intro k
        induction k with
        | zero => intro _; rw [if_neg (by omega)]; rfl
        | succ k ih =>
          intro hk
          rw [foldl_range_succ, ih (by omega)]
          by_cases d1 : p[t] < (k : Int)
          · rw [if_pos d1, if_pos (by omega)]
            unfold lS
            rw [if_neg fun z => by have := z.2; rw [List.length_take] at this; omega]
          · rw [if_neg d1]
            unfold lS
            by_cases d2 : p[t] = (k : Int)
            · rw [if_pos ⟨(CC_take (by omega)).mpr (d2 ▸ a3), hlt⟩, if_pos (by omega), ← d2, hs]
            · rw [if_neg fun z => a4 k (by omega) ((CC_take (by omega)).mp z.1), if_neg (by omega)]
      rw [key _ (Nat.le_refl _), if_pos a2]
theorem wP_len (i : Nat) : (wP G T s i).length ≤ i := by
  induction i with
  | zero => exact Nat.le_refl _
  | succ i ih =>
    rw [wP_succ]
    unfold wS
    split
    · rw [List.length_append]; exact Nat.succ_le_succ ih
    · omega
end
theorem nth_nn {f : List Int} (h : ∀ a ∈ f, 0 ≤ a) (a : Int) : 0 ≤ nth f a := by
  unfold nth
  rw [List.getD_eq_getElem?_getD]
  cases q : f[a.toNat]? with
  | none => exact Int.le_refl _
  | some x => exact h x (List.mem_of_getElem? q)
theorem tlR_nn (i : Int) : ∀ (row f : List Int), (∀ a ∈ f, 0 ≤ a) → ∀ a ∈ row.foldl (tlJ i) f, 0 ≤ a
  | [], _, h => h
  | j :: r, f, h => tlR_nn i r (tlJ i f j) fun a ha => by
    rcases List.mem_or_eq_of_mem_set ha with z | z
    · exact h a z
    · have := nth_nn h j
      omega
theorem tlF_nn (G : List (List Int)) : ∀ k, ∀ a ∈ tlF G k, 0 ≤ a
  | 0 => fun a h => by
    have := (List.mem_replicate.mp h).2
    omega
  | k + 1 => by rw [tlF_succ]; exact tlR_nn _ _ _ (tlF_nn G k)
def wayV (G : List (List Int)) : List Int := wP G (tls G) (spanV G) G.length
theorem way_take {G : List (List Int)} (hG : Good G) : (wayV G).take (spanV G).toNat = wayV G := by
  refine List.take_of_length_le ?_
  by_cases c : (wayV G).length = 0
  · omega
  · obtain ⟨_, _, a3, _⟩ := (wP_inv (G := G) (T := tls G) (s := spanV G) hG G.length (Nat.le_refl _)).1 ((wayV G).length - 1) (by show _ < (wayV G).length; omega)
    have h1 := a3.1
    have h2 := nth_nn (tlF_nn G G.length) ((wP G (tls G) (spanV G) G.length)[(wayV G).length - 1]'(by show _ < (wayV G).length; omega))
    have h2 : 0 ≤ nth (tls G) ((wP G (tls G) (spanV G) G.length)[(wayV G).length - 1]'(by show _ < (wayV G).length; omega)) := h2
    omega
def lastV (p : List Int) : Int := p.getD (p.length - 1) 0
theorem app_int {p : List Int} (a : Int) (h : p.length < PySem.sizeLine) : appR (iL p) [(.int a, .fz)] = .ok (iL (p ++ [a])) := by
  rw [appR_fz _ (by rw [iL_length]; exact h)]
  unfold iL
  rw [List.map_append]
  rfl
theorem app_int0 (a : Int) : appR [] [(.int a, .fz)] = .ok (iL [a]) := app_int (p := []) a (by decide)
theorem last_ix {p : List Int} (h : p ≠ []) (k l : Kd) : ixD (.lst (iL p), k) (.int (-1), l) = .ok (.int (lastV p), .fz) := by
  have hp := List.length_pos_iff.mpr h
  have hx : L2.atI (iL p) (-1) = some (.int (lastV p)) := by
    unfold lastV
    unfold L2.atI L2.ixN
    rw [iL_length, if_neg (by omega), if_pos (by omega)]
    show (iL p)[(-1 + (p.length : Int)).toNat]? = _
    rw [show (-1 + (p.length : Int)).toNat = p.length - 1 by omega, iL_get, List.getElem?_eq_getElem (by omega), getD_lt 0 (by omega)]
    rfl
  unfold ixD
  dsimp only
  rw [hx]
theorem longest_ok {G : List (List Int)} (hG : Good G) (hl : G.length ≤ 100) : m_longest_way [(gD G, .fz)] = .ok (.tup (iL (wayV G)), .fz) := by
  have sz := sizeLine_val
  have hen : enumD (gD G, .fz) = .ok (enumL 0 (G.map fun r => .tup (iL r)), .fz) := rfl
  have hneg : negD (.int 1, .fz) = .ok (.int (-1), .fz) := Eq.trans rfl rfl
  have htl := tlF_len G G.length
  refine R.w_eq (runD_w ?_)
  simp (dsimp := false) [b_longest_way, need_ok G hG hl, tails_ok hG hl, span_of_ok hG hl, hen]
  refine w_for (fun j ρ => ∃ (x y : Option DV), ρ = [some (gD G, .fz), some (.lst (iL (tls G)), .ow), some (.int (spanV G), .fz), some (.lst (iL (wP G (tls G) (spanV G) j)), .ow), x, y]) ⟨_, _, rfl⟩ (fun j d ρ e hI => ?_) ?_
  · obtain ⟨x, y, rfl⟩ := hI
    have hj : j < G.length := by
      have := (List.getElem?_eq_some_iff.mp e).1
      rwa [enumL_length, List.length_map] at this
    rw [enumL_get, List.getElem?_map, List.getElem?_eq_getElem hj] at e
    simp only [Option.map_some, Option.some.injEq] at e
    subst e
    have hs := wP_succ (G := G) (T := tls G) (s := spanV G) j
    have hwl := wP_len (G := G) (T := tls G) (s := spanV G) j
    have hd := deps_nat G hj
    have hx : ∀ k, ixD (.lst (iL (tls G)), k) (.int j, .fz) = .ok (.int (nth (tls G) j), .fz) := fun k => ix_int (by omega) (by show _ < ((tlF G G.length).length : Int); omega) _ _
    generalize wP G (tls G) (spanV G) j = p at hs hwl ⊢
    have hz : p.length < PySem.sizeLine := by omega
    refine ⟨_, rfl, ?_⟩
    have hcc : CC G (tls G) (spanV G) p p.length j ↔ nth (tls G) j = spanV G - p.length - 1 ∧ (p = [] ∨ lastV p ∈ G[j]) := by
      unfold CC
      rw [hd, List.length_eq_zero_iff]
      exact Iff.rfl
    rw [hs]
    unfold wS
    by_cases c1 : nth (tls G) j = spanV G - p.length - 1
    · by_cases c2 : p = []
      · rw [if_pos (hcc.mpr ⟨c1, .inl c2⟩)]
        subst c2
        simp (dsimp := false) [b_longest_way_L1, hx, c1, app_int0]
      · by_cases c3 : lastV p ∈ G[j]
        · rw [if_pos (hcc.mpr ⟨c1, .inr c3⟩)]
          simp (dsimp := false) [b_longest_way_L1, hx, c1, c2, c3, last_ix, hneg, app_int, hz]
        · rw [if_neg fun z => (hcc.mp z).2.elim c2 c3]
          simp (dsimp := false) [b_longest_way_L1, hx, c1, c2, c3, last_ix, hneg]
    · rw [if_neg fun z => c1 (hcc.mp z).1]
      simp (dsimp := false) [b_longest_way_L1, hx, c1]
  · rintro _ ⟨x, y, rfl⟩
    rw [enumL_length, List.length_map]
    simp (dsimp := false)
    rfl
theorem law_longest_ok {G : List (List Int)} (hG : Good G) (hl : G.length ≤ 100) : m__law_longest [(gD G, .fz)] = .ok (.tup (iL (wayV G)), .fz) := by
  have sz := sizeLine_val
  have hneg : negD (.int 1, .fz) = .ok (.int (-1), .fz) := Eq.trans rfl rfl
  have htl := tlF_len G G.length
  have hlen : gLen (gD G, .fz) = .ok (.int G.length, .fz) := by simp [gD]
  have hr := rg1_nat G.length .fz (by omega)
  have s0 := span_nn G
  have s1 := span_le hG
  obtain ⟨S, hS⟩ : ∃ S : Nat, spanV G = S := ⟨(spanV G).toNat, by omega⟩
  have hr2 := rg1_nat S .fz (by omega)
  have hwt := way_take hG
  refine R.w_eq (runD_w ?_)
  simp (dsimp := false) [b__law_longest, law_tails_ok hG hl, law_span_ok hG hl]
  rw [hS] at hwt ⊢
  simp (dsimp := false) [hr2]
  refine w_rng (fun j ρ => ∃ (x y z : Option DV), ρ = [some (gD G, .fz), some (.lst (iL (tls G)), .ow), some (.int S, .fz), some (.lst (iL ((wayV G).take j)), .ow), x, y, z]) ⟨_, _, _, rfl⟩ (fun j ρ hj hI => ?_) ?_
  · obtain ⟨x, y, z, rfl⟩ := hI
    have ht := turn_ok' (G := G) (T := tls G) (s := spanV G) hG j
    refine ⟨_, rfl, ?_⟩
    simp (dsimp := false) [b__law_longest_L2, hlen, hr]
    refine w_rng (fun k ρ => ∃ (y z : Option DV), ρ = [some (gD G, .fz), some (.lst (iL (tls G)), .ow), some (.int S, .fz), some (.lst (iL ((List.range k).foldl (lS G (tls G) (spanV G) j) ((wayV G).take j))), .ow), some (.int j, .fz), y, z] ∧ ((List.range k).foldl (lS G (tls G) (spanV G) j) ((wayV G).take j)).length ≤ k + G.length) ⟨_, _, rfl, ?_⟩ (fun k ρ hk hI => ?_) ?_
    · have := wP_len (G := G) (T := tls G) (s := spanV G) G.length
      show ((wayV G).take j).length ≤ _
      have : (wayV G).length ≤ G.length := this
      rw [List.length_take]
      omega
    · obtain ⟨y, z, rfl, hln⟩ := hI
      have hs := foldl_range_succ (lS G (tls G) (spanV G) j) ((wayV G).take j) k
      have hd := deps_nat G hk
      have hx : ∀ m, ixD (.lst (iL (tls G)), m) (.int k, .fz) = .ok (.int (nth (tls G) k), .fz) := fun m => ix_int (by omega) (by show _ < ((tlF G G.length).length : Int); omega) _ _
      have hx2 : ixD (gD G, .fz) (.int k, .fz) = .ok (.tup (iL G[k]), .fz) := ix_tup (j := k) _ _ rfl (by rw [List.getElem?_map, List.getElem?_eq_getElem hk]; rfl)
      generalize (List.range k).foldl (lS G (tls G) (spanV G) j) ((wayV G).take j) = p at hs hln ⊢
      have hz : p.length < PySem.sizeLine := by omega
      have hsub : (S : Int) - 1 - j = spanV G - j - 1 := by omega
      have hcc : (CC G (tls G) (spanV G) p j k ∧ p.length = j) ↔ nth (tls G) k = (S : Int) - 1 - j ∧ (p = [] ∨ lastV p ∈ G[k]) ∧ p.length = j := by
        unfold CC
        rw [hd, hsub]
        constructor
        · rintro ⟨⟨a, b⟩, rfl⟩
          exact ⟨a, b.imp (fun e => List.length_eq_zero_iff.mp e) id, rfl⟩
        · rintro ⟨a, b, rfl⟩
          exact ⟨⟨a, b.imp (fun e => List.length_eq_zero_iff.mpr e) id⟩, rfl⟩
      rw [hs]
      have hlS : (lS G (tls G) (spanV G) j p k).length ≤ k + 1 + G.length := by
        unfold lS
        split
        · rw [List.length_append, List.length_singleton]; omega
        · omega
      refine ⟨_, rfl, ?_⟩
      unfold lS at hlS ⊢
      by_cases c1 : nth (tls G) k = (S : Int) - 1 - j
      · by_cases c2 : p = []
        · subst c2
          by_cases c4 : j = 0
          · subst c4
            rw [if_pos (hcc.mpr ⟨c1, .inl rfl, rfl⟩)] at hlS ⊢
            simp (dsimp := false) [b__law_longest_L1, hx, hx2, c1, app_int0]
            omega
          · rw [if_neg fun z => c4 (hcc.mp z).2.2.symm] at hlS ⊢
            have e4 : ((0 : Int) = (j : Int)) = False := eq_false (by omega)
            simp (dsimp := false) [b__law_longest_L1, hx, hx2, c1, c4, e4]
        · by_cases c3 : lastV p ∈ G[k]
          · by_cases c4 : p.length = j
            · rw [if_pos (hcc.mpr ⟨c1, .inr c3, c4⟩)] at hlS ⊢
              have e4 : ((p.length : Int) = (j : Int)) = True := eq_true (by omega)
              have e5 : ((p.length : Int) = 0) = False := eq_false (by have := List.length_pos_iff.mpr c2; omega)
              simp (dsimp := false) [b__law_longest_L1, hx, hx2, c1, c2, c3, e4, e5, last_ix, hneg, app_int, hz]
              simpa using hlS
            · rw [if_neg fun z => c4 (hcc.mp z).2.2] at hlS ⊢
              have e4 : ((p.length : Int) = (j : Int)) = False := eq_false (by omega)
              simp (dsimp := false) [b__law_longest_L1, hx, hx2, c1, c2, c3, e4, last_ix, hneg]
              exact hlS
          · rw [if_neg fun z => (hcc.mp z).2.1.elim c2 c3] at hlS ⊢
            simp (dsimp := false) [b__law_longest_L1, hx, hx2, c1, c2, c3, last_ix, hneg]
            exact hlS
      · rw [if_neg fun z => c1 (hcc.mp z).1] at hlS ⊢
        simp (dsimp := false) [b__law_longest_L1, hx, hx2, c1]
        exact hlS
    · rintro _ ⟨y, z, rfl, _⟩
      have ht : (List.range G.length).foldl (lS G (tls G) (spanV G) j) ((wayV G).take j) = (wayV G).take (j + 1) := ht
      rw [ht]
      exact ⟨_, _, _, rfl⟩
  · rintro _ ⟨x, y, z, rfl⟩
    have hwt : (wayV G).take S = wayV G := by
      have := hwt
      rwa [Int.toNat_natCast] at this
    rw [hwt]
    simp (dsimp := false)
/-! ### reach -/
theorem any_cg {α : Type} {f g : α → Bool} : ∀ {l : List α}, (∀ a ∈ l, f a = g a) → l.any f = l.any g
  | [], _ => rfl
  | a :: r, h => by rw [List.any_cons, List.any_cons, h a List.mem_cons_self, any_cg fun b hb => h b (List.mem_cons_of_mem _ hb)]
theorem put_dk {i : Nat} {ρ : Env} {ds : List Int} {j : Int} (l : Kd) (h : j ∉ ds) (hz : ds.length < PySem.sizeLine) : putS i ρ (.dk (dkI ds)) (.bl true, .fz) (.int j, l) = .nx (ρ.set i (some (.dk (dkI (ds ++ [j])), .ow))) := by
  unfold putS
  simp only [keep1_fz, keyD, dkI_length, hz, if_true, put_dkI h]
def rlF (k : Int) (acc : List Bool) (row : List Int) : List Bool := acc ++ [row.any fun j => decide (j = k) || acc.getD j.toNat false]
def rl (G : List (List Int)) (k : Int) : List Bool := G.foldl (rlF k) []
theorem rlF_len (k : Int) : ∀ (B : List (List Int)) (acc : List Bool), (B.foldl (rlF k) acc).length = acc.length + B.length
  | [], _ => rfl
  | r :: B, acc => by rw [List.foldl_cons, rlF_len k B]; simp [rlF]; omega
theorem rl_len (G : List (List Int)) (k : Int) : (rl G k).length = G.length := by
  have := rlF_len k G []
  simpa [rl] using this
theorem rlF_pre (k : Int) : ∀ (B : List (List Int)) (acc : List Bool), ∃ C, B.foldl (rlF k) acc = acc ++ C
  | [], acc => ⟨[], by simp⟩
  | r :: B, acc => by
    obtain ⟨C, h⟩ := rlF_pre k B (rlF k acc r)
    exact ⟨(r.any fun j => decide (j = k) || acc.getD j.toNat false) :: C, by rw [List.foldl_cons, h]; simp [rlF]⟩
theorem rl_take {G : List (List Int)} {k : Int} {j : Nat} (h : j < G.length) : rl (G.take (j + 1)) k = rlF k (rl (G.take j) k) G[j] := by
  unfold rl
  rw [List.take_succ_eq_append_getElem h, List.foldl_append]
  rfl
theorem rl_pre (G : List (List Int)) (k : Int) (j : Nat) : ∃ C, rl G k = rl (G.take j) k ++ C := by
  obtain ⟨C, e⟩ := rlF_pre k (G.drop j) (rl (G.take j) k)
  refine ⟨C, ?_⟩
  rw [← e]
  unfold rl
  rw [← List.foldl_append, List.take_append_drop]
def Rc (G : List (List Int)) (k i : Int) : Bool := (rl G k).getD i.toNat false
theorem tk_len {G : List (List Int)} {k : Int} {j : Nat} (h : j ≤ G.length) : (rl (G.take j) k).length = j := by
  rw [rl_len, List.length_take]
  omega
theorem rc_lt {G : List (List Int)} {k : Int} {j : Nat} (h : j ≤ G.length) {a : Int} (h1 : 0 ≤ a) (h2 : a < j) : (rl (G.take j) k).getD a.toNat false = Rc G k a := by
  obtain ⟨C, e⟩ := rl_pre G k j
  have := tk_len (k := k) h
  unfold Rc
  rw [e, List.getD_eq_getElem?_getD, List.getD_eq_getElem?_getD, List.getElem?_append_left (by omega)]
theorem rc_at {G : List (List Int)} (hG : Good G) (k : Int) {i : Nat} (h : i < G.length) : Rc G k i = G[i].any fun j => decide (j = k) || Rc G k j := by
  obtain ⟨C, e⟩ := rl_pre G k (i + 1)
  have hl := tk_len (k := k) (Nat.le_of_lt h)
  have h2 := (hG i _ (List.getElem?_eq_getElem h)).2
  unfold Rc
  rw [e, rl_take h]
  unfold rlF
  rw [List.append_assoc, List.getD_eq_getElem?_getD, Int.toNat_natCast, List.getElem?_append_right (by omega), hl, Nat.sub_self]
  show (G[i].any _) = _
  refine any_cg fun j hj => ?_
  obtain ⟨b1, b2⟩ := h2 j hj
  have := rc_lt (G := G) (k := k) (Nat.le_of_lt h) b1 b2
  rw [this]
  unfold Rc
  rw [e, rl_take h]
  unfold rlF
  rw [List.append_assoc]
theorem rc_gt {G : List (List Int)} (hG : Good G) {k : Int} : ∀ i : Nat, i < G.length → Rc G k i = true → k < i := by
  intro i
  induction i using Nat.strongRecOn with
  | _ i ih =>
    intro h e
    rw [rc_at hG k h] at e
    obtain ⟨j, hj, e⟩ := List.any_eq_true.mp e
    obtain ⟨b1, b2⟩ := (hG i _ (List.getElem?_eq_getElem h)).2 j hj
    rw [Bool.or_eq_true] at e
    rcases e with e | e
    · have := of_decide_eq_true e
      omega
    · have := ih j.toNat (by omega) (by omega) (by rwa [Int.toNat_of_nonneg b1])
      omega
/-! ### behind -/
theorem rng_succ (n : Nat) : rng (n + 1) = rng n ++ [(n : Int)] := by
  unfold rng
  rw [List.range_succ, List.map_append]
  rfl
def bhF (G : List (List Int)) (k : Int) (i : Nat) : List Int := (rng i).filter fun a => Rc G k a
def bh (G : List (List Int)) (k : Int) : List Int := bhF G k G.length
theorem bhF_succ (G : List (List Int)) (k : Int) (i : Nat) : bhF G k (i + 1) = if Rc G k i = true then bhF G k i ++ [(i : Int)] else bhF G k i := by
  unfold bhF
  rw [rng_succ, List.filter_append]
  split
  · rename_i c
    rw [List.filter_cons_of_pos c]
    rfl
  · rename_i c
    rw [List.filter_cons_of_neg c]
    simp
theorem bhF_len (G : List (List Int)) (k : Int) (i : Nat) : (bhF G k i).length ≤ i := by
  have := List.length_filter_le (fun a => Rc G k a) (rng i)
  rwa [rng_length] at this
theorem gAny {α : Type} (f : α → Bool) (xs : List α) (k : Kd) : gBools (fun bs => bs.any id) (.lst (xs.map fun a => D.bl (f a)), k) = .ok (.bl (xs.any f), .fz) := by
  unfold gBools
  simp only [boolsD_map2, List.any_map]
  rfl
theorem sortD_asc {ds : List Int} (h : ds.Pairwise (· < ·)) : sortD (iL ds) = iL ds := by
  have e : (iL (ds.mergeSort fun a b => decide (a ≤ b))) = sortD (iL ds) := by
    unfold iL sortD
    refine List.map_mergeSort fun a _ b _ => ?_
    show decide (a ≤ b) = !PySem.W.dataLt (.int b) (.int a)
    rw [dataLt_int, ← decide_not]
    congr 1
    exact propext ⟨fun h => by omega, fun h => by omega⟩
  rw [← e, List.mergeSort_of_pairwise (h.imp fun z => by simp; omega)]
theorem keys_dkI (ds : List Int) : (dkI ds).map (fun kv => kD kv.1) = iL ds := by
  unfold dkI iL
  rw [List.map_map]
  rfl
theorem behind_ok {G : List (List Int)} (hG : Good G) (hl : G.length ≤ 100) {k : Int} (h0 : 0 ≤ k) (h1 : k < G.length) : m_behind [(gD G, .fz), (.int k, .fz)] = .ok (.lst (iL (bh G k)), .ow) := by
  have sz := sizeLine_val
  have hen : enumD (gD G, .fz) = .ok (enumL 0 (G.map fun r => .tup (iL r)), .fz) := rfl
  have hdk : mkDk1 (.int k, .fz) (.bl true, .fz) = .ok (.dk (dkI [k]), .ow) := rfl
  refine R.w_eq (runD_w ?_)
  simp (dsimp := false) [b_behind, hen, hdk, R.quiet]
  refine w_for (fun j ρ => ∃ (x y z : Option DV), ρ = [some (gD G, .fz), some (.int k, .fz), some (.dk (dkI (k :: bhF G k j)), .ow), x, y, z]) ⟨_, _, _, rfl⟩ (fun j d ρ e hI => ?_) ?_
  · obtain ⟨x, y, z, rfl⟩ := hI
    have hj : j < G.length := by
      have := (List.getElem?_eq_some_iff.mp e).1
      rwa [enumL_length, List.length_map] at this
    rw [enumL_get, List.getElem?_map, List.getElem?_eq_getElem hj] at e
    simp only [Option.map_some, Option.some.injEq] at e
    subst e
    obtain ⟨g1, g2⟩ := hG j _ (List.getElem?_eq_getElem hj)
    have g3 := asc_len g1 g2
    have hz : G[j].length ≤ PySem.sizeLine := by omega
    have hbl := bhF_len G k j
    refine ⟨_, rfl, ?_⟩
    simp (dsimp := false) [b_behind_L1, hz]
    refine w_lcI (fun _ => true) (fun a => .bl (decide (a ∈ k :: bhF G k j))) (fun a ha => ⟨_, rfl, by simp (dsimp := false)⟩) ?_
    have ef : List.map (fun a => D.bl (decide (a ∈ k :: bhF G k j))) (List.filter (fun _ => true) G[j]) = G[j].map fun a => D.bl (decide (a ∈ k :: bhF G k j)) := by rw [List.filter_eq_self.mpr fun _ _ => rfl]
    rw [ef]
    have hany : (G[j].any fun a => decide (a ∈ k :: bhF G k j)) = Rc G k j := by
      rw [rc_at hG k hj]
      refine any_cg fun a ha => ?_
      obtain ⟨b1, b2⟩ := g2 a ha
      unfold bhF
      rw [Bool.eq_iff_iff, decide_eq_true_eq, List.mem_cons, List.mem_filter, mem_rng, Bool.or_eq_true, decide_eq_true_eq]
      exact or_congr Iff.rfl ⟨fun z => z.2, fun z => ⟨⟨b1, b2⟩, z⟩⟩
    have hga := fun l => gAny (fun a => decide (a ∈ k :: bhF G k j)) G[j] l
    rw [hany] at hga
    have hnot : Rc G k j = true → (j : Int) ∉ k :: bhF G k j := fun c z => by
      have := rc_gt hG j hj c
      rcases List.mem_cons.mp z with e | e
      · omega
      · have := (mem_rng.mp (List.mem_filter.mp e).1).2
        omega
    have hz2 : (k :: bhF G k j).length < PySem.sizeLine := by rw [List.length_cons]; omega
    have hds : k :: bhF G k (j + 1) = if Rc G k j = true then (k :: bhF G k j) ++ [(j : Int)] else k :: bhF G k j := by
      rw [bhF_succ]
      split <;> rfl
    rw [hds]
    generalize k :: bhF G k j = ds at hga hnot hz2 ⊢
    by_cases c : Rc G k j = true
    · rw [if_pos c]
      simp (dsimp := false) [hga, c, put_dk _ (hnot c) hz2]
    · rw [if_neg c]
      simp (dsimp := false) [hga, c]
  · rintro _ ⟨x, y, z, rfl⟩
    rw [enumL_length, List.length_map]
    have hbl := bhF_len G k G.length
    have hgl : gListD (.dk (dkI (k :: bhF G k G.length)), .al) = .ok (.lst (iL (k :: bhF G k G.length)), .ow) := by
      unfold gListD
      dsimp only
      rw [keys_dkI]
    have hasc : (k :: bhF G k G.length).Pairwise (· < ·) := by
      refine List.pairwise_cons.mpr ⟨fun a ha => ?_, (rng_lt _).filter _⟩
      obtain ⟨q1, q2⟩ := List.mem_filter.mp ha
      obtain ⟨q3, q4⟩ := mem_rng.mp q1
      have := rc_gt hG a.toNat (by omega) (by rwa [Int.toNat_of_nonneg q3])
      omega
    have hso : gSorted (.lst (iL (k :: bhF G k G.length)), .ow) = .ok (.lst (iL (k :: bhF G k G.length)), .ow) := by
      rw [gSorted_ints _ _ (by rw [List.length_cons]; omega), sortD_asc hasc]
    have hz : (k :: bhF G k G.length).length ≤ PySem.sizeLine := by rw [List.length_cons]; omega
    have hflt : (k :: bhF G k G.length).filter (fun a => decide (a ≠ k)) = bh G k := by
      rw [List.filter_cons_of_neg (by simp)]
      refine List.filter_eq_self.mpr fun a ha => ?_
      have := (List.pairwise_cons.mp hasc).1 a ha
      exact decide_eq_true (by omega)
    generalize k :: bhF G k G.length = ds at hgl hso hz hflt ⊢
    simp (dsimp := false) [hgl, hso, hz]
    refine w_lcI (fun a => decide (a ≠ k)) (fun a => .int a) (fun a ha => ⟨_, rfl, ?_⟩) ?_
    · by_cases c : a = k
      · subst c
        simp (dsimp := false)
      · simp (dsimp := false) [c]
    · rw [hflt]
      simp (dsimp := false)
      rfl
/-! ### the law's own reach -/
def fr (G : List (List Int)) (k : Nat) (J : List Int) (a : Nat) : List Bool := rl (G.take k) a ++ ((J.any fun j => decide (j = a) || (rl (G.take k) a).getD j.toNat false) :: List.replicate (G.length - k - 1) false)
def fm (G : List (List Int)) (k : Nat) (J : List Int) : List (List Bool) := (List.range G.length).map (fr G k J)
theorem set_mid {α : Type} (A : List α) (b c : α) (Z : List α) : (A ++ (b :: Z)).set A.length c = A ++ (c :: Z) := by
  rw [List.set_append_right _ _ (Nat.le_refl _), Nat.sub_self]
  rfl
theorem farJ_fm {G : List (List Int)} {k : Nat} (hk : k < G.length) (J : List Int) {j : Int} (h0 : 0 ≤ j) (h1 : j < k) : farJ k (fm G k J) j = fm G k (J ++ [j]) := by
  have hn : (fm G k J).length = G.length := by unfold fm; rw [List.length_map, List.length_range]
  apply List.ext_getElem
  · unfold farJ fm
    simp
  · intro a ha hb
    have hbn : a < G.length := by
      unfold fm at hb
      simpa using hb
    have hA := tk_len (G := G) (k := (a : Int)) (Nat.le_of_lt hk)
    have erow : ∀ (h : a < (fm G k J).length), (fm G k J)[a] = fr G k J a := fun h => by simp [fm]
    have er2 : (fm G k (J ++ [j]))[a] = fr G k (J ++ [j]) a := by simp [fm]
    rw [er2]
    have hfl : farLine j.toNat k (fr G k J a) = if (rl (G.take k) a).getD j.toNat false = true then rl (G.take k) a ++ (true :: List.replicate (G.length - k - 1) false) else fr G k J a := by
      unfold farLine
      have h2 : (fr G k J a)[j.toNat]? = some ((rl (G.take k) a).getD j.toNat false) := by
        unfold fr
        rw [List.getElem?_append_left (by omega), List.getD_eq_getElem?_getD, List.getElem?_eq_getElem (by omega)]
        rfl
      have h3 : (fr G k J a).set k true = rl (G.take k) a ++ (true :: List.replicate (G.length - k - 1) false) := by
        unfold fr
        conv => lhs; arg 2; rw [← hA]
        exact set_mid _ _ _ _
      rw [h2, h3]
      by_cases c : (rl (G.take k) a).getD j.toNat false = true
      · rw [if_pos c, if_pos (by rw [c])]
      · rw [if_neg c, if_neg fun z => c (Option.some.inj z)]
    have hset : (farLine j.toNat k (fr G k J a)).set k true = rl (G.take k) a ++ (true :: List.replicate (G.length - k - 1) false) := by
      rw [hfl]
      split
      · conv => lhs; arg 2; rw [← hA]
        exact set_mid _ _ _ _
      · unfold fr
        conv => lhs; arg 2; rw [← hA]
        exact set_mid _ _ _ _
    have er3 : fr G k (J ++ [j]) a = rl (G.take k) a ++ (((J.any fun j => decide (j = a) || (rl (G.take k) a).getD j.toNat false) || (decide (j = a) || (rl (G.take k) a).getD j.toNat false)) :: List.replicate (G.length - k - 1) false) := by
      unfold fr
      rw [List.any_append]
      congr 2
      simp
    rw [er3]
    simp only [farJ, List.getElem_set]
    by_cases c : j.toNat = a
    · rw [if_pos c]
      have hja : j = (a : Int) := by omega
      have : ((fm G k J).map (farLine j.toNat k)).getD j.toNat [] = farLine j.toNat k (fr G k J a) := by
        rw [List.getD_eq_getElem?_getD, List.getElem?_map, c, List.getElem?_eq_getElem (by omega), erow]
        rfl
      rw [this, hset]
      have e1 : decide (j = (a : Int)) = true := decide_eq_true hja
      rw [e1, Bool.true_or, Bool.or_true]
    · rw [if_neg c, List.getElem_map, erow, hfl]
      have e1 : decide (j = (a : Int)) = false := decide_eq_false (by omega)
      rw [e1, Bool.false_or]
      split
      · rename_i z
        rw [z, Bool.or_true]
      · rename_i z
        rw [Bool.not_eq_true] at z
        rw [z, Bool.or_false]
        rfl
theorem farK_fm {G : List (List Int)} {k : Nat} (hk : k < G.length) : ∀ (R J : List Int), (∀ j ∈ R, 0 ≤ j ∧ j < (k : Int)) → farK (fm G k J) k R = fm G k (J ++ R)
  | [], J, _ => by rw [List.append_nil]; rfl
  | j :: r, J, h => by
    have hj := h j List.mem_cons_self
    show farK (farJ k (fm G k J) j) k r = _
    rw [farJ_fm hk J hj.1 hj.2, farK_fm hk r _ fun x hx => h x (List.mem_cons_of_mem _ hx), List.append_assoc]
    rfl
def fst_ (G : List (List Int)) (k : Nat) : List (List Bool) := (List.range G.length).map fun a => rl (G.take k) (a : Nat) ++ List.replicate (G.length - k) false
theorem fm_nil {G : List (List Int)} {k : Nat} (hk : k < G.length) : fm G k [] = fst_ G k := by
  unfold fm fst_ fr
  refine List.map_congr_left fun a _ => ?_
  obtain ⟨d, hd⟩ : ∃ d, G.length - k = d + 1 := ⟨G.length - k - 1, by omega⟩
  rw [hd, List.replicate_succ]
  rfl
theorem fm_row {G : List (List Int)} {k : Nat} (hk : k < G.length) : fm G k G[k] = fst_ G (k + 1) := by
  unfold fm fst_ fr
  refine List.map_congr_left fun a _ => ?_
  rw [rl_take hk]
  unfold rlF
  rw [List.append_assoc]
  rfl
theorem farM_eq {G : List (List Int)} (hG : Good G) : farM G = (List.range G.length).map fun a => rl G (a : Nat) := by
  have key : ∀ k, k ≤ G.length → (List.range k).foldl (fun m k => farK m k (G.getD k [])) (List.replicate G.length (List.replicate G.length false)) = fst_ G k := by
    intro k
    induction k with
    | zero =>
      intro _
      unfold fst_
      show List.replicate _ _ = _
      symm
      exact List.eq_replicate_iff.mpr ⟨by simp, fun b hb => by obtain ⟨a, _, rfl⟩ := List.mem_map.mp hb; rfl⟩
    | succ k ih =>
      intro hk
      rw [foldl_range_succ, ih (by omega), getD_lt [] (by omega), ← fm_nil (by omega), farK_fm (by omega) _ _ (hG k _ (List.getElem?_eq_getElem (by omega))).2, List.nil_append, fm_row]
  unfold farM
  rw [key _ (Nat.le_refl _)]
  unfold fst_
  refine List.map_congr_left fun a _ => ?_
  rw [List.take_length, Nat.sub_self]
  exact List.append_nil _
def farD (G : List (List Int)) : List D := (List.range G.length).map fun a => D.lst ((rl G (a : Nat)).map D.bl)
theorem far_ok {G : List (List Int)} (hG : Good G) (hl : G.length ≤ 100) : m__law_far [(gD G, .fz)] = .ok (.lst (farD G), .ow) := by
  refine run_rt ?_
  show b__law_far [some (gD G, .fz), none, none, none, none, none] = _
  have e : asR (G.map fun (r : List Int) => D.tup (iL r)) = some G := asR_rows G
  unfold b__law_far mFar
  dsimp only [gD]
  rw [e]
  dsimp only
  rw [if_pos ⟨by omega, fun r hr j hj => by
    obtain ⟨i, hi, rfl⟩ := List.getElem_of_mem hr
    have := (hG i _ (List.getElem?_eq_getElem hi)).2 j hj
    omega⟩, farM_eq hG, List.map_map]
  rfl
theorem far_ix {G : List (List Int)} {i k : Nat} (hi : i < G.length) (hk : k < G.length) (l m : Kd) : ∃ row : List D, ixD (.lst (farD G), l) (.int i, m) = .ok (.lst row, .fz) ∧ ∀ l m, ixD (.lst row, l) (.int k, m) = .ok (.bl (Rc G i k), .fz) := by
  refine ⟨(rl G (i : Nat)).map D.bl, ix_lst _ _ rfl ?_, fun l m => ix_lst _ _ rfl ?_⟩
  · unfold farD
    rw [List.getElem?_map, List.getElem?_range hi]
    rfl
  · have := rl_len G i
    unfold Rc
    rw [List.getElem?_map, Int.toNat_natCast, List.getD_eq_getElem?_getD, List.getElem?_eq_getElem (by omega)]
    rfl
/-! ### nodes -/
theorem cb_eq {α : Type} {r : R α} {x : α} (h : r.w fun y => y = x) : r = .ok x := R.w_eq h
abbrev nnC : Env → R Bool := tOrD (tNotD (dTru (dCall 1 m_is_whole (aCons (dVar 2) aNil)))) (tNotD (fun ρ => (dChn (cOrd oLe) (cOrd oLt) (kInt 0) (dVar 2) (dCB (one gLen) (aCons (dVar 0) aNil)) ρ).bind boolD))
theorem nn_cond {G : List (List Int)} (x : Int) (p : Option DV) : nnC [some (gD G, .fz), p, some (.int x, .fz)] = .ok (!decide (0 ≤ x ∧ x < G.length)) := by
  have hlen : gLen (gD G, .fz) = .ok (.int G.length, .fz) := by simp [gD]
  refine R.w_eq ?_
  by_cases h : 0 ≤ x
  · by_cases h2 : x < G.length
    · simp (dsimp := false) [is_whole_int x .fz (.inl rfl), hlen, h, h2]
    · simp (dsimp := false) [is_whole_int x .fz (.inl rfl), hlen, h, h2]
  · simp (dsimp := false) [is_whole_int x .fz (.inl rfl), hlen, h]
theorem nn_step {G : List (List Int)} (x : Int) (p : Option DV) : b__need_nodes_L1 [some (gD G, .fz), p, some (.int x, .fz)] = if 0 ≤ x ∧ x < G.length then .nx [some (gD G, .fz), p, some (.int x, .fz)] else .ex ⟨"InvalidNumber", [("value", .int x)]⟩ := by
  show (nnC [some (gD G, .fz), p, some (.int x, .fz)]).st _ = _
  rw [nn_cond]
  by_cases h : 0 ≤ x ∧ x < G.length
  · rw [if_pos h, decide_eq_true h]
    rfl
  · rw [if_neg h, decide_eq_false h]
    rfl
theorem nodes_run {G : List (List Int)} (xs : List Int) : m__need_nodes [(gD G, .fz), (.tup (iL xs), .fz)] = match xs.find? fun x => !decide (0 ≤ x ∧ x < (G.length : Int)) with | none => .ok (.non, .fz) | some x => .ex ⟨"InvalidNumber", [("value", .int x)]⟩ := by
  have key : ∀ (ys : List Int) (q : Option DV), (∃ q', forM (gName 2) b__need_nodes_L1 (iL ys) [some (gD G, .fz), some (.tup (iL xs), .fz), q] = match ys.find? fun x => !decide (0 ≤ x ∧ x < (G.length : Int)) with | none => .nx [some (gD G, .fz), some (.tup (iL xs), .fz), q'] | some x => .ex ⟨"InvalidNumber", [("value", .int x)]⟩) := by
    intro ys
    induction ys with
    | nil => intro q; exact ⟨q, rfl⟩
    | cons y r ih =>
      intro q
      obtain ⟨q', h⟩ := ih (some (.int y, .fz))
      refine ⟨q', ?_⟩
      have st := nn_step (G := G) y (some (.tup (iL xs), .fz))
      show (match b__need_nodes_L1 [some (gD G, .fz), some (.tup (iL xs), .fz), some (.int y, .fz)] with
        | .nx ρ2 => forM (gName 2) b__need_nodes_L1 (iL r) ρ2
        | .ct ρ2 => forM (gName 2) b__need_nodes_L1 (iL r) ρ2
        | .bk ρ2 => .nx ρ2
        | r => r) = _
      rw [st]
      by_cases c : 0 ≤ y ∧ y < (G.length : Int)
      · rw [if_pos c, List.find?_cons_of_neg (by rw [decide_eq_true c]; decide)]
        exact h
      · rw [if_neg c, List.find?_cons_of_pos (by rw [decide_eq_false c]; decide)]
  obtain ⟨q', h⟩ := key xs none
  have h2 : b__need_nodes ([(gD G, Kd.fz), (D.tup (iL xs), Kd.fz)].map some ++ List.replicate (3 - [(gD G, Kd.fz), (D.tup (iL xs), Kd.fz)].length) none) = match xs.find? fun x => !decide (0 ≤ x ∧ x < (G.length : Int)) with | none => .nx [some (gD G, .fz), some (.tup (iL xs), .fz), q'] | some x => .ex ⟨"InvalidNumber", [("value", .int x)]⟩ := h
  unfold m__need_nodes runD
  rw [h2]
  cases xs.find? fun x => !decide (0 ≤ x ∧ x < (G.length : Int)) <;> rfl
theorem nodes1 {G : List (List Int)} {x : Int} (h : 0 ≤ x ∧ x < (G.length : Int)) : m__need_nodes [(gD G, .fz), (.tup (iL [x]), .fz)] = .ok (.non, .fz) := by
  rw [nodes_run, List.find?_cons_of_neg (by rw [decide_eq_true h]; decide)]
  rfl
theorem nodes2 {G : List (List Int)} {x y : Int} (h : 0 ≤ x ∧ x < (G.length : Int)) (h2 : 0 ≤ y ∧ y < (G.length : Int)) : m__need_nodes [(gD G, .fz), (.tup (iL [x, y]), .fz)] = .ok (.non, .fz) := by
  rw [nodes_run, List.find?_cons_of_neg (by rw [decide_eq_true h]; decide), List.find?_cons_of_neg (by rw [decide_eq_true h2]; decide)]
  rfl
theorem nodesB {G : List (List Int)} {x : Int} (r : List Int) (h : ¬ (0 ≤ x ∧ x < (G.length : Int))) : m__need_nodes [(gD G, .fz), (.tup (iL (x :: r)), .fz)] = .ex ⟨"InvalidNumber", [("value", .int x)]⟩ := by
  rw [nodes_run, List.find?_cons_of_pos (by rw [decide_eq_false h]; decide)]
theorem nodesC {G : List (List Int)} {x y : Int} (r : List Int) (h : 0 ≤ x ∧ x < (G.length : Int)) (h2 : ¬ (0 ≤ y ∧ y < (G.length : Int))) : m__need_nodes [(gD G, .fz), (.tup (iL (x :: y :: r)), .fz)] = .ex ⟨"InvalidNumber", [("value", .int y)]⟩ := by
  rw [nodes_run, List.find?_cons_of_neg (by rw [decide_eq_true h]; decide), List.find?_cons_of_pos (by rw [decide_eq_false h2]; decide)]
theorem mem_bh {G : List (List Int)} {k a : Int} (h0 : 0 ≤ a) (h1 : a < G.length) : decide (a ∈ bh G k) = Rc G k a := by
  unfold bh bhF
  rw [Bool.eq_iff_iff, decide_eq_true_eq, List.mem_filter, mem_rng]
  exact ⟨fun z => z.2, fun z => ⟨⟨h0, h1⟩, z⟩⟩
theorem is_ahead_ok {G : List (List Int)} (hG : Good G) (hl : G.length ≤ 100) {i k : Int} (hi : 0 ≤ i ∧ i < (G.length : Int)) (hk : 0 ≤ k ∧ k < (G.length : Int)) : m_is_ahead [(gD G, .fz), (.int i, .fz), (.int k, .fz)] = .ok (.bl (Rc G i k), .fz) := by
  refine R.w_eq (runD_w ?_)
  have hm := mem_bh (G := G) (k := i) hk.1 hk.2
  simp (dsimp := false) only [b_is_ahead]
  simp (dsimp := false) [need_ok G hG hl, iL_cons, nodes2 hi hk, behind_ok hG hl hi.1 hi.2, hm]
def besV (G : List (List Int)) (i : Int) : List Int := (rng G.length).filter fun k => !decide (k = i) && (!Rc G i k && !Rc G k i)
theorem beside_ok {G : List (List Int)} (hG : Good G) (hl : G.length ≤ 100) {i : Int} (hi : 0 ≤ i ∧ i < (G.length : Int)) : m_beside [(gD G, .fz), (.int i, .fz)] = .ok (.tup (iL (besV G i)), .fz) := by
  have sz := sizeLine_val
  have hlen : gLen (gD G, .fz) = .ok (.int G.length, .fz) := by simp [gD]
  have hr := rg1_nat G.length .fz (by omega)
  have hz : G.length ≤ PySem.sizeLine := by omega
  refine R.w_eq (runD_w ?_)
  simp (dsimp := false) only [b_beside]
  simp (dsimp := false) [need_ok G hG hl, iL_cons, nodes1 hi, behind_ok hG hl hi.1 hi.2, hlen, hr, rangeL_rng, hz]
  refine w_lcI (fun k => decide (k ≠ i) && (!Rc G i k && !Rc G k i)) (fun a => .int a) (fun a ha => ⟨_, rfl, ?_⟩) ?_
  · obtain ⟨a0, a1⟩ := mem_rng.mp ha
    have h1 := mem_bh (G := G) (k := i) a0 a1
    have h2 := mem_bh (G := G) (k := a) hi.1 hi.2
    have h3 := behind_ok hG hl a0 a1
    by_cases c : a = i
    · subst c
      simp (dsimp := false)
    · cases q : Rc G i a
      · rw [q] at h1
        simp (dsimp := false) [c, h1, h3, h2]
      · rw [q] at h1
        simp (dsimp := false) [c, h1]
  · simp (dsimp := false)
    rfl
theorem heads_fn {G : List (List Int)} (hG : Good G) (hl : G.length ≤ 100) : m_heads [(gD G, .fz)] = .ok (.tup (iL (hds G)), .fz) := by
  refine R.w_eq (runD_w ?_)
  simp (dsimp := false) [b_heads, need_ok G hG hl, heads_ok hG hl]
theorem tails_fn {G : List (List Int)} (hG : Good G) (hl : G.length ≤ 100) : m_tails [(gD G, .fz)] = .ok (.tup (iL (tls G)), .fz) := by
  refine R.w_eq (runD_w ?_)
  simp (dsimp := false) [b_tails, need_ok G hG hl, tails_ok hG hl]
/-! ### errors -/
abbrev eG (v : D) : Exn := ⟨"InvalidGraph", [("value", v)]⟩
abbrev eN (i : Int) : Exn := ⟨"InvalidNumber", [("value", .int i)]⟩
theorem ret_ex {p : Env → R DV} {ρ : Env} {e : Exn} (h : p ρ = .ex e) : mRet p ρ = .ex e := by
  show (p ρ).st retD = _
  rw [h]
  rfl
theorem ret_seq {p : Env → R DV} {ρ : Env} {f : Env → SO} {e : Exn} (h : mRet p ρ = .ex e) : (mRet p ρ).seq f = .ex e := by
  rw [h]
  rfl
theorem ask_step {n w : Int} {p : Env → R DV} {rest : Env → SO} {ρ : Env} {e : Exn} (h : ρ[0]? = some (some (.int w, .fz))) (h1 : w = n → p ρ = .ex e) (h2 : w ≠ n → rest ρ = .ex e) :
    mSeq (mIf (dCmp (cEq id) (dVar 0) (kInt n)) (mRet p) mPass) rest ρ = .ex e := by
  have c : (dCmp (cEq id) (dVar 0) (kInt n)) ρ = .ok (decide (w = n)) := by
    refine R.w_eq ?_
    by_cases q : w = n
    · simp (dsimp := false) [dVar_fz h, q]
    · simp (dsimp := false) [dVar_fz h, q]
  show (((dCmp (cEq id) (dVar 0) (kInt n)) ρ).st _).seq rest = _
  rw [c]
  by_cases q : w = n
  · rw [decide_eq_true q]
    exact ret_seq (ret_ex (h1 q))
  · rw [decide_eq_false q]
    exact h2 q
theorem asked_bad {w b c : Int} {v : D} (hv : v ∈ bads) : m__law_asked [(.int w, .fz), (v, .fz), (.int b, .fz), (.int c, .fz)] = .ex (eG v) := by
  have hn := bad_need v hv
  have i1 : m_is_ahead [(v, .fz), (.int b, .fz), (.int c, .fz)] = .ex (eG v) := run_ex (expr_ex hn)
  have i2 : m_beside [(v, .fz), (.int b, .fz)] = .ex (eG v) := run_ex (expr_ex hn)
  have i3 : m_work [(v, .fz)] = .ex (eG v) := run_ex (expr_ex hn)
  have i4 : m_heads [(v, .fz)] = .ex (eG v) := run_ex (expr_ex hn)
  have i5 : m_tails [(v, .fz)] = .ex (eG v) := run_ex (expr_ex hn)
  have i6 : m_span [(v, .fz)] = .ex (eG v) := run_ex (expr_ex hn)
  have i7 : m_longest_way [(v, .fz)] = .ex (eG v) := run_ex (expr_ex hn)
  refine run_ex ?_
  refine ask_step (w := w) rfl (fun _ => i1) fun _ => ?_
  refine ask_step (w := w) rfl (fun _ => i2) fun _ => ?_
  refine ask_step (w := w) rfl (fun _ => i3) fun _ => ?_
  refine ask_step (w := w) rfl (fun _ => i4) fun _ => ?_
  refine ask_step (w := w) rfl (fun _ => i5) fun _ => ?_
  refine ask_step (w := w) rfl (fun _ => i6) fun _ => ?_
  exact ret_ex i7
theorem asked_num0 {G : List (List Int)} (hG : Good G) (hl : G.length ≤ 100) {x : Int} (c : Int) (h : ¬ (0 ≤ x ∧ x < (G.length : Int))) : m__law_asked [(.int 0, .fz), (gD G, .fz), (.int x, .fz), (.int c, .fz)] = .ex (eN x) := by
  have i1 : m_is_ahead [(gD G, .fz), (.int x, .fz), (.int c, .fz)] = .ex (eN x) := run_ex ((expr_ok (need_ok G hG hl)).trans (expr_ex (nodesB [c] h)))
  exact run_ex (ask_step (w := 0) rfl (fun _ => i1) fun z => absurd rfl z)
theorem asked_num1 {G : List (List Int)} (hG : Good G) (hl : G.length ≤ 100) {x : Int} (c : Int) (h : ¬ (0 ≤ x ∧ x < (G.length : Int))) : m__law_asked [(.int 1, .fz), (gD G, .fz), (.int x, .fz), (.int c, .fz)] = .ex (eN x) := by
  have i1 : m_beside [(gD G, .fz), (.int x, .fz)] = .ex (eN x) := run_ex ((expr_ok (need_ok G hG hl)).trans (expr_ex (nodesB [] h)))
  obtain ⟨w, hw⟩ : ∃ w : Int, w = 1 := ⟨1, rfl⟩
  rw [← hw]
  refine run_ex ?_
  refine ask_step (w := w) rfl (fun z => absurd (hw.symm.trans z) (by decide)) fun _ => ?_
  exact ask_step (w := w) rfl (fun _ => i1) fun z => absurd hw z
theorem asked_num2 {G : List (List Int)} (hG : Good G) (hl : G.length ≤ 100) {x y : Int} (hx : 0 ≤ x ∧ x < (G.length : Int)) (h : ¬ (0 ≤ y ∧ y < (G.length : Int))) : m__law_asked [(.int 0, .fz), (gD G, .fz), (.int x, .fz), (.int y, .fz)] = .ex (eN y) := by
  have i1 : m_is_ahead [(gD G, .fz), (.int x, .fz), (.int y, .fz)] = .ex (eN y) := run_ex ((expr_ok (need_ok G hG hl)).trans (expr_ex (nodesC [] hx h)))
  exact run_ex (ask_step (w := 0) rfl (fun _ => i1) fun z => absurd rfl z)
theorem fld_eq (c : PySem.Str) (z : D) : xFld c "value" ⟨c, [("value", z)]⟩ = .ok z := by
  have l2 : List.lookup ("value" : PySem.Str) [(("value" : PySem.Str), z)] = some z := by simp [List.lookup]
  unfold xFld
  rw [if_pos rfl]
  dsimp only
  rw [l2]
theorem told_q (t c : PySem.Str) (z : D) : (qTup (qCons (qStr t) (qCons (xFld c "value") qNil))) ⟨c, [("value", z)]⟩ = .ok (.tup [.str t, z]) := by
  simp [qTup, qCons, qStr, qNil, fld_eq, show (2 : Nat) ≤ PySem.sizeLine by decide]
theorem told_g {w b c : Int} {v : D} (h : m__law_asked [(.int w, .fz), (v, .fz), (.int b, .fz), (.int c, .fz)] = .ex (eG v)) : m__law_told [(.int w, .fz), (v, .fz), (.int b, .fz), (.int c, .fz)] = .ok (.tup [.str (PySem.Str.ofString "graph"), v], .fz) := by
  refine run_rt ?_
  have e1 : (mRet (mTup (aCons (kStr (PySem.Str.ofString "value")) (aCons (dCall 4 m__law_asked (aCons (dVar 0) (aCons (dVar 1) (aCons (dVar 2) (aCons (dVar 3) aNil))))) aNil)))) [some (.int w, .fz), some (v, .fz), some (.int b, .fz), some (.int c, .fz), none, none] = .ex (eG v) := by
    refine ret_ex ?_
    show ((aCons (kStr (PySem.Str.ofString "value")) (aCons (dCall 4 m__law_asked (aCons (dVar 0) (aCons (dVar 1) (aCons (dVar 2) (aCons (dVar 3) aNil))))) aNil)) _).bind mkTup = _
    rw [cons_ex rfl h]
    rfl
  show b__law_told [some (.int w, .fz), some (v, .fz), some (.int b, .fz), some (.int c, .fz), none, none] = _
  unfold b__law_told mTry
  rw [e1]
  unfold hTry
  dsimp only
  have l1 : List.lookup ("InvalidGraph" : PySem.Str) [(("InvalidGraph" : PySem.Str), true), ("InvalidNumber", false)] = some true := by simp [List.lookup]
  rw [l1]
  dsimp only
  rw [told_q]
theorem told_n {w b c x : Int} {v : D} (h : m__law_asked [(.int w, .fz), (v, .fz), (.int b, .fz), (.int c, .fz)] = .ex (eN x)) : m__law_told [(.int w, .fz), (v, .fz), (.int b, .fz), (.int c, .fz)] = .ok (.tup [.str (PySem.Str.ofString "number"), .int x], .fz) := by
  refine run_rt ?_
  have e1 : (mRet (mTup (aCons (kStr (PySem.Str.ofString "value")) (aCons (dCall 4 m__law_asked (aCons (dVar 0) (aCons (dVar 1) (aCons (dVar 2) (aCons (dVar 3) aNil))))) aNil)))) [some (.int w, .fz), some (v, .fz), some (.int b, .fz), some (.int c, .fz), none, none] = .ex (eN x) := by
    refine ret_ex ?_
    show ((aCons (kStr (PySem.Str.ofString "value")) (aCons (dCall 4 m__law_asked (aCons (dVar 0) (aCons (dVar 1) (aCons (dVar 2) (aCons (dVar 3) aNil))))) aNil)) _).bind mkTup = _
    rw [cons_ex rfl h]
    rfl
  show b__law_told [some (.int w, .fz), some (v, .fz), some (.int b, .fz), some (.int c, .fz), none, none] = _
  unfold b__law_told mTry
  rw [e1]
  unfold hTry
  dsimp only
  have l1 : List.lookup ("InvalidNumber" : PySem.Str) [(("InvalidGraph" : PySem.Str), true), ("InvalidNumber", false)] = some false := by decide
  have l2 : List.lookup ("InvalidNumber" : PySem.Str) [(("InvalidGraph" : PySem.Str), false), ("InvalidNumber", true)] = some true := by decide
  rw [l1]
  dsimp only
  unfold hTry
  dsimp only
  rw [l2]
  dsimp only
  rw [told_q]
theorem mkLst_3 (a b c : D) : mkLst [(a, .fz), (b, .fz), (c, .fz)] = .ok (.lst [a, b, c], .ow) := by simp [mkLst, show 3 ≤ PySem.sizeLine by decide]
theorem pl_told (t : PySem.Str) {d : D} (h : Pl 11 d) : Pl 12 (.tup [.str t, d]) := ⟨by simp, fun y hy => by
  rcases List.mem_cons.mp hy with e | e
  · rw [e]; trivial
  · cases List.mem_singleton.mp e
    exact h⟩
theorem errors_ok {G : List (List Int)} (hG : Good G) (hl : G.length ≤ 100) (ns : List Int) : m__law_errors_right [(.lst (iL ns), .fz), (gD G, .fz)] = .ok (.bl true, .fz) := by
  have hlen : gLen (gD G, .fz) = .ok (.int G.length, .fz) := by simp [gD]
  have hneg : negD (.int 1, .fz) = .ok (.int (-1), .fz) := Eq.trans rfl rfl
  have hr7 : rg1 (.int 7, .fz) = .ok (rangeL 0 1 7, .fz) := rg1_nat 7 .fz (by decide)
  refine R.w_eq (runD_w ?_)
  simp (dsimp := false) [b__law_errors_right, iL_one, iL_cons]
  refine R.w_mono (draws_ok ns 21 [3, 1000] .fz (.inl rfl) (by omega) (fun l h => ?_) (by simp)) ?_
  · simp at h
    omega
  rintro _ ⟨ds, rfl, h1, h2⟩
  obtain ⟨d, e, rfl⟩ := two_of h1
  obtain ⟨b1, b2⟩ := h2 0 d _ rfl rfl
  obtain ⟨c1, c2⟩ := h2 1 e _ rfl rfl
  have x0 : ∀ l m, ixD (.lst (iL [d, e]), l) (.int 0, m) = .ok (.int d, .fz) := fun l m => ix_lst (j := 0) _ _ rfl rfl
  have x1 : ∀ l m, ixD (.lst (iL [d, e]), l) (.int 1, m) = .ok (.int e, .fz) := fun l m => ix_lst (j := 1) _ _ rfl rfl
  simp (dsimp := false) [hlen]
  rw [frzS_fz (i := 3) rfl]
  have hbad : ∃ x : Int, ixD (.lst (.int (-1 - e) :: .int G.length :: iL [(G.length : Int) + 1 + e]), .ow) (.int d, .fz) = .ok (.int x, .fz) ∧ ¬ (0 ≤ x ∧ x < (G.length : Int)) := by
    have hd : d = 0 ∨ d = 1 ∨ d = 2 := by omega
    rcases hd with rfl | rfl | rfl
    · exact ⟨_, ix_lst (j := 0) _ _ rfl rfl, by omega⟩
    · exact ⟨_, ix_lst (j := 1) _ _ rfl rfl, by omega⟩
    · exact ⟨_, ix_lst (j := 2) _ _ rfl rfl, by omega⟩
  obtain ⟨x, hx, hb⟩ := hbad
  simp (dsimp := false) [hneg, x0, x1, hx]
  refine R.w_mono (no_graph_ok ns 20 (by omega)) ?_
  rintro _ ⟨v, hv, rfl⟩
  simp (dsimp := false) [hr7]
  refine w_rng (fun j ρ => ∃ (z : Option DV), ρ = [some (.lst (iL ns), .fz), some (gD G, .fz), some (.lst (iL [d, e]), .ow), some (.int G.length, .fz), some (.int x, .fz), some (v, .fz), z]) ⟨_, rfl⟩ (fun j ρ hj hI => ?_) ?_
  · obtain ⟨z, rfl⟩ := hI
    have t1 := told_g (asked_bad (w := j) (b := x) (c := 0) hv)
    have q1 := equal_ok (pl_told (PySem.Str.ofString "graph") (bad_pl v hv))
    refine ⟨_, rfl, ?_⟩
    simp (dsimp := false) [b__law_errors_right_L1]
    rw [frzS_fz (i := 5) rfl]
    simp (dsimp := false) [t1, q1]
  · rintro _ ⟨z, rfl⟩
    have t1 := told_n (asked_num0 hG hl (-1) hb)
    have t2 := told_n (asked_num1 hG hl 0 hb)
    have q1 := equal_ok (pl_told (PySem.Str.ofString "number") (d := .int x) trivial)
    rw [iL_one] at q1
    simp (dsimp := false)
    rw [frzS_fz (i := 4) rfl]
    simp (dsimp := false) [hneg, t1, t2, q1]
    rw [frzS_fz (i := 4) rfl]
    by_cases c : G.length = 0
    · simp (dsimp := false) [c]
    · have t3 := told_n (asked_num2 hG hl (x := 0) ⟨by omega, by omega⟩ hb)
      have c2 : ((G.length : Int) = 0) = False := eq_false (by omega)
      simp (dsimp := false) [c, c2, t3, q1]
theorem pl_ints {r : List Int} (h : r.length ≤ 1000) : Pl 12 (.tup (iL r)) := pl_row 10 r h
theorem law_true (ns : List Int) (h : ns.length ≤ 63) : m_law [(.lst (ns.map .int), .fz)] = .ok (.bl true, .fz) := by
  have sz := sizeLine_val
  rw [← iL_eq]
  refine R.w_eq (runD_w ?_)
  simp (dsimp := false) [b_law]
  refine R.w_mono (graph_ok ns 0 14 (by omega) (by omega)) ?_
  rintro _ ⟨G, rfl, l1, hG⟩
  have hl : G.length ≤ 100 := by omega
  have hlen : gLen (gD G, .fz) = .ok (.int G.length, .fz) := by simp [gD]
  have hr := rg1_nat G.length .fz (by omega)
  have hz : G.length ≤ PySem.sizeLine := by omega
  have e1 := equal_ok (d := .int G.length) trivial
  have e2 := equal_ok (d := .int (spanV G)) trivial
  have e3 := equal_ok (pl_ints (r := hds G) (by have := hds_len G; omega))
  have e4 := equal_ok (pl_ints (r := tls G) (by have : (tls G).length = G.length := tlF_len G G.length; omega))
  have e5 := equal_ok (pl_ints (r := wayV G) (by have : (wayV G).length ≤ G.length := wP_len G.length; omega))
  have e6 : ∀ i, m__law_equal [(.tup (iL (besV G i)), .fz), (.tup (iL (besV G i)), .fz)] = .ok (.bl true, .fz) := fun i => equal_ok (pl_ints (by
    have := List.length_filter_le (fun k => !decide (k = i) && (!Rc G i k && !Rc G k i)) (rng G.length)
    rw [rng_length] at this
    unfold besV
    omega))
  have e7 : ∀ b, m__law_equal [(.bl b, .fz), (.bl b, .fz)] = .ok (.bl true, .fz) := fun b => equal_ok (d := .bl b) trivial
  have f1 := far_ok hG hl
  have f2 := isg_ok G hG hl
  have f3 := work_ok hG hl
  have f4 := span_ok hG hl
  have f5 := law_span_ok hG hl
  have f6 := heads_fn hG hl
  have f7 := law_heads_ok hG hl
  have f8 := tails_fn hG hl
  have f9 := law_tails_ok hG hl
  have f10 := longest_ok hG hl
  have f11 := law_longest_ok hG hl
  have f12 := errors_ok hG hl ns
  simp (dsimp := false) [hlen, f1, f2, f3, f4, f5, f6, f7, f8, f9, f10, f11, e1, e2, e3, e4, e5, hr]
  refine w_rng (fun j ρ => ∃ (x y z : Option DV), ρ = [some (.lst (iL ns), .fz), some (gD G, .fz), some (.int G.length, .fz), some (.lst (farD G), .ow), x, y, z]) ⟨_, _, _, rfl⟩ (fun j ρ hj hI => ?_) ?_
  · obtain ⟨x, y, z, rfl⟩ := hI
    have hb := beside_ok hG hl (i := j) ⟨by omega, by omega⟩
    refine ⟨_, rfl, ?_⟩
    simp (dsimp := false) [b_law_L2, hr, hz, rangeL_rng]
    refine w_lcI (fun k => !decide (k = (j : Int)) && (!Rc G j k && !Rc G k j)) (fun a => .int a) (fun a ha => ⟨_, rfl, ?_⟩) ?_
    · obtain ⟨a0, a1⟩ := mem_rng.mp ha
      obtain ⟨k, rfl⟩ : ∃ k : Nat, a = k := ⟨a.toNat, by omega⟩
      have hk : k < G.length := by omega
      obtain ⟨row, r1, r2⟩ := far_ix hj hk .al .fz
      obtain ⟨row', r1', r2'⟩ := far_ix hk hj .al .fz
      by_cases c : (k : Int) = j
      · simp (dsimp := false) [c]
      · cases q : Rc G j k
        · rw [q] at r2
          simp (dsimp := false) [c, r1, r2, r1', r2']
        · rw [q] at r2
          simp (dsimp := false) [c, r1, r2]
    · have eb : List.map (fun a => D.int a) (List.filter (fun k => !decide (k = (j : Int)) && (!Rc G j k && !Rc G k j)) (rng G.length)) = iL (besV G j) := rfl
      rw [eb]
      simp (dsimp := false) [hb, e6, hr]
      refine w_rng (fun k ρ => ∃ (z : Option DV), ρ = [some (.lst (iL ns), .fz), some (gD G, .fz), some (.int G.length, .fz), some (.lst (farD G), .ow), some (.int j, .fz), some (.tup (iL (besV G j)), .fz), z]) ⟨_, rfl⟩ (fun k ρ hk hI => ?_) ?_
      · obtain ⟨z, rfl⟩ := hI
        obtain ⟨row, r1, r2⟩ := far_ix hj hk .al .fz
        have ha := is_ahead_ok hG hl (i := j) (k := k) ⟨by omega, by omega⟩ ⟨by omega, by omega⟩
        refine ⟨_, rfl, ?_⟩
        simp (dsimp := false) [b_law_L1, ha, r1, r2, e7]
      · rintro _ ⟨z, rfl⟩
        simp (dsimp := false)
  · rintro _ ⟨x, y, z, rfl⟩
    simp (dsimp := false) [f12]
end K16
open PySem PySem.W PyProof.Rows
set_option maxHeartbeats 0 in
theorem PySem.Challenge.cw_forkspan_k16_heads_tails_spans_ways_holds : PySem.Challenge.rw_forkspan_k16_heads_tails_spans_ways.Holds := by
  w_on; o_law; k_head; (case hw => w_witness2)
  k_fill
  refine FK.walk_fk (l := PySem.Challenge.rw_forkspan_k16_heads_tails_spans_ways) (n := 63) (k := 14) (x := "_law_script") (m := K16.m_law) rfl (by decide) rfl ⟨rfl, by decide, by decide⟩ (fun w h Y => PySem.W.kIn_of Y) ?F K16.law_true
  case F =>
    intro w mg fa h KX G hmg
    refine' K16.all_mk KX G hmg ?a1 ?l1 ?c1 ?k1 ?a2 ?l2 ?c2 ?k2 ?a3 ?l3 ?c3 ?k3 ?a4 ?l4 ?c4 ?k4 ?a5 ?l5 ?c5 ?k5 ?a6 ?l6 ?c6 ?k6 ?a7 ?l7 ?c7 ?k7 ?a8 ?l8 ?c8 ?k8 ?a9 ?l9 ?c9 ?k9 ?a10 ?l10 ?c10 ?k10 ?a11 ?l11 ?c11 ?k11 ?a12 ?l12 ?c12 ?k12 ?a13 ?l13 ?c13 ?k13 ?a14 ?l14 ?c14 ?k14 ?a15 ?l15 ?c15 ?k15 ?a16 ?l16 ?c16 ?k16 ?a17 ?l17 ?c17 ?k17 ?a18 ?l18 ?c18 ?k18 ?a19 ?l19 ?c19 ?k19 ?a20 ?l20 ?c20 ?k20 ?a21 ?l21 ?c21 ?k21 ?a22 ?l22 ?c22 ?k22 ?a23 ?l23 ?c23 ?k23 ?a24 ?l24 ?c24 ?k24 ?a25 ?l25 ?c25 ?k25 ?a26 ?l26 ?c26 ?k26 ?a27 ?l27 ?c27 ?k27 ?a28 ?l28 ?c28 ?k28 ?a29 ?l29 ?c29 ?k29 ?aC_InvalidGraph ?ga_InvalidGraph ?gg_InvalidGraph ?eC_InvalidGraph ?hC_InvalidGraph ?tC_InvalidGraph ?ic_InvalidGraph ?n0_InvalidGraph ?xL_InvalidGraph ?rv_InvalidGraph ?sa_InvalidGraph ?kC_InvalidGraph ?iC_InvalidGraph ?tI_InvalidGraph ?lI_InvalidGraph ?cI_InvalidGraph ?kI_InvalidGraph ?aC_InvalidNumber ?ga_InvalidNumber ?gg_InvalidNumber ?eC_InvalidNumber ?hC_InvalidNumber ?tC_InvalidNumber ?ic_InvalidNumber ?n0_InvalidNumber ?xL_InvalidNumber ?rv_InvalidNumber ?sa_InvalidNumber ?kC_InvalidNumber ?iC_InvalidNumber ?tI_InvalidNumber ?lI_InvalidNumber ?cI_InvalidNumber ?kI_InvalidNumber ?x_InvalidGraph_InvalidNumber ?x_InvalidNumber_InvalidNumber ?x_InvalidGraph_InvalidGraph ?x_InvalidNumber_InvalidGraph ?z_len ?z_int ?z_max ?z_range ?z_tuple ?z_isinstance ?z_bool ?z_str ?z_all ?z_enumerate ?z_any ?z_list ?z_sorted
    (case a1 => k_is); (case l1 => k_is); (case c1 => k_is); (case k1 => k_is); (case a2 => k_is); (case l2 => k_is); (case c2 => k_is); (case k2 => k_is); (case a3 => k_is); (case l3 => k_is); (case c3 => k_is); (case k3 => k_is); (case a4 => k_is); (case l4 => k_is); (case c4 => k_is); (case k4 => k_is); (case a5 => k_is); (case l5 => k_is); (case c5 => k_is); (case k5 => k_is); (case a6 => k_is); (case l6 => k_is); (case c6 => k_is); (case k6 => k_is); (case a7 => k_is); (case l7 => k_is); (case c7 => k_is); (case k7 => k_is); (case a8 => k_is); (case l8 => k_is); (case c8 => k_is); (case k8 => k_is); (case a9 => k_is); (case l9 => k_is); (case c9 => k_is); (case k9 => k_is); (case a10 => k_is); (case l10 => k_is); (case c10 => k_is); (case k10 => k_is); (case a11 => k_is); (case l11 => k_is); (case c11 => k_is); (case k11 => k_is); (case a12 => k_is); (case l12 => k_is); (case c12 => k_is); (case k12 => k_is); (case a13 => k_is); (case l13 => k_is); (case c13 => k_is); (case k13 => k_is); (case a14 => k_is); (case l14 => k_is); (case c14 => k_is); (case k14 => k_is); (case a15 => k_is); (case l15 => k_is); (case c15 => k_is); (case k15 => k_is); (case a16 => k_is); (case l16 => k_is); (case c16 => k_is); (case k16 => k_is); (case a17 => k_is); (case l17 => k_is); (case c17 => k_is); (case k17 => k_is); (case a18 => k_is); (case l18 => k_is); (case c18 => k_is); (case k18 => k_is); (case a19 => k_is); (case l19 => k_is); (case c19 => k_is); (case k19 => k_is); (case a20 => k_is); (case l20 => k_is); (case c20 => k_is); (case k20 => k_is); (case a21 => k_is); (case l21 => k_is); (case c21 => k_is); (case k21 => k_is); (case a22 => k_is); (case l22 => k_is); (case c22 => k_is); (case k22 => k_is); (case a23 => k_is); (case l23 => k_is); (case c23 => k_is); (case k23 => k_is); (case a24 => k_is); (case l24 => k_is); (case c24 => k_is); (case k24 => k_is); (case a25 => k_is); (case l25 => k_is); (case c25 => k_is); (case k25 => k_is); (case a26 => k_is); (case l26 => k_is); (case c26 => k_is); (case k26 => k_is); (case a27 => k_is); (case l27 => k_is); (case c27 => k_is); (case k27 => k_is); (case a28 => k_is); (case l28 => k_is); (case c28 => k_is); (case k28 => k_is); (case a29 => k_is); (case l29 => k_is); (case c29 => k_is); (case k29 => k_is); (case aC_InvalidGraph => k_is); (case ga_InvalidGraph => k_is); (case gg_InvalidGraph => k_is); (case eC_InvalidGraph => k_is); (case hC_InvalidGraph => k_is); (case tC_InvalidGraph => k_is); (case ic_InvalidGraph => k_is); (case n0_InvalidGraph => k_is); (case xL_InvalidGraph => k_is); (case rv_InvalidGraph => decide +kernel); (case sa_InvalidGraph => k_is); (case kC_InvalidGraph => k_is); (case iC_InvalidGraph => k_is); (case tI_InvalidGraph => k_is); (case lI_InvalidGraph => k_is); (case cI_InvalidGraph => k_is); (case kI_InvalidGraph => k_is); (case aC_InvalidNumber => k_is); (case ga_InvalidNumber => k_is); (case gg_InvalidNumber => k_is); (case eC_InvalidNumber => k_is); (case hC_InvalidNumber => k_is); (case tC_InvalidNumber => k_is); (case ic_InvalidNumber => k_is); (case n0_InvalidNumber => k_is); (case xL_InvalidNumber => k_is); (case rv_InvalidNumber => decide +kernel); (case sa_InvalidNumber => k_is); (case kC_InvalidNumber => k_is); (case iC_InvalidNumber => k_is); (case tI_InvalidNumber => k_is); (case lI_InvalidNumber => k_is); (case cI_InvalidNumber => k_is); (case kI_InvalidNumber => k_is); (case x_InvalidGraph_InvalidNumber => k_is); (case x_InvalidNumber_InvalidNumber => k_is); (case x_InvalidGraph_InvalidGraph => k_is); (case x_InvalidNumber_InvalidGraph => k_is); (case z_len => k_is); (case z_int => k_is); (case z_max => k_is); (case z_range => k_is); (case z_tuple => k_is); (case z_isinstance => k_is); (case z_bool => k_is); (case z_str => k_is); (case z_all => k_is); (case z_enumerate => k_is); (case z_any => k_is); (case z_list => k_is); (case z_sorted => k_is)
