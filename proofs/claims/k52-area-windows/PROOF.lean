import PyProof.Rows.All
import Wide.All
import OpenK.AllK
import Wide.FinOn
import HandS.ForMost
import HandS.ForExc
import HandS.IsInst
import HandS.Deep
import HandS.DictComp
import HandS.SortInts
import HandS.TupAny
import HandS.TupMul
import HandS.Conv
import HandS.Flow
import KE.DataEq
import KE.DataCmp
import KE.GoesEnum
import KE.SortData
import HandS.RaiseMore
import HandS.Flt
import HandS.Style
import HandS.SortKw
import KE.DataMinMax
import HandS.TryMany
import HandS.ExcField
import HandS.ExcInit
import HandS.Defaults
import HandS.Rev
import HandS.RevRange
import KE.KDictDisplayH
import PyProof.DictTable
import PyProof.Rows.RowBridgeK
import HandS.Zip
import PySem.Challenge.RW_forkspan_k52_area_windows_and_span
set_option Elab.async false
set_option linter.all false
set_option maxRecDepth 100000
namespace FK
open PySem PySem.Spec L2
open PyProof.Rows hiding St

/-! ### data -/
inductive D where
  | non | bl (b : Bool) | int (i : Int) | str (s : Str)
  | lst (xs : List D) | tup (xs : List D)
  | dk (kvs : List (Key × D)) | dt (kvs : List (List Key × D))
  deriving Inhabited

mutual
inductive Rep (K : PySem.W.Frag) (H : Hp) : V → D → Prop
  | non : Rep K H .non .non
  | bl (b : Bool) : Rep K H (.bl b) (.bl b)
  | int (i : Int) : Rep K H (.int i) (.int i)
  | str (x : Str) : Rep K H (.str x) (.str x)
  | lst {a : Addr} {vs : List V} {ds : List D} : SqL K H a vs → RepL K H vs ds → Rep K H (.ref a) (.lst ds)
  | tup {a : Addr} {vs : List V} {ds : List D} : H a = some (.tup vs) → RepL K H vs ds → Rep K H (.ref a) (.tup ds)
  | dk {a : Addr} {kvs : List (Key × V)} {ds : List (Key × D)} : H a = some (.dK kvs) → RepK K H kvs ds → Rep K H (.ref a) (.dk ds)
  | dt {a : Addr} {kvs : List (List Key × V)} {ds : List (List Key × D)} : H a = some (.dT kvs) → RepT K H kvs ds → Rep K H (.ref a) (.dt ds)
inductive RepL (K : PySem.W.Frag) (H : Hp) : List V → List D → Prop
  | nil : RepL K H [] []
  | cons {v : V} {vs : List V} {d : D} {ds : List D} : Rep K H v d → RepL K H vs ds → RepL K H (v :: vs) (d :: ds)
inductive RepK (K : PySem.W.Frag) (H : Hp) : List (Key × V) → List (Key × D) → Prop
  | nil : RepK K H [] []
  | cons {k : Key} {v : V} {vs : List (Key × V)} {d : D} {ds : List (Key × D)} : Rep K H v d → RepK K H vs ds → RepK K H ((k, v) :: vs) ((k, d) :: ds)
inductive RepT (K : PySem.W.Frag) (H : Hp) : List (List Key × V) → List (List Key × D) → Prop
  | nil : RepT K H [] []
  | cons {k : List Key} {v : V} {vs : List (List Key × V)} {d : D} {ds : List (List Key × D)} : Rep K H v d → RepT K H vs ds → RepT K H ((k, v) :: vs) ((k, d) :: ds)
end

theorem same_rd {H H' : Hp} (s : Same H H') {a : Addr} {u : HO} (r : Rd H a u) : Rd H' a u := by
  rcases r with r | ⟨o, r⟩
  · exact .inl (s _ _ r)
  · exact .inr ⟨o, s _ _ r⟩
theorem same_seqT {K : PySem.W.Frag} {H H' : Hp} (s : Same H H') {a : Addr} {xs : List V} (r : SqT K H a xs) : SqT K H' a xs := by
  rcases r with r | r
  · exact .inl (same_rd s r)
  · exact .inr r
section
variable {K : PySem.W.Frag} {H H' : Hp}
mutual
theorem Rep.mono (s : Same H H') : ∀ {v : V} {d : D}, Rep K H v d → Rep K H' v d
  | _, _, .non => .non
  | _, _, .bl b => .bl b
  | _, _, .int b => .int b
  | _, _, .str b => .str b
  | _, _, .lst a b => .lst (s.seq a) (RepL.mono s b)
  | _, _, .tup a b => .tup (s _ _ a) (RepL.mono s b)
  | _, _, .dk a b => .dk (s _ _ a) (RepK.mono s b)
  | _, _, .dt a b => .dt (s _ _ a) (RepT.mono s b)
theorem RepL.mono (s : Same H H') : ∀ {v : List V} {d : List D}, RepL K H v d → RepL K H' v d
  | _, _, .nil => .nil
  | _, _, .cons a b => .cons (Rep.mono s a) (RepL.mono s b)
theorem RepK.mono (s : Same H H') : ∀ {v : List (Key × V)} {d : List (Key × D)}, RepK K H v d → RepK K H' v d
  | _, _, .nil => .nil
  | _, _, .cons a b => .cons (Rep.mono s a) (RepK.mono s b)
theorem RepT.mono (s : Same H H') : ∀ {v : List (List Key × V)} {d : List (List Key × D)}, RepT K H v d → RepT K H' v d
  | _, _, .nil => .nil
  | _, _, .cons a b => .cons (Rep.mono s a) (RepT.mono s b)
end
theorem RepL.length : ∀ {v : List V} {d : List D}, RepL K H v d → v.length = d.length
  | _, _, .nil => rfl
  | _, _, .cons _ b => congrArg (· + 1) (RepL.length b)
theorem RepL.append : ∀ {v v' : List V} {d d' : List D}, RepL K H v d → RepL K H v' d' → RepL K H (v ++ v') (d ++ d')
  | _, _, _, _, .nil, h => h
  | _, _, _, _, .cons a b, h => .cons a (RepL.append b h)
theorem RepL.get : ∀ {v : List V} {d : List D} {i : Nat} {x : D}, RepL K H v d → d[i]? = some x → ∃ u, v[i]? = some u ∧ Rep K H u x
  | _, _, _, _, .nil, e => by simp at e
  | _, _, 0, _, .cons a b, e => by simp at e; subst e; exact ⟨_, rfl, a⟩
  | _, _, i + 1, x, .cons a b, e => by
    obtain ⟨u, h1, h2⟩ := RepL.get (i := i) b (by simpa using e)
    exact ⟨u, by simpa using h1, h2⟩
theorem RepL.getV : ∀ {v : List V} {d : List D} {i : Nat} {u : V}, RepL K H v d → v[i]? = some u → ∃ x, d[i]? = some x ∧ Rep K H u x
  | _, _, _, _, .nil, e => by simp at e
  | _, _, 0, _, .cons a b, e => by simp at e; subst e; exact ⟨_, rfl, a⟩
  | _, _, i + 1, x, .cons a b, e => by
    obtain ⟨u, h1, h2⟩ := RepL.getV (i := i) b (by simpa using e)
    exact ⟨u, by simpa using h1, h2⟩
theorem RepL.take : ∀ {v : List V} {d : List D} (n : Nat), RepL K H v d → RepL K H (v.take n) (d.take n)
  | _, _, 0, _ => by simp; exact .nil
  | _, _, _ + 1, .nil => by simp; exact .nil
  | _, _, n + 1, .cons a b => .cons a (RepL.take n b)
theorem RepL.drop : ∀ {v : List V} {d : List D} (n : Nat), RepL K H v d → RepL K H (v.drop n) (d.drop n)
  | _, _, 0, h => by simpa using h
  | _, _, _ + 1, .nil => by simp; exact .nil
  | _, _, n + 1, .cons a b => by simpa using RepL.drop n b
theorem RepL.set : ∀ {v : List V} {d : List D} (n : Nat) {u : V} {x : D}, Rep K H u x → RepL K H v d → RepL K H (v.set n u) (d.set n x)
  | _, _, _, _, _, _, .nil => by simp; exact .nil
  | _, _, 0, _, _, h, .cons a b => .cons h b
  | _, _, n + 1, _, _, h, .cons a b => .cons a (RepL.set n h b)
theorem RepL.ints : ∀ (ns : List Int), RepL K H (ns.map V.int) (ns.map D.int)
  | [] => .nil
  | _ :: r => .cons (.int _) (RepL.ints r)
theorem RepL.of_ints : ∀ {vs : List V} {ns : List Int}, RepL K H vs (ns.map D.int) → vs = ns.map V.int
  | _, [], .nil => rfl
  | _, n :: r, .cons a b => by
    cases a
    rw [RepL.of_ints b]
    rfl
theorem RepL.of_bools : ∀ {vs : List V} {ns : List Bool}, RepL K H vs (ns.map D.bl) → vs = ns.map V.bl
  | _, [], .nil => rfl
  | _, n :: r, .cons a b => by
    cases a
    rw [RepL.of_bools b]
    rfl
end

/-! ### kinds, heaps in two parts -/
inductive Kd where | fz | ow | bo | al
  deriving DecidableEq, Inhabited
abbrev DV := D × Kd
abbrev Env := List (Option DV)
abbrev Own := Addr → Prop
open Classical in
noncomputable def off (O : Own) (H : Hp) : Hp := fun a => if O a then none else H a
def plus (O : Own) (a : Addr) : Own := fun b => O b ∨ b = a
theorem off_some {O : Own} {H : Hp} {a : Addr} {o : HO} (h : off O H a = some o) : ¬ O a ∧ H a = some o := by
  unfold off at h
  split at h
  · cases h
  · exact ⟨by assumption, h⟩
theorem off_of {O : Own} {H : Hp} {a : Addr} {o : HO} (n : ¬ O a) (h : H a = some o) : off O H a = some o := by
  unfold off
  rw [if_neg n]
  exact h
theorem off_sub {O : Own} {H : Hp} : Same (off O H) H := fun _ _ h => (off_some h).2
theorem off_mono {O : Own} {H H' : Hp} (s : Same H H') : Same (off O H) (off O H') := fun a o h => off_of (off_some h).1 (s _ _ (off_some h).2)
theorem off_anti {O O' : Own} {H : Hp} (s : ∀ a, O a → O' a) : Same (off O' H) (off O H) := fun a o h => off_of (fun z => (off_some h).1 (s a z)) (off_some h).2
theorem off_plus_new {O : Own} {H : Hp} {a : Addr} (n : H a = none) : Same (off O H) (off (plus O a) H) := fun b o h => by
  obtain ⟨h1, h2⟩ := off_some h
  exact off_of (fun z => z.elim h1 fun e => by subst e; rw [n] at h2; cases h2) h2
theorem same_upd {H : Hp} {p : Addr} {o : HO} (h : H p = none) : Same H (upd H p o) := fun b x e => by
  rw [upd_ne (ne_of_none e h)]
  exact e
/-- a store to an owned object leaves the frozen part -/
theorem off_upd {O : Own} {H : Hp} {a : Addr} {o : HO} (h : O a) : off O (upd H a o) = off O H := by
  funext b
  unfold off
  split
  · rfl
  · rename_i n
    rw [upd_ne (fun e => n (by rw [e]; exact h))]

/-- what stands at a, its parts frozen; to be read -/
def BorC (K : PySem.W.Frag) (H : Hp) (O : Own) (a : Addr) : D → Prop
  | .lst ds => ∃ vs, SqL K H a vs ∧ RepL K (off O H) vs ds
  | .dk ds => ∃ vs, H a = some (.dK vs) ∧ RepK K (off O H) vs ds
  | .dt ds => ∃ vs, H a = some (.dT vs) ∧ RepT K (off O H) vs ds
  | .tup ds => ∃ vs, SqT K H a vs ∧ RepL K (off O H) vs ds
  | _ => False
/-- .. tracked itself: to be written -/
def OwnC (K : PySem.W.Frag) (H : Hp) (O : Own) (a : Addr) : D → Prop
  | .lst ds => ∃ vs, H a = some (.lst vs) ∧ RepL K (off O H) vs ds
  | .dk ds => ∃ vs, H a = some (.dK vs) ∧ RepK K (off O H) vs ds
  | .dt ds => ∃ vs, H a = some (.dT vs) ∧ RepT K (off O H) vs ds
  | _ => False
section
variable {K : PySem.W.Frag} {H H' : Hp} {O O' : Own} {a : Addr} {d : D}
theorem OwnC.bor (h : OwnC K H O a d) : BorC K H O a d := by
  cases d <;> first | exact h.elim | skip
  all_goals
    obtain ⟨vs, h1, h2⟩ := h
    first
      | exact ⟨vs, SqL.of h1, h2⟩
      | exact ⟨vs, h1, h2⟩
theorem BorC.mono (h : BorC K H O a d) (s : Same H H') (f : Same (off O H) (off O' H')) : BorC K H' O' a d := by
  cases d <;> first | exact h.elim | skip
  · obtain ⟨vs, h1, h2⟩ := h
    exact ⟨vs, s.seq h1, h2.mono f⟩
  · obtain ⟨vs, h1, h2⟩ := h
    exact ⟨vs, same_seqT s h1, h2.mono f⟩
  · obtain ⟨vs, h1, h2⟩ := h
    exact ⟨vs, s _ _ h1, h2.mono f⟩
  · obtain ⟨vs, h1, h2⟩ := h
    exact ⟨vs, s _ _ h1, h2.mono f⟩
theorem OwnC.mono (h : OwnC K H O a d) (s : ∀ o, H a = some o → H' a = some o) (f : Same (off O H) (off O' H')) : OwnC K H' O' a d := by
  cases d <;> first | exact h.elim | skip
  · obtain ⟨vs, h1, h2⟩ := h
    exact ⟨vs, s _ h1, h2.mono f⟩
  · obtain ⟨vs, h1, h2⟩ := h
    exact ⟨vs, s _ h1, h2.mono f⟩
  · obtain ⟨vs, h1, h2⟩ := h
    exact ⟨vs, s _ h1, h2.mono f⟩
theorem OwnC.some (h : OwnC K H O a d) : H a ≠ none := by
  cases d <;> first | exact h.elim | skip
  all_goals
    obtain ⟨vs, h1, _⟩ := h
    rw [h1]
    exact fun z => nomatch z
theorem ownC_nt (h : OwnC K H O a d) (xs : List V) : H a ≠ some (.tup xs) := by
  cases d <;> first | exact h.elim | skip
  all_goals
    obtain ⟨vs, h1, _⟩ := h
    rw [h1]
    exact fun z => nomatch z
theorem OwnC.frozen (h : OwnC K H (plus O a) a d) (n : ¬ O a) : Rep K (off O H) (.ref a) d := by
  have f : Same (off (plus O a) H) (off O H) := off_anti fun b z => .inl z
  cases d <;> first | exact h.elim | skip
  · obtain ⟨vs, h1, h2⟩ := h
    exact .lst (SqL.of (off_of n h1)) (h2.mono f)
  · obtain ⟨vs, h1, h2⟩ := h
    exact .dk (off_of n h1) (h2.mono f)
  · obtain ⟨vs, h1, h2⟩ := h
    exact .dt (off_of n h1) (h2.mono f)
end

/-- what an expression gives, begun at H0, ended at H -/
def Out (K : PySem.W.Frag) (B : Hp) (O0 : Own) (H0 H : Hp) (O : Own) (v : V) (x : DV) : Prop :=
  match x.2 with
  | .fz => Rep K (off O H) v x.1
  | .ow => ∃ a, v = .ref a ∧ H0 a = none ∧ ¬ O a ∧ OwnC K H (plus O a) a x.1
  | .bo => ∃ a, v = .ref a ∧ BorC K B O0 a x.1 ∧ BorC K H O a x.1
  | .al => ∃ a, v = .ref a ∧ BorC K H O a x.1
/-- a slot -/
def SlotOk (K : PySem.W.Frag) (B : Hp) (O0 : Own) (H : Hp) (O : Own) (v : V) (x : DV) : Prop :=
  match x.2 with
  | .fz => Rep K (off O H) v x.1
  | .ow => ∃ a, v = .ref a ∧ O a ∧ B a = none ∧ OwnC K H O a x.1
  | .bo => ∃ a, v = .ref a ∧ BorC K B O0 a x.1
  | .al => False

structure SR (K : PySem.W.Frag) (B F : Hp) (O0 : Own) (H : Hp) (O : Own) (σ : St) (ρ : Env) : Prop where
  len : σ.length = ρ.length
  base : Same B H
  frz : Same F (off O H)
  fb : Same (off O0 B) (off O H)
  dom : ∀ a, O a → H a ≠ none
  dom0 : ∀ a, O0 a → B a ≠ none
  sub : ∀ a, O0 a → O a
  slot : ∀ (i : Nat) (x : DV), ρ[i]? = some (some x) → ∃ v, σ[i]? = some (some v) ∧ SlotOk K B O0 H O v x
  sep : ∀ (i j : Nat) (x y : DV) (a : Addr), i ≠ j → ρ[i]? = some (some x) → x.2 = .ow → ρ[j]? = some (some y) → y.2 = .ow → σ[i]? = some (some (.ref a)) → σ[j]? = some (some (.ref a)) → False
  nt : ∀ (a : Addr) (xs : List V), O a → H a ≠ some (.tup xs)

section
variable {K : PySem.W.Frag} {B F F' H H' : Hp} {O0 O : Own} {σ : St} {ρ : Env}
theorem SR.more (R : SR K B F O0 H O σ ρ) (s : Same H H') : SR K B F O0 H' O σ ρ where
  len := R.len
  base := R.base.trans s
  frz := R.frz.trans (off_mono s)
  fb := R.fb.trans (off_mono s)
  dom := fun a h z => R.dom a h (s.free z)
  dom0 := R.dom0
  sub := R.sub
  slot := fun i x e => by
    obtain ⟨v, h1, h2⟩ := R.slot i x e
    refine ⟨v, h1, ?_⟩
    obtain ⟨d, k⟩ := x
    cases k with
    | fz => exact Rep.mono (off_mono s) h2
    | ow =>
      obtain ⟨a, ea, oa, ba, c⟩ := h2
      exact ⟨a, ea, oa, ba, c.mono (fun o => s _ _) (off_mono s)⟩
    | bo => exact h2
    | al => exact h2
  sep := R.sep
  nt := fun a xs o e => by
    cases q : H a with
    | none => exact R.dom a o q
    | some u =>
      rw [s _ _ q] at e
      cases e
      exact R.nt a xs o q
theorem SR.reframe (R : SR K B F O0 H O σ ρ) (s : Same F' (off O H)) : SR K B F' O0 H O σ ρ := ⟨R.len, R.base, s, R.fb, R.dom, R.dom0, R.sub, R.slot, R.sep, R.nt⟩
theorem SR.weaken (R : SR K B F O0 H O σ ρ) (s : Same F' F) : SR K B F' O0 H O σ ρ := R.reframe (s.trans R.frz)
theorem Out.mono {v : V} {x : DV} {H0 H0' : Hp} (h : Out K B O0 H0 H O v x) (s0 : Same H0' H0) (s : Same H H') : Out K B O0 H0' H' O v x := by
  obtain ⟨d, k⟩ := x
  cases k with
  | fz => exact Rep.mono (off_mono s) h
  | ow =>
    obtain ⟨a, ea, oa, ba, c⟩ := h
    exact ⟨a, ea, s0.free oa, ba, c.mono (fun o => s _ _) (off_mono s)⟩
  | bo =>
    obtain ⟨a, ea, c, c2⟩ := h
    exact ⟨a, ea, c, c2.mono s (off_mono s)⟩
  | al =>
    obtain ⟨a, ea, c⟩ := h
    exact ⟨a, ea, c.mono s (off_mono s)⟩
end
end FK
namespace FK
open PySem PySem.Spec L2
open PyProof.Rows hiding St

/-! ### results -/
structure Exn where
  cls : Str
  fs : List (Str × D)
inductive R (α : Type) where | ok (a : α) | ex (e : Exn) | no
def R.bind {α β : Type} (r : R α) (f : α → R β) : R β := match r with
  | .ok a => f a
  | .ex e => .ex e
  | .no => .no
@[simp] theorem R.bind_ok {α β : Type} (a : α) (f : α → R β) : (R.ok a).bind f = f a := Eq.trans rfl rfl
@[simp] theorem R.bind_ex {α β : Type} (e : Exn) (f : α → R β) : (R.ex e).bind f = .ex e := Eq.trans rfl rfl
@[simp] theorem R.bind_no {α β : Type} (f : α → R β) : (R.no).bind f = .no := Eq.trans rfl rfl

inductive FldR (K : PySem.W.Frag) (H : Hp) : List (Str × V) → List (Str × D) → Prop
  | nil : FldR K H [] []
  | cons {n : Str} {v : V} {vs : List (Str × V)} {d : D} {ds : List (Str × D)} : Rep K H v d → FldR K H vs ds → FldR K H ((n, v) :: vs) ((n, d) :: ds)
theorem FldR.mono {K : PySem.W.Frag} {H H' : Hp} (s : Same H H') : ∀ {vs ds}, FldR K H vs ds → FldR K H' vs ds
  | _, _, .nil => .nil
  | _, _, .cons a b => .cons (a.mono s) (FldR.mono s b)
/-- an exception that flies -/
def ExRep (K : PySem.W.Frag) (mg : Str → Option Value) (O : Own) (H : Hp) (cls : Value) (dd : Option Addr) (e : Exn) : Prop :=
  ∃ C d fs, mg e.cls = some (.ref C) ∧ cls = .ref C ∧ dd = some d ∧ H d = some (.xd fs) ∧ FldR K (off O H) fs e.fs
def XOk (K : PySem.W.Frag) (mg : Str → Option Value) (O : Own) (E : XK) (H : Hp) (e : Exn) : Prop := ∀ cls dd H', Same H H' → ExRep K mg O H' cls dd e → E cls dd H'
theorem XOk.mono {K : PySem.W.Frag} {mg : Str → Option Value} {O : Own} {E : XK} {H H' : Hp} {e : Exn} (h : XOk K mg O E H e) (s : Same H H') : XOk K mg O E H' e := fun c d H2 s2 r => h c d H2 (s.trans s2) r

theorem FldR.look {K : PySem.W.Frag} {H : Hp} {f : Str} {d : D} : ∀ {vs ds}, FldR K H vs ds → ds.lookup f = some d → ∃ v, vs.lookup f = some v ∧ Rep K H v d
  | _, _, .nil, e => by cases e
  | (n, v) :: vs, (_, x) :: ds, .cons a b, e => by
    simp only [List.lookup] at e ⊢
    split at e
    · cases e
      exact ⟨v, rfl, a⟩
    · exact FldR.look b e
theorem XOk.sub {K : PySem.W.Frag} {mg : Str → Option Value} {O O' : Own} {E : XK} {H : Hp} {e : Exn} (h : XOk K mg O E H e) (s : ∀ b, O b → O' b) : XOk K mg O' E H e := fun c d H2 s2 ⟨C, d', fs, h1, h2, h3, h4, h5⟩ => h c d H2 s2 ⟨C, d', fs, h1, h2, h3, h4, h5.mono (off_anti s)⟩

/-- r tells what T (a reading at a state) comes to, from H on -/
def EvG {α β : Type} (K : PySem.W.Frag) (mg : Str → Option Value) (O : Own) (E : XK) (H : Hp) (r : R α) (rel : α → β → Hp → Prop) (T : (β → Hp → Prop) → Prop) : Prop := match r with
  | .ok x => ∀ Q : β → Hp → Prop, (∀ v H', Same H H' → rel x v H' → Q v H') → T Q
  | .ex e => XOk K mg O E H e → ∀ Q, T Q
  | .no => True
section
variable {α β α' β' : Type} {K : PySem.W.Frag} {mg : Str → Option Value} {O : Own} {E : XK} {H : Hp}
theorem EvG.bind {r : R α} {f : α → R α'} {rel : α → β → Hp → Prop} {rel' : α' → β' → Hp → Prop} {T : (β → Hp → Prop) → Prop} {T1 : β → Hp → (β' → Hp → Prop) → Prop}
    (ha : EvG K mg O E H r rel T) (hk : ∀ x v H1, Same H H1 → rel x v H1 → EvG K mg O E H1 (f x) rel' (T1 v H1)) : EvG K mg O E H (r.bind f) rel' (fun Q => T fun v H1 => T1 v H1 Q) := by
  cases r with
  | no => trivial
  | ex e => exact fun w Q => ha w _
  | ok x =>
    show EvG K mg O E H (f x) rel' _
    have ha : ∀ Q : β → Hp → Prop, (∀ v H', Same H H' → rel x v H' → Q v H') → T Q := ha
    have hk := hk x
    cases hf : f x with
    | no => trivial
    | ex e =>
      exact fun w Q => ha _ fun v H1 s1 r1 => by
        have := hk v H1 s1 r1
        rw [hf] at this
        exact this (w.mono s1) Q
    | ok y =>
      exact fun Q hQ => ha _ fun v H1 s1 r1 => by
        have := hk v H1 s1 r1
        rw [hf] at this
        exact this Q fun v' H2 s2 r2 => hQ v' H2 (s1.trans s2) r2
theorem EvG.ok {x : α} {rel : α → β → Hp → Prop} {T : (β → Hp → Prop) → Prop} (h : ∀ Q : β → Hp → Prop, (∀ v H', Same H H' → rel x v H' → Q v H') → T Q) : EvG K mg O E H (.ok x) rel T := h
theorem EvG.ret {x : α} {v : β} {rel : α → β → Hp → Prop} (h : rel x v H) : EvG K mg O E H (.ok x) rel (fun Q => Q v H) := fun Q hQ => hQ v H (Same.refl H) h
theorem EvG.imp {r : R α} {rel rel' : α → β → Hp → Prop} {T : (β → Hp → Prop) → Prop} (h : EvG K mg O E H r rel T) (i : ∀ x v H', Same H H' → rel x v H' → rel' x v H') : EvG K mg O E H r rel' T := by
  cases r with
  | no => trivial
  | ex e => exact h
  | ok x => exact fun Q hQ => h Q fun v H' s r => hQ v H' s (i x v H' s r)
end

/-! ### reading what came -/
section
variable {K : PySem.W.Frag} {B H0 H : Hp} {O0 O : Own} {v : V} {k : Kd}
theorem Out.int {i : Int} (h : Out K B O0 H0 H O v (.int i, k)) : v = .int i := by
  cases k with
  | fz => cases (show Rep _ _ _ _ from h); rfl
  | ow => obtain ⟨_, _, _, _, z⟩ := h; exact z.elim
  | bo => obtain ⟨_, _, z, _⟩ := h; exact z.elim
  | al => obtain ⟨_, _, z⟩ := h; exact z.elim
theorem Out.bl {i : Bool} (h : Out K B O0 H0 H O v (.bl i, k)) : v = .bl i := by
  cases k with
  | fz => cases (show Rep _ _ _ _ from h); rfl
  | ow => obtain ⟨_, _, _, _, z⟩ := h; exact z.elim
  | bo => obtain ⟨_, _, z, _⟩ := h; exact z.elim
  | al => obtain ⟨_, _, z⟩ := h; exact z.elim
theorem Out.str {i : Str} (h : Out K B O0 H0 H O v (.str i, k)) : v = .str i := by
  cases k with
  | fz => cases (show Rep _ _ _ _ from h); rfl
  | ow => obtain ⟨_, _, _, _, z⟩ := h; exact z.elim
  | bo => obtain ⟨_, _, z, _⟩ := h; exact z.elim
  | al => obtain ⟨_, _, z⟩ := h; exact z.elim
theorem Out.non (h : Out K B O0 H0 H O v (.non, k)) : v = .non := by
  cases k with
  | fz => cases (show Rep _ _ _ _ from h); rfl
  | ow => obtain ⟨_, _, _, _, z⟩ := h; exact z.elim
  | bo => obtain ⟨_, _, z, _⟩ := h; exact z.elim
  | al => obtain ⟨_, _, z⟩ := h; exact z.elim
theorem Out.bor {x : DV} (h : Out K B O0 H0 H O v x) (n : x.2 ≠ .fz) : ∃ a, v = .ref a ∧ BorC K H O a x.1 := by
  obtain ⟨d, k⟩ := x
  cases k with
  | fz => exact absurd rfl n
  | ow =>
    obtain ⟨a, e, _, _, c⟩ := h
    exact ⟨a, e, c.bor.mono (Same.refl _) (off_anti fun b z => .inl z)⟩
  | bo => obtain ⟨a, e, _, c⟩ := h; exact ⟨a, e, c⟩
  | al => obtain ⟨a, e, c⟩ := h; exact ⟨a, e, c⟩
theorem Out.tup {ds : List D} (h : Out K B O0 H0 H O v (.tup ds, k)) : ∃ a vs, v = .ref a ∧ SqT K H a vs ∧ RepL K (off O H) vs ds := by
  by_cases n : k = .fz
  · subst n
    cases (show Rep _ _ _ _ from h) with
    | tup h1 h2 => exact ⟨_, _, rfl, SqT.of (off_sub _ _ h1), h2⟩
  · obtain ⟨a, e, vs, h1, h2⟩ := h.bor n
    exact ⟨a, vs, e, h1, h2⟩
theorem Out.lst {ds : List D} (h : Out K B O0 H0 H O v (.lst ds, k)) : ∃ a vs, v = .ref a ∧ SqL K H a vs ∧ RepL K (off O H) vs ds := by
  by_cases n : k = .fz
  · subst n
    cases (show Rep _ _ _ _ from h) with
    | lst h1 h2 => exact ⟨_, _, rfl, Same.seq off_sub h1, h2⟩
  · obtain ⟨a, e, vs, h1, h2⟩ := h.bor n
    exact ⟨a, vs, e, h1, h2⟩
theorem Out.dk {ds : List (Key × D)} (h : Out K B O0 H0 H O v (.dk ds, k)) : ∃ a vs, v = .ref a ∧ H a = some (.dK vs) ∧ RepK K (off O H) vs ds := by
  by_cases n : k = .fz
  · subst n
    cases (show Rep _ _ _ _ from h) with
    | dk h1 h2 => exact ⟨_, _, rfl, off_sub _ _ h1, h2⟩
  · obtain ⟨a, e, vs, h1, h2⟩ := h.bor n
    exact ⟨a, vs, e, h1, h2⟩
theorem Out.dt {ds : List (List Key × D)} (h : Out K B O0 H0 H O v (.dt ds, k)) : ∃ a vs, v = .ref a ∧ H a = some (.dT vs) ∧ RepT K (off O H) vs ds := by
  by_cases n : k = .fz
  · subst n
    cases (show Rep _ _ _ _ from h) with
    | dt h1 h2 => exact ⟨_, _, rfl, off_sub _ _ h1, h2⟩
  · obtain ⟨a, e, vs, h1, h2⟩ := h.bor n
    exact ⟨a, vs, e, h1, h2⟩
end

/-! ### the judgement of an expression -/
abbrev ORel (K : PySem.W.Frag) (B : Hp) (O0 : Own) (H : Hp) (O : Own) : DV → V → Hp → Prop := fun x v H' => Out K B O0 H H' O v x
structure DE (X : Cx) (E : XK) (e : Expr) (p : Env → R DV) : Prop where
  ex : ∃ t, PE X e t ∧ ∀ (B F : Hp) (O0 : Own) (H : Hp) (O : Own) (σ : L2.St) (ρ : Env), SR X.K B F O0 H O σ ρ → EvG X.K X.mg O E H (p ρ) (ORel X.K B O0 H O) (t σ H)
structure DT (X : Cx) (E : XK) (e : Expr) (p : Env → R Bool) : Prop where
  ex : ∃ t, PT X e t ∧ ∀ (B F : Hp) (O0 : Own) (H : Hp) (O : Own) (σ : L2.St) (ρ : Env), SR X.K B F O0 H O σ ρ → EvG X.K X.mg O E H (p ρ) (fun b c _ => c = b) (t σ H)
inductive OutL (K : PySem.W.Frag) (B : Hp) (O0 : Own) (H0 H : Hp) (O : Own) : List DV → List V → Prop
  | nil : OutL K B O0 H0 H O [] []
  | cons {x : DV} {xs : List DV} {v : V} {vs : List V} : Out K B O0 H0 H O v x → OutL K B O0 H0 H O xs vs → OutL K B O0 H0 H O (x :: xs) (v :: vs)
structure DA (X : Cx) (E : XK) (es : List Expr) (p : Env → R (List DV)) : Prop where
  ex : ∃ t, PA X es t ∧ ∀ (B F : Hp) (O0 : Own) (H : Hp) (O : Own) (σ : L2.St) (ρ : Env), SR X.K B F O0 H O σ ρ → EvG X.K X.mg O E H (p ρ) (fun xs vs H' => OutL X.K B O0 H H' O xs vs) (t σ H)
theorem OutL.mono {K : PySem.W.Frag} {B H0 H0' H H' : Hp} {O0 O : Own} (s0 : Same H0' H0) (s : Same H H') : ∀ {xs : List DV} {vs : List V}, OutL K B O0 H0 H O xs vs → OutL K B O0 H0' H' O xs vs
  | _, _, .nil => .nil
  | _, _, .cons a b => .cons (a.mono s0 s) (OutL.mono s0 s b)

section
variable {X : Cx} {E : XK} {e a b : Expr} {es : List Expr} {p pa pb : Env → R DV} {pt pu : Env → R Bool} {pl : Env → R (List DV)} {pos : Pos}

theorem da_nil : DA X E [] (fun _ => .ok []) := ⟨_, pa_nil, fun B F O0 H O σ ρ R => EvG.ret (show OutL _ _ _ _ _ _ _ _ from .nil)⟩
theorem da_cons (ha : DE X E e p) (hr : DA X E es pl) (hs : starEach (e :: es) X.env = (false, eval e X.env) :: starEach es X.env := by rfl) :
    DA X E (e :: es) (fun ρ => (p ρ).bind fun x => (pl ρ).bind fun xs => .ok (x :: xs)) := by
  obtain ⟨t, h1, h2⟩ := ha.ex
  obtain ⟨u, g1, g2⟩ := hr.ex
  refine ⟨_, pa_cons h1 g1 hs, fun B F O0 H O σ ρ R => ?_⟩
  refine EvG.bind (T1 := fun v H1 Q => u σ H1 fun vs H2 => Q (v :: vs) H2) (h2 B F O0 H O σ ρ R) fun x v H1 s1 r1 => ?_
  refine EvG.bind (T1 := fun vs H2 Q => Q (v :: vs) H2) (g2 B F O0 H1 O σ ρ (R.more s1)) fun xs vs H2 s2 r2 => ?_
  exact EvG.ret (.cons (r1.mono (Same.refl _) s2) (r2.mono s1 (Same.refl _)))

/-! names, constants -/
def dVar (i : Nat) : Env → R DV := fun ρ => match ρ[i]? with
  | some (some (d, .fz)) => .ok (d, .fz)
  | some (some (d, .bo)) => .ok (d, .bo)
  | some (some (d, .ow)) => .ok (d, .al)
  | _ => .no
theorem de_var (i : Nat) {x : Str} (h : PE X (.Name x pos) (tVar i)) : DE X E (.Name x pos) (dVar i) := by
  refine ⟨_, h, fun B F O0 H O σ ρ R => ?_⟩
  unfold dVar
  cases q : ρ[i]? with
  | none => trivial
  | some o =>
    cases o with
    | none => trivial
    | some y =>
      obtain ⟨v, h1, h2⟩ := R.slot i y q
      obtain ⟨d, k⟩ := y
      cases k with
      | fz => exact fun Q hQ => ⟨v, h1, hQ v H (Same.refl _) h2⟩
      | ow =>
        obtain ⟨a, ea, oa, _, c⟩ := h2
        exact fun Q hQ => ⟨v, h1, hQ v H (Same.refl _) ⟨a, ea, c.bor⟩⟩
      | bo =>
        obtain ⟨a, ea, c⟩ := h2
        exact fun Q hQ => ⟨v, h1, hQ v H (Same.refl _) ⟨a, ea, c, c.mono R.base R.fb⟩⟩
      | al => exact h2.elim
theorem de_int {i j pos} : DE X E (.Constant (.int i) j pos) (fun _ => .ok (.int i, .fz)) := ⟨_, pe_int, fun B F O0 H O σ ρ R => EvG.ret (show Rep _ _ _ _ from .int i)⟩
theorem de_bl {i j pos} : DE X E (.Constant (.bool i) j pos) (fun _ => .ok (.bl i, .fz)) := ⟨_, pe_bl, fun B F O0 H O σ ρ R => EvG.ret (show Rep _ _ _ _ from .bl i)⟩
theorem de_non {j pos} : DE X E (.Constant .none j pos) (fun _ => .ok (.non, .fz)) := ⟨_, pe_non, fun B F O0 H O σ ρ R => EvG.ret (show Rep _ _ _ _ from .non)⟩
theorem de_str {i j pos} : DE X E (.Constant (.str i) j pos) (fun _ => .ok (.str i, .fz)) := ⟨_, pe_str, fun B F O0 H O σ ρ R => EvG.ret (show Rep _ _ _ _ from .str i)⟩
/-- a module's constant -/
theorem de_glob {x : Str} {v : V} {u : Value} {d : D} (hg : Gl X x) (hm : X.mg x = some u) (r : RelV v u) (hr : ∀ H, Rep X.K H v d) (hd : (x == ("__debug__" : Str)) = false := by decide) : DE X E (.Name x pos) (fun _ => .ok (d, .fz)) :=
  ⟨_, pe_glob hg hm r hd, fun B F O0 H O σ ρ R => EvG.ret (show Rep _ _ _ _ from hr _)⟩

/-! operators -/
/-- two operands, by values -/
theorem de_two {t : TE} {e : Expr} {r : R2} {f : DV → DV → R DV} (ha : DE X E a pa) (hb : DE X E b pb)
    (mk : ∀ ta tb, PE X a ta → PE X b tb → PE X e (tOp r ta tb))
    (hf : ∀ (B : Hp) (O0 : Own) (H0 H : Hp) (O : Own) (x y : DV) (v w : V), Same H0 H → (∀ a, O a → H a ≠ none) → Out X.K B O0 H0 H O v x → Out X.K B O0 H0 H O w y → EvG X.K X.mg O E H (f x y) (ORel X.K B O0 H O) (fun Q => r v w H Q)) :
    DE X E e (fun ρ => (pa ρ).bind fun x => (pb ρ).bind fun y => f x y) := by
  obtain ⟨t, h1, h2⟩ := ha.ex
  obtain ⟨u, g1, g2⟩ := hb.ex
  refine ⟨_, mk _ _ h1 g1, fun B F O0 H O σ ρ R => ?_⟩
  refine EvG.bind (T1 := fun v H1 Q => u σ H1 fun w H2 => r v w H2 Q) (h2 B F O0 H O σ ρ R) fun x v H1 s1 r1 => ?_
  refine EvG.bind (T1 := fun w H2 Q => r v w H2 Q) (g2 B F O0 H1 O σ ρ (R.more s1)) fun y w H2 s2 r2 => ?_
  refine (hf B O0 H H2 O x y v w (s1.trans s2) (R.more (s1.trans s2)).dom (r1.mono (Same.refl _) s2) (r2.mono s1 (Same.refl _))).imp fun z u H' s' o => o.mono (s1.trans s2) (Same.refl _)
theorem de_bin {op : Operator} {r : R2} {f : DV → DV → R DV} (ho : OpR X (binaryOp op) r)
    (hf : ∀ (B : Hp) (O0 : Own) (H0 H : Hp) (O : Own) (x y : DV) (v w : V), Same H0 H → (∀ a, O a → H a ≠ none) → Out X.K B O0 H0 H O v x → Out X.K B O0 H0 H O w y → EvG X.K X.mg O E H (f x y) (ORel X.K B O0 H O) (fun Q => r v w H Q))
    (ha : DE X E a pa) (hb : DE X E b pb) : DE X E (.BinOp a op b pos) (fun ρ => (pa ρ).bind fun x => (pb ρ).bind fun y => f x y) :=
  de_two (t := tOp r (fun _ _ _ => True) (fun _ _ _ => True)) ha hb (fun _ _ h g => pe_op ho h g) hf
theorem de_cmp {op : CmpOp} {r : R2} {f : DV → DV → R DV} (ho : OpR X (compareOp op) r)
    (hf : ∀ (B : Hp) (O0 : Own) (H0 H : Hp) (O : Own) (x y : DV) (v w : V), Same H0 H → (∀ a, O a → H a ≠ none) → Out X.K B O0 H0 H O v x → Out X.K B O0 H0 H O w y → EvG X.K X.mg O E H (f x y) (ORel X.K B O0 H O) (fun Q => r v w H Q))
    (ha : DE X E a pa) (hb : DE X E b pb) (hm : behindInMarks op b = false) : DE X E (.Compare a [op] [b] pos) (fun ρ => (pa ρ).bind fun x => (pb ρ).bind fun y => f x y) :=
  de_two (t := tOp r (fun _ _ _ => True) (fun _ _ _ => True)) ha hb (fun _ _ h g => pe_cmpR ho h g hm) hf
end
end FK
namespace FK
open PySem PySem.Spec L2
open PyProof.Rows hiding St

/-! ### new objects -/
section
variable {K : PySem.W.Frag} {mg : Str → Option Value} {E : XK} {B H : Hp} {O0 O : Own}
theorem off_new {O : Own} {H : Hp} {p : Addr} {o : HO} (hp : H p = none) : Same (off O H) (off (plus O p) (upd H p o)) := by
  rw [off_upd (show plus O p p from .inr rfl)]
  exact off_plus_new hp
theorem ev_lst {xs : List V} {ds : List D} (dom : ∀ a, O a → H a ≠ none) (h : RepL K (off O H) xs ds) :
    EvG K mg O E H (.ok (.lst ds, .ow)) (ORel K B O0 H O) (fun Q => ∀ p, H p = none → Q (.ref p) (upd H p (.lst xs))) := fun Q hQ p hp =>
  hQ _ _ (same_upd hp) ⟨p, rfl, hp, fun z => dom p z hp, xs, upd_same, h.mono (off_new hp)⟩
theorem rep_tup {xs : List V} {ds : List D} {p : Addr} (dom : ∀ a, O a → H a ≠ none) (hp : H p = none) (h : RepL K (off O H) xs ds) : Rep K (off O (upd H p (.tup xs))) (.ref p) (.tup ds) :=
  .tup (off_of (fun z => dom p z hp) upd_same) (h.mono (off_mono (same_upd hp)))
theorem ev_tup {xs : List V} {ds : List D} (dom : ∀ a, O a → H a ≠ none) (h : RepL K (off O H) xs ds) :
    EvG K mg O E H (.ok (.tup ds, .fz)) (ORel K B O0 H O) (fun Q => ∀ p, H p = none → Q (.ref p) (upd H p (.tup xs))) := fun Q hQ p hp =>
  hQ _ _ (same_upd hp) (rep_tup dom hp h)
theorem ev_dk (dom : ∀ a, O a → H a ≠ none) :
    EvG K mg O E H (.ok (.dk [], .ow)) (ORel K B O0 H O) (fun Q => ∀ p, H p = none → Q (.ref p) (upd H p (.dK []))) := fun Q hQ p hp =>
  hQ _ _ (same_upd hp) ⟨p, rfl, hp, fun z => dom p z hp, [], upd_same, .nil⟩
theorem ev_dt (dom : ∀ a, O a → H a ≠ none) :
    EvG K mg O E H (.ok (.dt [], .ow)) (ORel K B O0 H O) (fun Q => ∀ p, H p = none → Q (.ref p) (upd H p (.dT []))) := fun Q hQ p hp =>
  hQ _ _ (same_upd hp) ⟨p, rfl, hp, fun z => dom p z hp, [], upd_same, .nil⟩
/-- a thing made goes to the frozen part -/
def fzK : Kd → Kd | .ow => .fz | k => k
def fzD (x : DV) : DV := (x.1, fzK x.2)
theorem Out.fzD {H0 : Hp} {v : V} {x : DV} (h : Out K B O0 H0 H O v x) : Out K B O0 H0 H O v (fzD x) := by
  obtain ⟨d, k⟩ := x
  cases k with
  | fz => exact h
  | ow =>
    obtain ⟨a, e, _, n, c⟩ := h
    subst e
    exact c.frozen n
  | bo => exact h
  | al => exact h
end

theorem OpR.or {X : Cx} {f : Value → Value → Sem Value} {r r' : R2} (h : OpR X f r) (h' : OpR X f r') : OpR X f (fun x y H Q => r x y H Q ∨ r' x y H Q) := by
  intro pins s σ H x y v u Q I rx ry q
  rcases q with q | q
  · exact h pins s σ H x y v u Q I rx ry q
  · exact h' pins s σ H x y v u Q I rx ry q

/-! ### + -/
def rCatG (K : PySem.W.Frag) : R2 := fun x y H Q => ∃ l b xs zs, x = .ref l ∧ y = .ref b ∧ SqL K H l xs ∧ SqL K H b zs ∧ xs.length + zs.length ≤ sizeLine ∧ ∀ p, H p = none → Q (.ref p) (upd H p (.lst (xs ++ zs)))
theorem op_catG {X : Cx} : OpR X (binaryOp .Add) (rCatG X.K) := by
  intro pins s σ H x y v u Q I rx ry h
  obtain ⟨l, b, xs, zs, rfl, rfl, hH, hB, hz, q⟩ := h
  cases rx
  cases ry
  obtain ⟨its, r, hl, e⟩ := I.list hH
  obtain ⟨its2, r2, hl2, e2⟩ := I.list hB
  obtain ⟨⟨cls, dd, data, sl⟩, n, ho, hc, hdd, hd⟩ := hl
  obtain ⟨⟨cls2, dd2, data2, sl2⟩, n2, ho2, hc2, hdd2, hd2⟩ := hl2
  simp only at hc hd hc2 hd2 hdd hdd2
  subst hc hd hc2 hd2 hdd hdd2
  have e : its.toArray ++ its2.toArray = (its ++ its2).toArray := by simp
  have z1 := r.length
  have z2 := r2.length
  refine concat_meets ⟨_, ho, rfl⟩ ⟨_, ho2, rfl⟩ noFill_list_add seq_list_add PySem.F.slot_list_add PySem.F.entry_list_add (PySem.F.args_list_add_2 _ _) (list_addW l b its.toArray its2.toArray n n2 none none sl sl2 (by rw [List.size_toArray, List.size_toArray]; omega)) ⟨ho, ho2, ?_⟩
  rw [e]
  exact ⟨.ref _, _, I.lnew (t' := s.toks) (r.append r2) (by rw [List.length_append]; omega), rfl, q _ I.fresh⟩
def rAdd (K : PySem.W.Frag) : R2 := fun x y H Q => rI0 (fun i j => V.int (i + j)) x y H Q ∨ (∃ i j, x = .str i ∧ y = .str j ∧ i.length + j.length ≤ sizeLine ∧ Q (.str (i ++ j)) H) ∨ rCatG K x y H Q ∨ rCatA K x y H Q
theorem op_addG {X : Cx} : OpR X (binaryOp .Add) (rAdd X.K) := OpR.or op_add (OpR.or op_add_str (OpR.or op_catG op_catA))
def opAdd (x y : DV) : R DV := match x.1, y.1 with
  | .int i, .int j => .ok (.int (i + j), .fz)
  | .str i, .str j => if i.length + j.length ≤ sizeLine then .ok (.str (i ++ j), .fz) else .no
  | .lst i, .lst j => if i.length + j.length ≤ sizeLine then .ok (.lst (i ++ j), .ow) else .no
  | .tup i, .tup j => if x.2 = .fz ∧ y.2 = .fz ∧ i.length + j.length ≤ sizeLine then .ok (.tup (i ++ j), .fz) else .no
  | _, _ => .no
section
variable {X : Cx} {E : XK} {B H0 H : Hp} {O0 O : Own} {x y : DV} {v w : V}
theorem ev_add (s : Same H0 H) (dom : ∀ a, O a → H a ≠ none) (hx : Out X.K B O0 H0 H O v x) (hy : Out X.K B O0 H0 H O w y) : EvG X.K X.mg O E H (opAdd x y) (ORel X.K B O0 H O) (fun Q => rAdd X.K v w H Q) := by
  obtain ⟨d, k⟩ := x
  obtain ⟨d2, k2⟩ := y
  cases d <;> cases d2 <;> first | exact True.intro | skip
  · cases hx.int
    cases hy.int
    exact fun Q hQ => .inl ⟨_, _, rfl, rfl, hQ _ _ (Same.refl _) (show Rep _ _ _ _ from .int _)⟩
  · cases hx.str
    cases hy.str
    unfold opAdd
    dsimp only
    split
    · rename_i z
      exact fun Q hQ => .inr (.inl ⟨_, _, rfl, rfl, z, hQ _ _ (Same.refl _) (show Rep _ _ _ _ from .str _)⟩)
    · trivial
  · obtain ⟨a, vs, rfl, h1, h2⟩ := hx.lst
    obtain ⟨b, ws, rfl, g1, g2⟩ := hy.lst
    unfold opAdd
    dsimp only
    split
    · rename_i z
      rw [← h2.length, ← g2.length] at z
      exact fun Q hQ => .inr (.inr (.inl ⟨a, b, vs, ws, rfl, rfl, h1, g1, z, ev_lst (mg := X.mg) (E := E) dom (h2.append g2) Q hQ⟩))
    · trivial
  · obtain ⟨a, vs, rfl, h1, h2⟩ := hx.tup
    obtain ⟨b, ws, rfl, g1, g2⟩ := hy.tup
    unfold opAdd
    dsimp only
    split
    · rename_i z
      rw [← h2.length, ← g2.length] at z
      obtain ⟨f1, f2, z⟩ := z
      cases f1
      cases f2
      refine fun Q hQ => .inr (.inr (.inr ⟨a, b, vs, ws, rfl, rfl, h1, g1, z, fun e => ?_, fun e e2 => ?_, fun e e2 => ?_⟩))
      · subst e
        cases h2
        exact hQ _ _ (Same.refl _) hy
      · subst e2
        cases g2
        rw [List.append_nil] at hQ
        exact hQ _ _ (Same.refl _) hx
      · exact ev_tup (mg := X.mg) (E := E) dom (h2.append g2) Q hQ
    · trivial
end
section
variable {X : Cx} {E : XK} {a b : Expr} {pa pb : Env → R DV} {pos : Pos}
abbrev dBin (f : DV → DV → R DV) (pa pb : Env → R DV) : Env → R DV := fun ρ => (pa ρ).bind fun x => (pb ρ).bind fun y => f x y
theorem de_add (ha : DE X E a pa) (hb : DE X E b pb) : DE X E (.BinOp a .Add b pos) (dBin opAdd pa pb) := de_bin op_addG (fun _ _ _ _ _ _ _ _ _ s d hx hy => ev_add s d hx hy) ha hb
end

/-! ### - * // % ** -/
def opInt (f : Int → Int → R Int) (x y : DV) : R DV := match x.1, y.1 with
  | .int i, .int j => (f i j).bind fun n => .ok (.int n, .fz)
  | _, _ => .no
theorem ev_int {X : Cx} {E : XK} {B H0 H : Hp} {O0 O : Own} {x y : DV} {v w : V} {f : Int → Int → R Int} {r : R2} (hr : ∀ i j n (Q : VK), f i j = .ok n → Q (.int n) H → r (.int i) (.int j) H Q) (hx' : ∀ i j e, f i j ≠ .ex e)
    (hx : Out X.K B O0 H0 H O v x) (hy : Out X.K B O0 H0 H O w y) : EvG X.K X.mg O E H (opInt f x y) (ORel X.K B O0 H O) (fun Q => r v w H Q) := by
  obtain ⟨d, k⟩ := x
  obtain ⟨d2, k2⟩ := y
  cases d <;> cases d2 <;> first | exact True.intro | skip
  cases hx.int
  cases hy.int
  rename_i i j
  show EvG _ _ _ _ _ ((f i j).bind fun n => (.ok (.int n, .fz) : R DV)) _ _
  cases q : f i j with
  | no => trivial
  | ex e => exact absurd q (hx' _ _ _)
  | ok n => exact fun Q hQ => hr i j n Q q (hQ _ _ (Same.refl _) (show Rep _ _ _ _ from .int _))
def fSub (i j : Int) : R Int := .ok (i - j)
def fMul (i j : Int) : R Int := if i.natAbs < 2 ^ 64 ∨ j.natAbs < 2 ^ 64 then .ok (i * j) else .no
def fDiv (i j : Int) : R Int := if 0 < j ∧ j < 1073741824 then .ok (i / j) else .no
def fMod (i j : Int) : R Int := if 0 < j then .ok (i % j) else .no
def fPow (i j : Int) : R Int := if 0 ≤ j ∧ j ≤ 1000000 ∧ i.natAbs < 2 ^ 64 then .ok (i ^ j.toNat) else .no
/-- [..] * n, a list just made -/
def opMul (x y : DV) : R DV := match x, y.1 with
  | (.lst xs, .ow), .int k => if -(2 ^ 63) ≤ k ∧ k < 2 ^ 63 ∧ xs.length * k.toNat ≤ sizeLine then .ok (.lst (List.replicate k.toNat xs).flatten, .ow) else .no
  | (.tup xs, _), .int k => if xs ≠ [] ∧ 2 ≤ k ∧ k ≤ 1000 ∧ xs.length ≤ 1000 then .ok (.tup (List.replicate k.toNat xs).flatten, .fz) else .no
  | (.int i, _), .int j => (fMul i j).bind fun n => .ok (.int n, .fz)
  | _, _ => .no
theorem RepL.rep {K : PySem.W.Frag} {H : Hp} {vs : List V} {ds : List D} (h : RepL K H vs ds) : ∀ n : Nat, RepL K H (List.replicate n vs).flatten (List.replicate n ds).flatten
  | 0 => .nil
  | n + 1 => by
    rw [List.replicate_succ, List.replicate_succ, List.flatten_cons, List.flatten_cons]
    exact h.append (RepL.rep h n)
def rMul (K : PySem.W.Frag) : R2 := fun x y H Q => rI CMul (fun i j => V.int (i * j)) x y H Q ∨ rRep x y H Q ∨ rRepT K x y H Q
theorem op_mulG {X : Cx} : OpR X (binaryOp .Mult) (rMul X.K) := OpR.or op_mul (OpR.or op_rep op_repT)
theorem ev_mul {X : Cx} {E : XK} {B H0 H : Hp} {O0 O : Own} {x y : DV} {v w : V} (s : Same H0 H) (dom : ∀ a, O a → H a ≠ none) (hx : Out X.K B O0 H0 H O v x) (hy : Out X.K B O0 H0 H O w y) :
    EvG X.K X.mg O E H (opMul x y) (ORel X.K B O0 H O) (fun Q => rMul X.K v w H Q) := by
  obtain ⟨d, k⟩ := x
  obtain ⟨d2, k2⟩ := y
  cases d with
  | int i =>
    cases d2 <;> first | exact True.intro | skip
    cases hx.int
    cases hy.int
    rename_i j
    show EvG _ _ _ _ _ ((fMul i j).bind fun n => (.ok (.int n, .fz) : R DV)) _ _
    unfold fMul
    split
    · rename_i c
      refine fun Q hQ => .inl ⟨_, _, rfl, rfl, ?_, hQ _ _ (Same.refl _) (show Rep _ _ _ _ from .int _)⟩
      rcases c with c | c
      · exact .inl (by omega)
      · exact .inr (by omega)
    · trivial
  | lst xs =>
    cases k <;> first | exact True.intro | skip
    cases d2 <;> first | exact True.intro | skip
    cases hy.int
    rename_i j
    obtain ⟨a, rfl, ha, na, vs, h1, h2⟩ := hx
    unfold opMul
    dsimp only
    split
    · rename_i c
      obtain ⟨c1, c2, c3⟩ := c
      rw [← h2.length] at c3
      refine fun Q hQ => .inr (.inl ⟨a, j, vs, rfl, rfl, h1, c1, c2, c3, ?_⟩)
      exact ev_lst (mg := X.mg) (E := E) dom ((h2.mono (off_anti fun b z => .inl z)).rep j.toNat) Q hQ
    · trivial
  | tup xs =>
    cases d2 <;> first | exact True.intro | skip
    cases hy.int
    rename_i j
    obtain ⟨a, vs, rfl, h1, h2⟩ := hx.tup
    show EvG _ _ _ _ _ (if xs ≠ [] ∧ 2 ≤ j ∧ j ≤ 1000 ∧ xs.length ≤ 1000 then (.ok (.tup (List.replicate j.toNat xs).flatten, .fz) : R DV) else .no) _ _
    split
    · rename_i c
      obtain ⟨c0, c1, c2, c3⟩ := c
      rw [← h2.length] at c3
      refine fun Q hQ => .inr (.inr ⟨a, j, vs, rfl, rfl, h1, ?_, c1, c2, c3, ?_⟩)
      · intro e
        subst e
        cases h2
        exact c0 rfl
      · exact ev_tup (mg := X.mg) (E := E) dom (h2.rep j.toNat) Q hQ
    · trivial
  | _ => exact True.intro
section
variable {X : Cx} {E : XK} {a b : Expr} {pa pb : Env → R DV} {pos : Pos}
theorem de_sub (ha : DE X E a pa) (hb : DE X E b pb) : DE X E (.BinOp a .Sub b pos) (dBin (opInt fSub) pa pb) := de_bin op_sub (fun _ _ _ _ _ _ _ _ _ _ _ hx hy => ev_int (fun i j n Q e q => by
    unfold fSub at e
    cases e
    exact ⟨_, _, rfl, rfl, q⟩) (fun _ _ _ z => by unfold fSub at z; cases z) hx hy) ha hb
theorem de_mul (ha : DE X E a pa) (hb : DE X E b pb) : DE X E (.BinOp a .Mult b pos) (dBin opMul pa pb) := de_bin op_mulG (fun _ _ _ _ _ _ _ _ _ s d hx hy => ev_mul s d hx hy) ha hb
theorem de_div (ha : DE X E a pa) (hb : DE X E b pb) : DE X E (.BinOp a .FloorDiv b pos) (dBin (opInt fDiv) pa pb) := de_bin op_fdiv (fun _ _ _ _ _ _ _ _ _ _ _ hx hy => ev_int (fun i j n Q e q => by
    unfold fDiv at e
    split at e <;> cases e
    rename_i c
    exact ⟨_, _, rfl, rfl, c, q⟩) (fun _ _ _ z => by unfold fDiv at z; split at z <;> cases z) hx hy) ha hb
theorem de_mod (ha : DE X E a pa) (hb : DE X E b pb) : DE X E (.BinOp a .Mod b pos) (dBin (opInt fMod) pa pb) := de_bin op_mod (fun _ _ _ _ _ _ _ _ _ _ _ hx hy => ev_int (fun i j n Q e q => by
    unfold fMod at e
    split at e <;> cases e
    rename_i c
    exact ⟨_, _, rfl, rfl, c, q⟩) (fun _ _ _ z => by unfold fMod at z; split at z <;> cases z) hx hy) ha hb
theorem de_pow (ha : DE X E a pa) (hb : DE X E b pb) : DE X E (.BinOp a .Pow b pos) (dBin (opInt fPow) pa pb) := de_bin op_pow (fun _ _ _ _ _ _ _ _ _ _ _ hx hy => ev_int (fun i j n Q e q => by
    unfold fPow at e
    split at e <;> cases e
    rename_i c
    exact ⟨_, _, rfl, rfl, c, q⟩) (fun _ _ _ z => by unfold fPow at z; split at z <;> cases z) hx hy) ha hb
end
end FK
namespace FK
open PySem PySem.Spec L2
open PyProof.Rows hiding St

/-! ### as the library's data -/
mutual
def D.py : D → PyData
  | .non => .none
  | .bl b => .bool b
  | .int i => .int i
  | .str s => .str s
  | .lst xs => .list (D.pyL xs)
  | .tup xs => .tuple (D.pyL xs)
  | .dk _ => .dict []
  | .dt _ => .dict []
def D.pyL : List D → List PyData
  | [] => []
  | d :: r => D.py d :: D.pyL r
end
theorem D.pyL_map : ∀ xs : List D, D.pyL xs = xs.map D.py
  | [] => rfl
  | d :: r => by
    show _ :: D.pyL r = _
    rw [D.pyL_map r]
    rfl
section
variable {K : PySem.W.Frag} {H : Hp}
mutual
theorem Rep.dp : ∀ {v : V} {d : D}, Rep K H v d → d.py.plain = true → Dp K H v d.py
  | _, _, .non, _ => .non
  | _, _, .bl b, _ => .bl b
  | _, _, .int b, _ => .int b
  | _, _, .str b, _ => .str b
  | _, _, .lst (ds := ds) a b, h => .lst a (RepL.dp b (by simpa only [D.py, PyData.plain] using h))
  | _, _, .tup (ds := ds) a b, h => .tup (SqT.of a) (RepL.dp b (by simpa only [D.py, PyData.plain] using h))
  | _, _, .dk _ _, h => by simp [D.py, PyData.plain] at h
  | _, _, .dt _ _, h => by simp [D.py, PyData.plain] at h
theorem RepL.dp : ∀ {v : List V} {d : List D}, RepL K H v d → PyData.plainAll (D.pyL d) = true → DpAll K H v (D.pyL d)
  | _, _, .nil, _ => .nil
  | _, _, .cons a b, h => by
    simp only [D.pyL, PyData.plainAll, Bool.and_eq_true] at h
    exact .cons (Rep.dp a h.1) (RepL.dp b h.2)
end
theorem Out.dp {B H0 : Hp} {O0 O : Own} {v : V} {x : DV} (h : Out K B O0 H0 H O v x) (p : x.1.py.plain = true) : Dp K H v x.1.py := by
  by_cases n : x.2 = .fz
  · obtain ⟨d, k⟩ := x
    cases (show k = .fz from n)
    exact Rep.dp (Rep.mono off_sub h) p
  · obtain ⟨a, rfl, c⟩ := h.bor n
    obtain ⟨d, k⟩ := x
    cases d <;> first | exact c.elim | skip
    · obtain ⟨vs, h1, h2⟩ := c
      exact .lst h1 (RepL.dp (h2.mono off_sub) (by simpa only [D.py, PyData.plain] using p))
    · obtain ⟨vs, h1, h2⟩ := c
      exact .tup h1 (RepL.dp (h2.mono off_sub) (by simpa only [D.py, PyData.plain] using p))
    · simp [D.py, PyData.plain] at p
    · simp [D.py, PyData.plain] at p
end

/-! ### == != -/
def rEqP (K : PySem.W.Frag) (g : Bool → Bool) : R2 := fun x y H Q => ∃ d e, Dp K H x d ∧ Dp K H y e ∧ d.plain = true ∧ e.plain = true ∧ min d.depth e.depth ≤ 100 ∧ Q (.bl (g (PyData.eqv d e))) H
theorem op_eqP {X : Cx} {k : Nat} (hr : Room k X.A) : OpR X (compareOp .Eq) (rEqP X.K id) := by
  intro pins s σ H x y v u Q I rx ry h
  obtain ⟨d, e, hd, he, sd, se, hz, q⟩ := h
  obtain ⟨as, r1⟩ := Dp.reads I d x v hd rx
  obtain ⟨bs, r2⟩ := Dp.reads I e y u he ry
  exact PySem.SeqAt.eq_plain r1 r2 sd se (by have := hr.un; omega) ⟨.bl _, H, I, rfl, q⟩
theorem op_neP {X : Cx} {k : Nat} (hr : Room k X.A) : OpR X (compareOp .NotEq) (rEqP X.K (!·)) := by
  intro pins s σ H x y v u Q I rx ry h
  obtain ⟨d, e, hd, he, sd, se, hz, q⟩ := h
  obtain ⟨as, r1⟩ := Dp.reads I d x v hd rx
  obtain ⟨bs, r2⟩ := Dp.reads I e y u he ry
  exact PySem.SeqAt.ne_plain r1 r2 sd se (by have := hr.un; omega) ⟨.bl _, H, I, rfl, q⟩
def eqD (x y : D) : R Bool := if x.py.plain = true ∧ y.py.plain = true ∧ min x.py.depth y.py.depth ≤ 100 then .ok (PyData.eqv x.py y.py) else .no
def cEq (g : Bool → Bool) (x y : DV) : R DV := (eqD x.1 y.1).bind fun b => .ok (.bl (g b), .fz)
section
variable {X : Cx} {E : XK} {B H0 H : Hp} {O0 O : Own} {x y : DV} {v w : V} {a b : Expr} {pa pb : Env → R DV} {pos : Pos} {k : Nat}
theorem ev_eq (g : Bool → Bool) (hx : Out X.K B O0 H0 H O v x) (hy : Out X.K B O0 H0 H O w y) : EvG X.K X.mg O E H (cEq g x y) (ORel X.K B O0 H O) (fun Q => rEqP X.K g v w H Q) := by
  unfold cEq eqD
  split
  · rename_i c
    exact fun Q hQ => ⟨_, _, hx.dp c.1, hy.dp c.2.1, c.1, c.2.1, c.2.2, hQ _ _ (Same.refl _) (show Rep _ _ _ _ from .bl _)⟩
  · trivial
theorem de_eq (hr : Room k X.A) (ha : DE X E a pa) (hb : DE X E b pb) (hm : behindInMarks .Eq b = false := by exact nomark _) : DE X E (.Compare a [.Eq] [b] pos) (dBin (cEq id) pa pb) :=
  de_cmp (op_eqP hr) (fun _ _ _ _ _ _ _ _ _ _ _ hx hy => ev_eq id hx hy) ha hb hm
theorem de_ne (hr : Room k X.A) (ha : DE X E a pa) (hb : DE X E b pb) (hm : behindInMarks .NotEq b = false := by exact nomark _) : DE X E (.Compare a [.NotEq] [b] pos) (dBin (cEq (!·)) pa pb) :=
  de_cmp (op_neP hr) (fun _ _ _ _ _ _ _ _ _ _ _ hx hy => ev_eq (!·) hx hy) ha hb hm

/-! ### < <= > >= -/
def rLtP (K : PySem.W.Frag) (f : PyData → PyData → Bool) : R2 := fun x y H Q => ∃ d e, Dp K H x d ∧ Dp K H y e ∧ PySem.W.alike d e = true ∧ d ≠ .none ∧ min d.depth e.depth ≤ 100 ∧ Q (.bl (f d e)) H
theorem op_ltP (hr : Room k X.A) : OpR X (compareOp .Lt) (rLtP X.K PySem.W.dataLt) := by
  intro pins s σ H x y v u Q I rx ry h
  obtain ⟨d, e, hd, he, sd, se, hz, q⟩ := h
  obtain ⟨as, r1⟩ := Dp.reads I d x v hd rx
  obtain ⟨bs, r2⟩ := Dp.reads I e y u he ry
  exact PySem.W.lt_data r1 r2 sd se (by have := hr.un; omega) ⟨.bl _, H, I, rfl, q⟩
theorem op_gtP (hr : Room k X.A) : OpR X (compareOp .Gt) (rLtP X.K fun d e => PySem.W.dataLt e d) := by
  intro pins s σ H x y v u Q I rx ry h
  obtain ⟨d, e, hd, he, sd, se, hz, q⟩ := h
  obtain ⟨as, r1⟩ := Dp.reads I d x v hd rx
  obtain ⟨bs, r2⟩ := Dp.reads I e y u he ry
  exact PySem.W.gt_data r1 r2 sd se (by have := hr.un; omega) ⟨.bl _, H, I, rfl, q⟩
theorem op_leP (hr : Room k X.A) : OpR X (compareOp .LtE) (rLtP X.K fun d e => !PySem.W.dataLt e d) := by
  intro pins s σ H x y v u Q I rx ry h
  obtain ⟨d, e, hd, he, sd, se, hz, q⟩ := h
  obtain ⟨as, r1⟩ := Dp.reads I d x v hd rx
  obtain ⟨bs, r2⟩ := Dp.reads I e y u he ry
  exact PySem.W.le_data r1 r2 sd se (by have := hr.un; omega) ⟨.bl _, H, I, rfl, q⟩
theorem op_geP (hr : Room k X.A) : OpR X (compareOp .GtE) (rLtP X.K fun d e => !PySem.W.dataLt d e) := by
  intro pins s σ H x y v u Q I rx ry h
  obtain ⟨d, e, hd, he, sd, se, hz, q⟩ := h
  obtain ⟨as, r1⟩ := Dp.reads I d x v hd rx
  obtain ⟨bs, r2⟩ := Dp.reads I e y u he ry
  exact PySem.W.ge_data r1 r2 sd se (by have := hr.un; omega) ⟨.bl _, H, I, rfl, q⟩
def D.isNon : D → Bool | .non => true | _ => false
/-- x < y of ints, texts, tuples, lists -/
def ltD (x y : D) : R Bool := match x, y with
  | .int i, .int j => .ok (decide (i < j))
  | x, y => if x.py.plain = true ∧ y.py.plain = true ∧ PySem.W.alike x.py y.py = true ∧ PySem.W.alike y.py x.py = true ∧ x.isNon = false ∧ min x.py.depth y.py.depth ≤ 100 then .ok (PySem.W.dataLt x.py y.py) else .no
theorem dataLt_int (i j : Int) : PySem.W.dataLt (.int i) (.int j) = decide (i < j) := by
  unfold PySem.W.dataLt
  simp only [PySem.W.keyToks]
  simp [PyProof.Rows.lexLt, itemOrd, itemLt]
end
end FK
namespace FK
open PySem PySem.Spec L2
open PyProof.Rows hiding St

def cOrd (f : D → D → R Bool) (x y : DV) : R DV := (f x.1 y.1).bind fun b => .ok (.bl b, .fz)
def oLt (x y : D) : R Bool := ltD x y
def oGt (x y : D) : R Bool := ltD y x
def oLe (x y : D) : R Bool := (ltD y x).bind fun b => .ok !b
def oGe (x y : D) : R Bool := (ltD x y).bind fun b => .ok !b
theorem ltD_ok {x y : D} {b : Bool} (h : ltD x y = .ok b) : x.py.plain = true ∧ y.py.plain = true ∧ PySem.W.alike x.py y.py = true ∧ PySem.W.alike y.py x.py = true ∧ x.py ≠ .none ∧ y.py ≠ .none ∧ min x.py.depth y.py.depth ≤ 100 ∧ b = PySem.W.dataLt x.py y.py := by
  unfold ltD at h
  split at h
  · rename_i i j
    cases h
    refine ⟨rfl, rfl, ?_, ?_, (fun z => nomatch z), (fun z => nomatch z), ?_, (dataLt_int i j).symm⟩
    · simp [D.py, PySem.W.alike]
    · simp [D.py, PySem.W.alike]
    · simp [D.py, PyData.depth]
  · split at h
    · rename_i c
      cases h
      obtain ⟨c1, c2, c3, c4, c5, c6⟩ := c
      refine ⟨c1, c2, c3, c4, ?_, ?_, c6, rfl⟩
      · cases x <;> first | (intro z; cases z; done) | skip
        cases c5
      · intro z
        cases y <;> first | (cases z; done) | skip
        cases x <;> first | (cases c5; done) | (simp [D.py, PySem.W.alike] at c3; done)
    · cases h
section
variable {X : Cx} {E : XK} {B H0 H : Hp} {O0 O : Own} {x y : DV} {v w : V} {a b c : Expr} {pa pb pc : Env → R DV} {pos : Pos} {k : Nat}
theorem ev_ord {f : D → D → R Bool} {g : PyData → PyData → Bool} (hf : ∀ x y b, f x y = .ok b → x.py.plain = true ∧ y.py.plain = true ∧ PySem.W.alike x.py y.py = true ∧ x.py ≠ .none ∧ min x.py.depth y.py.depth ≤ 100 ∧ b = g x.py y.py) (hn : ∀ x y e, f x y ≠ .ex e)
    (hx : Out X.K B O0 H0 H O v x) (hy : Out X.K B O0 H0 H O w y) : EvG X.K X.mg O E H (cOrd f x y) (ORel X.K B O0 H O) (fun Q => rLtP X.K g v w H Q) := by
  unfold cOrd
  cases q : f x.1 y.1 with
  | no => trivial
  | ex e => exact absurd q (hn _ _ _)
  | ok b =>
    obtain ⟨c1, c2, c3, c4, c5, rfl⟩ := hf _ _ _ q
    exact fun Q hQ => ⟨_, _, hx.dp c1, hy.dp c2, c3, c4, c5, hQ _ _ (Same.refl _) (show Rep _ _ _ _ from .bl _)⟩
theorem ltD_nx {x y : D} {e : Exn} : ltD x y ≠ .ex e := by
  unfold ltD
  split
  · exact fun z => nomatch z
  · split <;> exact fun z => nomatch z
abbrev HF (X : Cx) (E : XK) (f : DV → DV → R DV) (r : R2) : Prop := ∀ (B : Hp) (O0 : Own) (H0 H : Hp) (O : Own) (x y : DV) (v w : V), Same H0 H → (∀ a, O a → H a ≠ none) → Out X.K B O0 H0 H O v x → Out X.K B O0 H0 H O w y → EvG X.K X.mg O E H (f x y) (ORel X.K B O0 H O) (fun Q => r v w H Q)
theorem hf_lt : HF X E (cOrd oLt) (rLtP X.K PySem.W.dataLt) := fun _ _ _ _ _ _ _ _ _ _ _ hx hy => ev_ord (fun x y b h => by
  obtain ⟨c1, c2, c3, c4, c5, c6, c7, c8⟩ := ltD_ok h
  exact ⟨c1, c2, c3, c5, c7, c8⟩) (fun _ _ _ => ltD_nx) hx hy
theorem hf_gt : HF X E (cOrd oGt) (rLtP X.K fun d e => PySem.W.dataLt e d) := fun _ _ _ _ _ _ _ _ _ _ _ hx hy => ev_ord (fun x y b h => by
  obtain ⟨c1, c2, c3, c4, c5, c6, c7, c8⟩ := ltD_ok h
  exact ⟨c2, c1, c4, c6, by omega, c8⟩) (fun _ _ _ => ltD_nx) hx hy
theorem hf_le : HF X E (cOrd oLe) (rLtP X.K fun d e => !PySem.W.dataLt e d) := fun _ _ _ _ _ _ _ _ _ _ _ hx hy => ev_ord (fun x y b h => by
  unfold oLe at h
  cases q : ltD y x with
  | no => rw [q] at h; cases h
  | ex e => rw [q] at h; cases h
  | ok b' =>
    rw [q] at h
    cases h
    obtain ⟨c1, c2, c3, c4, c5, c6, c7, c8⟩ := ltD_ok q
    exact ⟨c2, c1, c4, c6, by omega, by rw [c8]⟩) (fun x y e z => by
  unfold oLe at z
  cases q : ltD y x with
  | no => rw [q] at z; cases z
  | ex e => exact ltD_nx q
  | ok b' => rw [q] at z; cases z) hx hy
theorem hf_ge : HF X E (cOrd oGe) (rLtP X.K fun d e => !PySem.W.dataLt d e) := fun _ _ _ _ _ _ _ _ _ _ _ hx hy => ev_ord (fun x y b h => by
  unfold oGe at h
  cases q : ltD x y with
  | no => rw [q] at h; cases h
  | ex e => rw [q] at h; cases h
  | ok b' =>
    rw [q] at h
    cases h
    obtain ⟨c1, c2, c3, c4, c5, c6, c7, c8⟩ := ltD_ok q
    exact ⟨c1, c2, c3, c5, c7, by rw [c8]⟩) (fun x y e z => by
  unfold oGe at z
  cases q : ltD x y with
  | no => rw [q] at z; cases z
  | ex e => exact ltD_nx q
  | ok b' => rw [q] at z; cases z) hx hy
theorem hf_eq (g : Bool → Bool) : HF X E (cEq g) (rEqP X.K g) := fun _ _ _ _ _ _ _ _ _ _ _ hx hy => ev_eq g hx hy

/-! ### in -/
def keyD : D → Option Key
  | .int i => some (.inl i)
  | .str s => some (.inr s)
  | _ => none
def keysD : D → Option (List Key)
  | .tup xs => xs.mapM keyD
  | _ => none
def lookK {κ : Type} [DecidableEq κ] (kvs : List (κ × D)) (k : κ) : Option D := (kvs.find? fun kv => decide (kv.1 = k)).map (·.2)
def isSign (s : Str) : Option Nat := match s with | ⟨⟨[c]⟩⟩ => some c | _ => none
def inD (x y : DV) : R Bool := match y.1 with
  | .lst ys => if x.1.py.plain = true ∧ PyData.plainAll (D.pyL ys) = true ∧ x.1.py.depth ≤ 100 then .ok (ys.any fun y => PyData.eqv y.py x.1.py) else .no
  | .tup ys => if x.1.py.plain = true ∧ PyData.plainAll (D.pyL ys) = true ∧ x.1.py.depth ≤ 100 then .ok (ys.any fun y => PyData.eqv y.py x.1.py) else .no
  | .str z => (match x.1 with
    | .str s => (match isSign s with
      | some c => .ok (decide (c ∈ z.cps.toList))
      | none => .ok (!(Builtin.Str.occurrences z s 0 z.length 1).isEmpty))
    | _ => .no)
  | .dk kvs => (match keyD x.1 with | some k => .ok (lookK kvs k).isSome | none => .no)
  | .dt kvs => (match x.2, keysD x.1 with | .fz, some k => .ok (lookK kvs k).isSome | _, _ => .no)
  | _ => .no
def cIn (g : Bool → Bool) (x y : DV) : R DV := (inD x y).bind fun b => .ok (.bl (g b), .fz)
def rInS (K : PySem.W.Frag) (g : Bool → Bool) : R2 := fun x y H Q => ∃ d ds, Dp K H x d ∧ (Dp K H y (.list ds) ∨ Dp K H y (.tuple ds)) ∧ d.plain = true ∧ PyData.plainAll ds = true ∧ d.depth ≤ 100 ∧ Q (.bl (g (ds.any fun y => PyData.eqv y d))) H
def rInD (g : Bool → Bool) : R2 := fun x y H Q => ∃ a o, y = .ref a ∧ DGet H a x o ∧ Q (.bl (g o.isSome)) H
def rInT (g : Bool → Bool) : R2 := fun x y H Q => ∃ i j, x = .str i ∧ y = .str j ∧ Q (.bl (g (!(Builtin.Str.occurrences j i 0 j.length 1).isEmpty))) H
def rInC (g : Bool → Bool) : R2 := fun x y H Q => ∃ (c : Nat) (z : Str), x = .str ⟨#[c]⟩ ∧ y = .str z ∧ Q (.bl (g (decide (c ∈ z.cps.toList)))) H
def rInA (K : PySem.W.Frag) (g : Bool → Bool) : R2 := fun x y H Q => rInS K g x y H Q ∨ rInD g x y H Q ∨ rInT g x y H Q ∨ rInC g x y H Q
theorem op_inS (hr : Room k X.A) : OpR X (compareOp .In) (rInS X.K id) := by
  intro pins s σ H x y v u Q I rx ry h
  obtain ⟨d, ds, hd, he, sd, se, hz, q⟩ := h
  obtain ⟨as, r1⟩ := Dp.reads I d x v hd rx
  have hu := hr.un
  rcases he with he | he
  · obtain ⟨bs, r2⟩ := Dp.reads I _ y u he ry
    exact PySem.SeqAt.in_list_data r2 r1 se sd (by omega) ⟨.bl _, H, I, rfl, q⟩
  · obtain ⟨bs, r2⟩ := Dp.reads I _ y u he ry
    exact PySem.SeqAt.in_tuple_data r2 r1 se sd (by omega) ⟨.bl _, H, I, rfl, q⟩
theorem op_notInS (hr : Room k X.A) : OpR X (compareOp .NotIn) (rInS X.K (!·)) := by
  intro pins s σ H x y v u Q I rx ry h
  obtain ⟨d, ds, hd, he, sd, se, hz, q⟩ := h
  obtain ⟨as, r1⟩ := Dp.reads I d x v hd rx
  have hu := hr.un
  rcases he with he | he
  · obtain ⟨bs, r2⟩ := Dp.reads I _ y u he ry
    exact PySem.SeqAt.notIn_list_data r2 r1 se sd (by omega) ⟨.bl _, H, I, rfl, q⟩
  · obtain ⟨bs, r2⟩ := Dp.reads I _ y u he ry
    exact PySem.SeqAt.notIn_tuple_data r2 r1 se sd (by omega) ⟨.bl _, H, I, rfl, q⟩
theorem op_inD (hr : Room k X.A) : OpR X (compareOp .In) (rInD id) := by
  intro pins s σ H x y v u Q I rx ry h
  obtain ⟨a, o, rfl, g, q⟩ := h
  cases ry
  exact d_in (hu_of hr) I g rx fun s' I' => ⟨.bl _, H, I', rfl, q⟩
theorem op_notInD (hr : Room k X.A) : OpR X (compareOp .NotIn) (rInD (!·)) := by
  intro pins s σ H x y v u Q I rx ry h
  obtain ⟨a, o, rfl, g, q⟩ := h
  cases ry
  exact d_notIn (hu_of hr) I g rx fun s' I' => ⟨.bl _, H, I', rfl, q⟩
theorem op_inA (hr : Room k X.A) : OpR X (compareOp .In) (rInA X.K id) := OpR.or (op_inS hr) (OpR.or (op_inD hr) (OpR.or op_in_str op_in_sign))
theorem op_notInA (hr : Room k X.A) : OpR X (compareOp .NotIn) (rInA X.K (!·)) := OpR.or (op_notInS hr) (OpR.or (op_notInD hr) (OpR.or op_notIn_str op_notIn_sign))
theorem look_rep {K : PySem.W.Frag} {H : Hp} (k : Key) : ∀ {vs : List (Key × V)} {ds : List (Key × D)}, RepK K H vs ds → (valV vs k = none ∧ lookK ds k = none) ∨ ∃ v d, valV vs k = some v ∧ lookK ds k = some d ∧ Rep K H v d
  | _, _, .nil => .inl ⟨rfl, rfl⟩
  | _, _, .cons (k := k') (v := v) (vs := vs) (d := d) (ds := ds) a b => by
    by_cases e : k' = k
    · refine .inr ⟨v, d, ?_, ?_, a⟩
      · simp [valV, e]
      · simp [lookK, e]
    · have h1 : valV ((k', v) :: vs) k = valV vs k := by simp [valV, e]
      have h2 : lookK ((k', d) :: ds) k = lookK ds k := by simp [lookK, e]
      rw [h1, h2]
      exact look_rep k b
theorem look_repT {K : PySem.W.Frag} {H : Hp} (k : List Key) : ∀ {vs : List (List Key × V)} {ds : List (List Key × D)}, RepT K H vs ds → (valV vs k = none ∧ lookK ds k = none) ∨ ∃ v d, valV vs k = some v ∧ lookK ds k = some d ∧ Rep K H v d
  | _, _, .nil => .inl ⟨rfl, rfl⟩
  | _, _, .cons (k := k') (v := v) (vs := vs) (d := d) (ds := ds) a b => by
    by_cases e : k' = k
    · refine .inr ⟨v, d, ?_, ?_, a⟩
      · simp [valV, e]
      · simp [lookK, e]
    · have h1 : valV ((k', v) :: vs) k = valV vs k := by simp [valV, e]
      have h2 : lookK ((k', d) :: ds) k = lookK ds k := by simp [lookK, e]
      rw [h1, h2]
      exact look_repT k b
theorem keyD_out {kk : Kd} {d : D} {key : Key} {K : PySem.W.Frag} (h : keyD d = some key) (hx : Out K B O0 H0 H O v (d, kk)) : v = kV key := by
  cases d <;> first | (cases h; done) | skip
  · cases h
    exact hx.int
  · cases h
    exact hx.str
theorem keys_rep {K : PySem.W.Frag} {H : Hp} : ∀ {vs : List V} {ds : List D} {ks : List Key}, RepL K H vs ds → ds.mapM keyD = some ks → vs = ks.map kV
  | _, _, ks, .nil, e => by
    simp at e
    subst e
    rfl
  | _, _, ks, .cons (d := d) (ds := ds) a b, e => by
    rw [List.mapM_cons] at e
    cases q : keyD d with
    | none => rw [q] at e; cases e
    | some k =>
      rw [q] at e
      cases q2 : ds.mapM keyD with
      | none => rw [q2] at e; cases e
      | some r =>
        rw [q2] at e
        cases e
        rw [keys_rep b q2]
        cases d <;> first | (cases q; done) | skip
        · cases q
          cases a
          rfl
        · cases q
          cases a
          rfl
theorem keysD_out {d : D} {ks : List Key} {K : PySem.W.Frag} (h : keysD d = some ks) (hx : Out K B O0 H0 H O v (d, .fz)) : ∃ b, v = .ref b ∧ H b = some (.tup (ks.map kV)) := by
  cases d <;> first | (cases h; done) | skip
  cases (show Rep _ _ _ _ from hx) with
  | tup h1 h2 =>
    rw [keys_rep h2 h] at h1
    exact ⟨_, rfl, off_sub _ _ h1⟩
theorem dget_k {K : PySem.W.Frag} {vs : List (Key × V)} {a : Addr} {key : Key} {y : V} (h : H a = some (.dK vs)) (e : y = kV key) : DGet H a y (valV vs key) := .inl ⟨vs, key, .inl h, e, rfl⟩
theorem dget_t {K : PySem.W.Frag} {vs : List (List Key × V)} {a b : Addr} {key : List Key} {y : V} (h : H a = some (.dT vs)) (e : y = .ref b) (eb : H b = some (.tup (key.map kV))) : DGet H a y (valV vs key) := .inr ⟨vs, key, b, .inl h, e, eb, rfl⟩
theorem any_py (ys : List D) (d : PyData) : ((D.pyL ys).any fun y => PyData.eqv y d) = ys.any fun y => PyData.eqv y.py d := by
  rw [D.pyL_map, List.any_map]
  rfl
theorem hf_in (g : Bool → Bool) : HF X E (cIn g) (rInA X.K g) := by
  intro B O0 H0 H O x y v w s dom hx hy
  unfold cIn
  obtain ⟨d2, k2⟩ := y
  cases d2 <;> first | exact True.intro | skip
  · -- str
    rename_i z
    cases hy.str
    obtain ⟨d, kk⟩ := x
    cases d <;> first | exact True.intro | skip
    rename_i s'
    cases hx.str
    unfold inD
    dsimp only
    cases q : isSign s' with
    | none => exact fun Q hQ => .inr (.inr (.inl ⟨_, _, rfl, rfl, hQ _ _ (Same.refl _) (show Rep _ _ _ _ from .bl _)⟩))
    | some c =>
      have e : s' = ⟨#[c]⟩ := by
        unfold isSign at q
        split at q
        · cases q
          rfl
        · cases q
      exact fun Q hQ => .inr (.inr (.inr ⟨c, z, by rw [e], rfl, hQ _ _ (Same.refl _) (show Rep _ _ _ _ from .bl _)⟩))
  · rename_i ys
    unfold inD
    dsimp only
    split
    · rename_i c
      refine fun Q hQ => .inl ⟨_, D.pyL ys, hx.dp c.1, .inl (hy.dp (by simpa only [D.py, PyData.plain] using c.2.1)), c.1, c.2.1, c.2.2, ?_⟩
      rw [any_py]
      exact hQ _ _ (Same.refl _) (show Rep _ _ _ _ from .bl _)
    · trivial
  · rename_i ys
    unfold inD
    dsimp only
    split
    · rename_i c
      refine fun Q hQ => .inl ⟨_, D.pyL ys, hx.dp c.1, .inr (hy.dp (by simpa only [D.py, PyData.plain] using c.2.1)), c.1, c.2.1, c.2.2, ?_⟩
      rw [any_py]
      exact hQ _ _ (Same.refl _) (show Rep _ _ _ _ from .bl _)
    · trivial
  · rename_i kvs
    obtain ⟨a, vs, rfl, h1, h2⟩ := hy.dk
    unfold inD
    dsimp only
    cases q : keyD x.1 with
    | none => trivial
    | some key =>
      obtain ⟨d, kk⟩ := x
      have e := keyD_out q hx
      refine fun Q hQ => .inr (.inl ⟨a, valV vs key, rfl, dget_k (K := X.K) h1 e, ?_⟩)
      have z : (valV vs key).isSome = (lookK kvs key).isSome := by
        rcases look_rep key h2 with ⟨z1, z2⟩ | ⟨_, _, z1, z2, _⟩
        · rw [z1, z2]; rfl
        · rw [z1, z2]; rfl
      rw [z]
      exact hQ _ _ (Same.refl _) (show Rep _ _ _ _ from .bl _)
  · rename_i kvs
    obtain ⟨a, vs, rfl, h1, h2⟩ := hy.dt
    obtain ⟨d, kk⟩ := x
    unfold inD
    dsimp only
    cases kk <;> first | exact True.intro | skip
    cases q : keysD d with
    | none => trivial
    | some key =>
      obtain ⟨b, e, eb⟩ := keysD_out q hx
      refine fun Q hQ => .inr (.inl ⟨a, valV vs key, rfl, dget_t (K := X.K) h1 e eb, ?_⟩)
      have z : (valV vs key).isSome = (lookK kvs key).isSome := by
        rcases look_repT key h2 with ⟨z1, z2⟩ | ⟨_, _, z1, z2, _⟩
        · rw [z1, z2]; rfl
        · rw [z1, z2]; rfl
      rw [z]
      exact hQ _ _ (Same.refl _) (show Rep _ _ _ _ from .bl _)
end
end FK
namespace FK
open PySem PySem.Spec L2
open PyProof.Rows hiding St

/-! ### truth -/
def truD (x : DV) : R Bool := match x.1 with
  | .non => .ok false
  | .bl b => .ok b
  | .int i => .ok (i != 0)
  | .str s => if s.length ≤ sizeLine then .ok ((s.length : Int) != 0) else .no
  | .lst xs => .ok !xs.isEmpty
  | .tup xs => .ok !xs.isEmpty
  | _ => .no
theorem truD_nx {x : DV} {e : Exn} : truD x ≠ .ex e := by
  unfold truD
  split <;> first | (intro z; cases z; done) | (split <;> intro z <;> cases z)
theorem RepL.empty {K : PySem.W.Frag} {H : Hp} {vs : List V} {ds : List D} (h : RepL K H vs ds) : vs.isEmpty = ds.isEmpty := by cases h <;> rfl
theorem tru_out {K : PySem.W.Frag} {B H0 H : Hp} {O0 O : Own} {x : DV} {v : V} {b : Bool} (h : truD x = .ok b) (hx : Out K B O0 H0 H O v x) : TruV K v H b := by
  obtain ⟨d, k⟩ := x
  cases d <;> first | (cases h; done) | skip
  · cases h
    cases hx.non
    rfl
  · cases h
    cases hx.bl
    rfl
  · cases h
    cases hx.int
    rfl
  · cases hx.str
    unfold truD at h
    dsimp only at h
    split at h
    · cases h
      exact ⟨by assumption, rfl⟩
    · cases h
  · cases h
    obtain ⟨a, vs, rfl, h1, h2⟩ := hx.lst
    exact .inl ⟨vs, h1, by rw [h2.empty]⟩
  · cases h
    obtain ⟨a, vs, rfl, h1, h2⟩ := hx.tup
    exact .inr (.inl ⟨vs, h1, by rw [h2.empty]⟩)

section
variable {X : Cx} {E : XK} {a b c : Expr} {rest : List Expr} {pa pb pc : Env → R DV} {pt pu : Env → R Bool} {pos : Pos} {k : Nat}
abbrev dTru (pa : Env → R DV) : Env → R Bool := fun ρ => (pa ρ).bind truD
theorem dt_truth (ha : DE X E a pa) (he : ∀ whole, isTrue a X.env whole = (do let v ← whole; standAt a.pos; holding [v] (truthy v)) := by intro _; rfl) : DT X E a (dTru pa) := by
  obtain ⟨t, h1, h2⟩ := ha.ex
  refine ⟨_, pt_truth h1 he, fun B F O0 H O σ ρ R => ?_⟩
  refine EvG.bind (T1 := fun v H1 Q => ∃ k, TruV X.K v H1 k ∧ Q k H1) (h2 B F O0 H O σ ρ R) fun x v H1 s1 r1 => ?_
  cases q : truD x with
  | no => trivial
  | ex e => exact absurd q truD_nx
  | ok b => exact fun Q hQ => ⟨b, tru_out q r1, hQ _ _ (Same.refl _) rfl⟩
def boolD (x : DV) : R Bool := match x with
  | (.bl b, .fz) => .ok b
  | _ => .no
/-- a comparison as a test -/
abbrev dCmp (f : DV → DV → R DV) (pa pb : Env → R DV) : Env → R Bool := fun ρ => (pa ρ).bind fun x => (pb ρ).bind fun y => (f x y).bind boolD
theorem ev_bool {B H : Hp} {O0 O : Own} {r : R DV} {T : VK → Prop} (h : EvG X.K X.mg O E H r (ORel X.K B O0 H O) T) : EvG X.K X.mg O E H (r.bind boolD) (fun b c _ => c = b) (fun Q => T fun x H' => ∃ k, x = .bl k ∧ Q k H') := by
  refine EvG.bind (T1 := fun x H' Q => ∃ k, x = .bl k ∧ Q k H') h fun x v H1 s1 r1 => ?_
  obtain ⟨d, k⟩ := x
  cases d <;> first | exact True.intro | skip
  cases k <;> first | exact True.intro | skip
  rename_i b
  cases (show Rep _ _ _ _ from r1)
  exact fun Q hQ => ⟨b, rfl, hQ _ _ (Same.refl _) rfl⟩
theorem dt_cmpG {op : CmpOp} {r : R2} {f : DV → DV → R DV} (ho : OpR X (compareOp op) r) (hf : HF X E f r) (ha : DE X E a pa) (hb : DE X E b pb) (hm : behindInMarks op b = false) : DT X E (.Compare a [op] [b] pos) (dCmp f pa pb) := by
  obtain ⟨t, h1, h2⟩ := ha.ex
  obtain ⟨u, g1, g2⟩ := hb.ex
  refine ⟨_, pt_cmpR ho h1 g1 hm, fun B F O0 H O σ ρ R => ?_⟩
  refine EvG.bind (T1 := fun v H1 Q => u σ H1 fun w H2 => r v w H2 fun x H' => ∃ k, x = .bl k ∧ Q k H') (h2 B F O0 H O σ ρ R) fun x v H1 s1 r1 => ?_
  refine EvG.bind (T1 := fun w H2 Q => r v w H2 fun x H' => ∃ k, x = .bl k ∧ Q k H') (g2 B F O0 H1 O σ ρ (R.more s1)) fun y w H2 s2 r2 => ?_
  exact ev_bool (hf B O0 H H2 O x y v w (s1.trans s2) (R.more (s1.trans s2)).dom (r1.mono (Same.refl _) s2) (r2.mono s1 (Same.refl _)))
theorem de_cmpG {op : CmpOp} {r : R2} {f : DV → DV → R DV} (ho : OpR X (compareOp op) r) (hf : HF X E f r) (ha : DE X E a pa) (hb : DE X E b pb) (hm : behindInMarks op b = false) : DE X E (.Compare a [op] [b] pos) (dBin f pa pb) := de_cmp ho hf ha hb hm
/-- the operators of comparison, told by name -/
structure CO (X : Cx) (E : XK) (op : CmpOp) (f : DV → DV → R DV) : Prop where
  ex : ∃ r, OpR X (compareOp op) r ∧ HF X E f r
theorem co_lt (hr : Room k X.A) : CO X E .Lt (cOrd oLt) := ⟨_, op_ltP hr, hf_lt⟩
theorem co_gt (hr : Room k X.A) : CO X E .Gt (cOrd oGt) := ⟨_, op_gtP hr, hf_gt⟩
theorem co_le (hr : Room k X.A) : CO X E .LtE (cOrd oLe) := ⟨_, op_leP hr, hf_le⟩
theorem co_ge (hr : Room k X.A) : CO X E .GtE (cOrd oGe) := ⟨_, op_geP hr, hf_ge⟩
theorem co_eq (hr : Room k X.A) : CO X E .Eq (cEq id) := ⟨_, op_eqP hr, hf_eq id⟩
theorem co_ne (hr : Room k X.A) : CO X E .NotEq (cEq (!·)) := ⟨_, op_neP hr, hf_eq (!·)⟩
theorem co_in (hr : Room k X.A) : CO X E .In (cIn id) := ⟨_, op_inA hr, hf_in id⟩
theorem co_ni (hr : Room k X.A) : CO X E .NotIn (cIn (!·)) := ⟨_, op_notInA hr, hf_in (!·)⟩
/-- is None -/
def isNoneD (g : Bool → Bool) (x y : DV) : R DV := match y with
  | (.non, .fz) => .ok (.bl (g x.1.isNon), .fz)
  | _ => .no
theorem non_out {B H0 H : Hp} {O0 O : Own} {x : DV} {v : V} (hx : Out X.K B O0 H0 H O v x) : decide (v = .non) = x.1.isNon := by
  obtain ⟨d, kk⟩ := x
  cases d
  case non => cases hx.non; rfl
  case bl => cases hx.bl; rfl
  case int => cases hx.int; rfl
  case str => cases hx.str; rfl
  case lst => obtain ⟨a, vs, rfl, _⟩ := hx.lst; rfl
  case tup => obtain ⟨a, vs, rfl, _⟩ := hx.tup; rfl
  case dk => obtain ⟨a, vs, rfl, _⟩ := hx.dk; rfl
  case dt => obtain ⟨a, vs, rfl, _⟩ := hx.dt; rfl
theorem co_is : CO X E .Is (isNoneD id) := ⟨_, op_isN, fun B O0 H0 H O x y v w s dom hx hy => by
  obtain ⟨d, kk⟩ := y
  cases d <;> first | exact True.intro | skip
  cases kk <;> first | exact True.intro | skip
  cases (show Rep _ _ _ _ from hy)
  refine fun Q hQ => ⟨rfl, ?_⟩
  rw [non_out hx]
  exact hQ _ _ (Same.refl _) (show Rep _ _ _ _ from .bl _)⟩
theorem co_isn : CO X E .IsNot (isNoneD (!·)) := ⟨_, op_notN, fun B O0 H0 H O x y v w s dom hx hy => by
  obtain ⟨d, kk⟩ := y
  cases d <;> first | exact True.intro | skip
  cases kk <;> first | exact True.intro | skip
  cases (show Rep _ _ _ _ from hy)
  refine fun Q hQ => ⟨rfl, ?_⟩
  rw [non_out hx]
  exact hQ _ _ (Same.refl _) (show Rep _ _ _ _ from .bl _)⟩
theorem dt_c {op : CmpOp} {f : DV → DV → R DV} (o : CO X E op f) (ha : DE X E a pa) (hb : DE X E b pb) (hm : behindInMarks op b = false := by first | exact nomark _ | rfl) : DT X E (.Compare a [op] [b] pos) (dCmp f pa pb) := by
  obtain ⟨r, h1, h2⟩ := o.ex
  exact dt_cmpG h1 h2 ha hb hm
theorem de_c {op : CmpOp} {f : DV → DV → R DV} (o : CO X E op f) (ha : DE X E a pa) (hb : DE X E b pb) (hm : behindInMarks op b = false := by first | exact nomark _ | rfl) : DE X E (.Compare a [op] [b] pos) (dBin f pa pb) := by
  obtain ⟨r, h1, h2⟩ := o.ex
  exact de_cmpG h1 h2 ha hb hm
/-- a < b < c -/
abbrev dChn (f g : DV → DV → R DV) (pa pb pc : Env → R DV) : Env → R DV := fun ρ => (pa ρ).bind fun x => (pb ρ).bind fun y => (f x y).bind fun z => (boolD z).bind fun q => if q then (pc ρ).bind fun w => g y w else .ok (.bl false, .fz)
theorem boolD_nx {x : DV} {e : Exn} : boolD x ≠ .ex e := by
  unfold boolD
  split <;> exact fun z => nomatch z
theorem boolD_ok {x : DV} {q : Bool} (h : boolD x = .ok q) : x = (.bl q, .fz) := by
  unfold boolD at h
  split at h
  · cases h; rfl
  · cases h
theorem de_chain {op op' : CmpOp} {f g : DV → DV → R DV} (o : CO X E op f) (o' : CO X E op' g) (ha : DE X E a pa) (hb : DE X E b pb) (hc : DE X E c pc) (hm : lastMarks [op, op'] [b, c] = false := by with_unfolding_all rfl) :
    DE X E (.Compare a [op, op'] [b, c] pos) (dChn f g pa pb pc) := by
  obtain ⟨r, h1, h2⟩ := o.ex
  obtain ⟨r', h1', h2'⟩ := o'.ex
  obtain ⟨ta, a1, a2⟩ := ha.ex
  obtain ⟨tb, b1, b2⟩ := hb.ex
  obtain ⟨tc, c1, c2⟩ := hc.ex
  refine ⟨_, pe_chain h1 h1' a1 b1 c1 hm, fun B F O0 H O σ ρ R => ?_⟩
  refine EvG.bind (T1 := fun v H1 Q => tb σ H1 fun w H2 => r v w H2 fun z H3 => ∃ k, z = .bl k ∧ (if k = true then tc σ H3 fun w' H4 => r' w w' H4 Q else Q (.bl false) H3)) (a2 B F O0 H O σ ρ R) fun x v H1 s1 r1 => ?_
  refine EvG.bind (T1 := fun w H2 Q => r v w H2 fun z H3 => ∃ k, z = .bl k ∧ (if k = true then tc σ H3 fun w' H4 => r' w w' H4 Q else Q (.bl false) H3)) (b2 B F O0 H1 O σ ρ (R.more s1)) fun y w H2 s2 r2 => ?_
  have s12 := s1.trans s2
  refine EvG.bind (T1 := fun z H3 Q => ∃ k, z = .bl k ∧ (if k = true then tc σ H3 fun w' H4 => r' w w' H4 Q else Q (.bl false) H3)) (h2 B O0 H H2 O x y v w s12 (R.more s12).dom (r1.mono (Same.refl _) s2) (r2.mono s1 (Same.refl _))) fun z u H3 s3 r3 => ?_
  cases q : boolD z with
  | no => trivial
  | ex e => exact absurd q boolD_nx
  | ok k =>
    cases boolD_ok q
    cases (show Rep _ _ _ _ from r3)
    have s13 := s12.trans s3
    cases k with
    | false => exact fun Q hQ => ⟨false, rfl, hQ _ _ (Same.refl _) (show Rep _ _ _ _ from .bl _)⟩
    | true =>
      have h : EvG X.K X.mg O E H3 ((pc ρ).bind fun w => g y w) (ORel X.K B O0 H O) (fun Q => tc σ H3 fun w' H4 => r' w w' H4 Q) := by
        refine EvG.bind (T1 := fun w' H4 Q => r' w w' H4 Q) (c2 B F O0 H3 O σ ρ (R.more s13)) fun w2 v2 H4 s4 r4 => ?_
        exact (h2' B O0 H H4 O y w2 w v2 (s13.trans s4) (R.more (s13.trans s4)).dom (r2.mono s1 (s3.trans s4)) (r4.mono s13 (Same.refl _))).imp fun z u H' s' o => Out.mono o (s13.trans s4) (Same.refl _)
      revert h
      show EvG _ _ _ _ _ ((pc ρ).bind fun w => g y w) _ _ → EvG _ _ _ _ _ ((pc ρ).bind fun w => g y w) _ _
      cases (pc ρ).bind fun w => g y w with
      | no => exact fun _ => True.intro
      | ex e => exact fun h w Q => ⟨true, rfl, h w Q⟩
      | ok x => exact fun h Q hQ => ⟨true, rfl, h Q hQ⟩
/-- .. as a test -/
theorem dt_chain {op op' : CmpOp} {f g : DV → DV → R DV} (o : CO X E op f) (o' : CO X E op' g) (ha : DE X E a pa) (hb : DE X E b pb) (hc : DE X E c pc) (hm : lastMarks [op, op'] [b, c] = false := by with_unfolding_all rfl) :
    DT X E (.Compare a [op, op'] [b, c] pos) (fun ρ => (dChn f g pa pb pc ρ).bind boolD) := by
  obtain ⟨r, h1, h2⟩ := o.ex
  obtain ⟨r', h1', h2'⟩ := o'.ex
  obtain ⟨ta, a1, a2⟩ := ha.ex
  obtain ⟨tb, b1, b2⟩ := hb.ex
  obtain ⟨tc, c1, c2⟩ := hc.ex
  refine ⟨_, pt_chain h1 h1' a1 b1 c1 hm, fun B F O0 H O σ ρ R => ?_⟩
  refine ev_bool (B := B) (O0 := O0) (O := O) (T := tChain r r' ta tb tc σ H) ?_
  refine EvG.bind (T1 := fun v H1 Q => tb σ H1 fun w H2 => r v w H2 fun z H3 => ∃ k, z = .bl k ∧ (if k = true then tc σ H3 fun w' H4 => r' w w' H4 Q else Q (.bl false) H3)) (a2 B F O0 H O σ ρ R) fun x v H1 s1 r1 => ?_
  refine EvG.bind (T1 := fun w H2 Q => r v w H2 fun z H3 => ∃ k, z = .bl k ∧ (if k = true then tc σ H3 fun w' H4 => r' w w' H4 Q else Q (.bl false) H3)) (b2 B F O0 H1 O σ ρ (R.more s1)) fun y w H2 s2 r2 => ?_
  have s12 := s1.trans s2
  refine EvG.bind (T1 := fun z H3 Q => ∃ k, z = .bl k ∧ (if k = true then tc σ H3 fun w' H4 => r' w w' H4 Q else Q (.bl false) H3)) (h2 B O0 H H2 O x y v w s12 (R.more s12).dom (r1.mono (Same.refl _) s2) (r2.mono s1 (Same.refl _))) fun z u H3 s3 r3 => ?_
  cases q : boolD z with
  | no => trivial
  | ex e => exact absurd q boolD_nx
  | ok k =>
    cases boolD_ok q
    cases (show Rep _ _ _ _ from r3)
    have s13 := s12.trans s3
    cases k with
    | false => exact fun Q hQ => ⟨false, rfl, hQ _ _ (Same.refl _) (show Rep _ _ _ _ from .bl _)⟩
    | true =>
      have h : EvG X.K X.mg O E H3 ((pc ρ).bind fun w => g y w) (ORel X.K B O0 H O) (fun Q => tc σ H3 fun w' H4 => r' w w' H4 Q) := by
        refine EvG.bind (T1 := fun w' H4 Q => r' w w' H4 Q) (c2 B F O0 H3 O σ ρ (R.more s13)) fun w2 v2 H4 s4 r4 => ?_
        exact (h2' B O0 H H4 O y w2 w v2 (s13.trans s4) (R.more (s13.trans s4)).dom (r2.mono s1 (s3.trans s4)) (r4.mono s13 (Same.refl _))).imp fun z u H' s' o => Out.mono o (s13.trans s4) (Same.refl _)
      revert h
      show EvG _ _ _ _ _ ((pc ρ).bind fun w => g y w) _ _ → EvG _ _ _ _ _ ((pc ρ).bind fun w => g y w) _ _
      cases (pc ρ).bind fun w => g y w with
      | no => exact fun _ => True.intro
      | ex e => exact fun h w Q => ⟨true, rfl, h w Q⟩
      | ok x => exact fun h Q hQ => ⟨true, rfl, h Q hQ⟩

/-! ### and, or, not, if -/
abbrev tAndD (p q : Env → R Bool) : Env → R Bool := fun ρ => (p ρ).bind fun b => if b then q ρ else .ok false
abbrev tOrD (p q : Env → R Bool) : Env → R Bool := fun ρ => (p ρ).bind fun b => if b then .ok true else q ρ
abbrev tNotD (p : Env → R Bool) : Env → R Bool := fun ρ => (p ρ).bind fun b => .ok !b
/-- a chain of and, or: PW -/
structure DW (X : Cx) (E : XK) (e : Expr) (p : Env → R Bool) : Prop where
  ex : ∃ t, PW X e t ∧ ∀ (B F : Hp) (O0 : Own) (H : Hp) (O : Own) (σ : L2.St) (ρ : Env), SR X.K B F O0 H O σ ρ → EvG X.K X.mg O E H (p ρ) (fun b c _ => c = b) (t σ H)
theorem DW.dt {e : Expr} {p : Env → R Bool} (h : DW X E e p) : DT X E e p := let ⟨t, h1, h2⟩ := h.ex; ⟨t, h1.pt, h2⟩
theorem dw_and1 (ha : DT X E a pt) : DW X E (.BoolOp .And [a] pos) pt := let ⟨t, h1, h2⟩ := ha.ex; ⟨t, pw_and1 h1, h2⟩
theorem dw_or1 (ha : DT X E a pt) : DW X E (.BoolOp .Or [a] pos) pt := let ⟨t, h1, h2⟩ := ha.ex; ⟨t, pw_or1 h1, h2⟩
theorem dw_and (ha : DT X E a pt) (hb : DW X E (.BoolOp .And (b :: rest) pos) pu) : DW X E (.BoolOp .And (a :: b :: rest) pos) (tAndD pt pu) := by
  obtain ⟨t, h1, h2⟩ := ha.ex
  obtain ⟨u, g1, g2⟩ := hb.ex
  refine ⟨_, pw_and h1 g1, fun B F O0 H O σ ρ R => ?_⟩
  refine EvG.bind (T1 := fun c H1 Q => if c = true then u σ H1 Q else Q false H1) (h2 B F O0 H O σ ρ R) fun x v H1 s1 r1 => ?_
  cases r1
  cases x with
  | true => exact g2 B F O0 H1 O σ ρ (R.more s1)
  | false => exact EvG.ret rfl
theorem dw_or (ha : DT X E a pt) (hb : DW X E (.BoolOp .Or (b :: rest) pos) pu) : DW X E (.BoolOp .Or (a :: b :: rest) pos) (tOrD pt pu) := by
  obtain ⟨t, h1, h2⟩ := ha.ex
  obtain ⟨u, g1, g2⟩ := hb.ex
  refine ⟨_, pw_or h1 g1, fun B F O0 H O σ ρ R => ?_⟩
  refine EvG.bind (T1 := fun c H1 Q => if c = true then Q true H1 else u σ H1 Q) (h2 B F O0 H O σ ρ R) fun x v H1 s1 r1 => ?_
  cases r1
  cases x with
  | false => exact g2 B F O0 H1 O σ ρ (R.more s1)
  | true => exact EvG.ret rfl
theorem dt_not (ha : DT X E a pt) : DT X E (.UnaryOp .Not a pos) (tNotD pt) := by
  obtain ⟨t, h1, h2⟩ := ha.ex
  refine ⟨_, pt_not h1, fun B F O0 H O σ ρ R => ?_⟩
  refine EvG.bind (T1 := fun c H1 Q => Q (!c) H1) (h2 B F O0 H O σ ρ R) fun x v H1 s1 r1 => ?_
  cases r1
  exact EvG.ret rfl
/-- .. as values -/
abbrev dAnd (pa pb : Env → R DV) : Env → R DV := fun ρ => (pa ρ).bind fun x => (truD x).bind fun b => if b then pb ρ else .ok x
abbrev dOr (pa pb : Env → R DV) : Env → R DV := fun ρ => (pa ρ).bind fun x => (truD x).bind fun b => if b then .ok x else pb ρ
abbrev dNot (pa : Env → R DV) : Env → R DV := fun ρ => (pa ρ).bind fun x => (truD x).bind fun b => .ok (.bl !b, .fz)
theorem de_one {op} (h : DE X E a pa) : DE X E (.BoolOp op [a] pos) pa := let ⟨t, h1, h2⟩ := h.ex; ⟨t, pe_one h1, h2⟩
theorem de_and (ha : DE X E a pa) (hb : DE X E (.BoolOp .And (b :: rest) pos) pb) : DE X E (.BoolOp .And (a :: b :: rest) pos) (dAnd pa pb) := by
  obtain ⟨t, h1, h2⟩ := ha.ex
  obtain ⟨u, g1, g2⟩ := hb.ex
  refine ⟨_, pe_andT h1 g1, fun B F O0 H O σ ρ R => ?_⟩
  refine EvG.bind (T1 := fun x H1 Q => ∃ k, TruV X.K x H1 k ∧ if k = true then u σ H1 Q else Q x H1) (h2 B F O0 H O σ ρ R) fun x v H1 s1 r1 => ?_
  cases q : truD x with
  | no => trivial
  | ex e => exact absurd q truD_nx
  | ok k =>
    cases k with
    | false => exact fun Q hQ => ⟨false, tru_out q r1, hQ _ _ (Same.refl _) r1⟩
    | true =>
      have h := g2 B F O0 H1 O σ ρ (R.more s1)
      show EvG _ _ _ _ _ (pb ρ) _ _
      cases z : pb ρ with
      | no => trivial
      | ex e =>
        rw [z] at h
        exact fun w Q => ⟨true, tru_out q r1, h w Q⟩
      | ok y =>
        rw [z] at h
        exact fun Q hQ => ⟨true, tru_out q r1, h Q fun v' H' s' r' => hQ v' H' s' (Out.mono r' s1 (Same.refl _))⟩
theorem de_or (ha : DE X E a pa) (hb : DE X E (.BoolOp .Or (b :: rest) pos) pb) : DE X E (.BoolOp .Or (a :: b :: rest) pos) (dOr pa pb) := by
  obtain ⟨t, h1, h2⟩ := ha.ex
  obtain ⟨u, g1, g2⟩ := hb.ex
  refine ⟨_, pe_orT h1 g1, fun B F O0 H O σ ρ R => ?_⟩
  refine EvG.bind (T1 := fun x H1 Q => ∃ k, TruV X.K x H1 k ∧ if k = true then Q x H1 else u σ H1 Q) (h2 B F O0 H O σ ρ R) fun x v H1 s1 r1 => ?_
  cases q : truD x with
  | no => trivial
  | ex e => exact absurd q truD_nx
  | ok k =>
    cases k with
    | true => exact fun Q hQ => ⟨true, tru_out q r1, hQ _ _ (Same.refl _) r1⟩
    | false =>
      have h := g2 B F O0 H1 O σ ρ (R.more s1)
      show EvG _ _ _ _ _ (pb ρ) _ _
      cases z : pb ρ with
      | no => trivial
      | ex e =>
        rw [z] at h
        exact fun w Q => ⟨false, tru_out q r1, h w Q⟩
      | ok y =>
        rw [z] at h
        exact fun Q hQ => ⟨false, tru_out q r1, h Q fun v' H' s' r' => hQ v' H' s' (Out.mono r' s1 (Same.refl _))⟩
theorem de_not (ha : DE X E a pa) : DE X E (.UnaryOp .Not a pos) (dNot pa) := by
  obtain ⟨t, h1, h2⟩ := ha.ex
  refine ⟨_, pe_notT h1, fun B F O0 H O σ ρ R => ?_⟩
  refine EvG.bind (T1 := fun x H1 Q => ∃ k, TruV X.K x H1 k ∧ Q (V.bl (!k)) H1) (h2 B F O0 H O σ ρ R) fun x v H1 s1 r1 => ?_
  cases q : truD x with
  | no => trivial
  | ex e => exact absurd q truD_nx
  | ok k => exact fun Q hQ => ⟨k, tru_out q r1, hQ _ _ (Same.refl _) (show Rep _ _ _ _ from .bl _)⟩
abbrev dIf (pt : Env → R Bool) (pa pb : Env → R DV) : Env → R DV := fun ρ => (pt ρ).bind fun b => if b then pa ρ else pb ρ
theorem de_if (hc : DT X E c pt) (ha : DE X E a pa) (hb : DE X E b pb) : DE X E (.IfExp c a b pos) (dIf pt pa pb) := by
  obtain ⟨t, h1, h2⟩ := hc.ex
  obtain ⟨ta, a1, a2⟩ := ha.ex
  obtain ⟨tb, b1, b2⟩ := hb.ex
  refine ⟨_, pe_ifExp h1 a1 b1, fun B F O0 H O σ ρ R => ?_⟩
  refine EvG.bind (T1 := fun c H1 Q => if c = true then ta σ H1 Q else tb σ H1 Q) (h2 B F O0 H O σ ρ R) fun x v H1 s1 r1 => ?_
  cases r1
  cases x with
  | true => exact (a2 B F O0 H1 O σ ρ (R.more s1)).imp fun z u H' s' o => Out.mono o s1 (Same.refl _)
  | false => exact (b2 B F O0 H1 O σ ρ (R.more s1)).imp fun z u H' s' o => Out.mono o s1 (Same.refl _)
def negD (x : DV) : R DV := match x.1 with | .int i => .ok (.int (-i), .fz) | _ => .no
theorem de_neg (ha : DE X E a pa) : DE X E (.UnaryOp .USub a pos) (fun ρ => (pa ρ).bind negD) := by
  obtain ⟨t, h1, h2⟩ := ha.ex
  refine ⟨_, pe_un un_neg h1, fun B F O0 H O σ ρ R => ?_⟩
  refine EvG.bind (T1 := fun x H1 Q => rU (fun i => V.int (-i)) x H1 Q) (h2 B F O0 H O σ ρ R) fun x v H1 s1 r1 => ?_
  obtain ⟨d, kk⟩ := x
  cases d <;> first | exact True.intro | skip
  cases Out.int r1
  exact fun Q hQ => ⟨_, rfl, hQ _ _ (Same.refl _) (show Rep _ _ _ _ from .int _)⟩
end
end FK
namespace FK
open PySem PySem.Spec L2
open PyProof.Rows hiding St

/-! ### x[i] -/
theorem IxR.dget {X : Cx} {k : Nat} (hr : Room k X.A) : IxR X (fun x y H Q => ∃ a v, x = .ref a ∧ DGet H a y (some v) ∧ Q v H) := by
  intro value slice pins s σ H x y v u Q I rx ry h hs
  obtain ⟨a, w, rfl, g, q⟩ := h
  cases rx
  exact tail_any (dict_typeIs I g) PySem.F.slot_dict_getitem.lookup (d_getItem (hu_of hr) I g ry fun w' s3 I3 rw' => ⟨w, H, I3, rw', q⟩) hs
theorem IxR.or' {X : Cx} {r r' : R2} (h : IxR X r) (h' : IxR X r') : IxR X (fun x y H Q => r x y H Q ∨ r' x y H Q) := by
  intro value slice pins s σ H x y v u Q I rx ry q hs
  rcases q with q | q
  · exact h value slice pins s σ H x y v u Q I rx ry q hs
  · exact h' value slice pins s σ H x y v u Q I rx ry q hs
def ixD (x y : DV) : R DV := match x.1 with
  | .lst xs => (match y.1 with | .int i => (match atI xs i with | some d => .ok (d, .fz) | none => .no) | _ => .no)
  | .tup xs => (match y.1 with | .int i => (match atI xs i with | some d => .ok (d, .fz) | none => .no) | _ => .no)
  | .str z => (match y.1 with | .int i => if z.length ≤ sizeLine then (match atI z.cps.toList i with | some c => .ok (.str ⟨#[c]⟩, .fz) | none => .no) else .no | _ => .no)
  | .dk kvs => (match keyD y.1 with | some k => (match lookK kvs k with | some d => .ok (d, .fz) | none => .no) | none => .no)
  | .dt kvs => (match y.2, keysD y.1 with | .fz, some k => (match lookK kvs k with | some d => .ok (d, .fz) | none => .no) | _, _ => .no)
  | _ => .no
def rIxG (K : PySem.W.Frag) : R2 := fun x y H Q => rIx K x y H Q ∨ ∃ a v, x = .ref a ∧ DGet H a y (some v) ∧ Q v H
theorem RepL.at {K : PySem.W.Frag} {H : Hp} {vs : List V} {ds : List D} {i : Int} {d : D} (h : RepL K H vs ds) (e : atI ds i = some d) : ∃ v, atI vs i = some v ∧ Rep K H v d := by
  unfold atI at e ⊢
  rw [h.length]
  cases q : ixN ds.length i with
  | none => rw [q] at e; cases e
  | some j =>
    rw [q] at e
    obtain ⟨u, h1, h2⟩ := h.get (show ds[j]? = some d from e)
    exact ⟨u, h1, h2⟩
section
variable {X : Cx} {E : XK} {e a b c : Expr} {es rest : List Expr} {p pa pb pc : Env → R DV} {pt pu : Env → R Bool} {pl : Env → R (List DV)} {pos : Pos} {k : Nat}
theorem hf_ix : HF X E ixD (rIxG X.K) := by
  intro B O0 H0 H O x y v w s dom hx hy
  obtain ⟨d, kk⟩ := x
  cases d <;> first | exact True.intro | skip
  · rename_i z
    cases hx.str
    obtain ⟨d2, k2⟩ := y
    cases d2 <;> first | exact True.intro | skip
    cases hy.int
    unfold ixD
    dsimp only
    split
    · cases q : atI z.cps.toList _ with
      | none => trivial
      | some c => exact fun Q hQ => .inl (.inr (.inr ⟨_, _, c, rfl, rfl, by assumption, q, hQ _ _ (Same.refl _) (show Rep _ _ _ _ from .str _)⟩))
    · trivial
  · rename_i xs
    obtain ⟨a, vs, rfl, h1, h2⟩ := hx.lst
    obtain ⟨d2, k2⟩ := y
    cases d2 <;> first | exact True.intro | skip
    cases hy.int
    unfold ixD
    dsimp only
    cases q : atI xs _ with
    | none => trivial
    | some d =>
      obtain ⟨u, h3, h4⟩ := h2.at q
      exact fun Q hQ => .inl (.inl ⟨a, vs, _, u, rfl, rfl, h1, h3, hQ _ _ (Same.refl _) h4⟩)
  · rename_i xs
    obtain ⟨a, vs, rfl, h1, h2⟩ := hx.tup
    obtain ⟨d2, k2⟩ := y
    cases d2 <;> first | exact True.intro | skip
    cases hy.int
    unfold ixD
    dsimp only
    cases q : atI xs _ with
    | none => trivial
    | some d =>
      obtain ⟨u, h3, h4⟩ := h2.at q
      exact fun Q hQ => .inl (.inr (.inl ⟨a, vs, _, u, rfl, rfl, h1, h3, hQ _ _ (Same.refl _) h4⟩))
  · rename_i kvs
    obtain ⟨a, vs, rfl, h1, h2⟩ := hx.dk
    obtain ⟨d2, k2⟩ := y
    unfold ixD
    dsimp only
    cases q : keyD d2 with
    | none => trivial
    | some key =>
      dsimp only
      have e := keyD_out q hy
      rcases look_rep key h2 with ⟨z1, z2⟩ | ⟨u, d, z1, z2, z3⟩
      · rw [z2]
        trivial
      · rw [z2]
        exact fun Q hQ => .inr ⟨a, u, rfl, z1 ▸ dget_k (K := X.K) h1 e, hQ _ _ (Same.refl _) z3⟩
  · rename_i kvs
    obtain ⟨a, vs, rfl, h1, h2⟩ := hx.dt
    obtain ⟨d2, k2⟩ := y
    unfold ixD
    dsimp only
    cases k2 <;> first | exact True.intro | skip
    cases q : keysD d2 with
    | none => trivial
    | some key =>
      dsimp only
      obtain ⟨b, e, eb⟩ := keysD_out q hy
      rcases look_repT key h2 with ⟨z1, z2⟩ | ⟨u, d, z1, z2, z3⟩
      · rw [z2]
        trivial
      · rw [z2]
        exact fun Q hQ => .inr ⟨a, u, rfl, z1 ▸ dget_t (K := X.K) h1 e eb, hQ _ _ (Same.refl _) z3⟩
theorem de_ix (hr : Room k X.A) (ha : DE X E a pa) (hb : DE X E b pb) (hs : PlainIx b := by exact fun _ _ => rfl) : DE X E (.Subscript a b pos) (dBin ixD pa pb) :=
  de_two (t := fun _ _ _ => True) ha hb (fun _ _ h g => pe_ix (IxR.or' ix_seq (IxR.dget hr)) h g hs) hf_ix

/-! ### x[i:j] -/
structure DO (X : Cx) (E : XK) (e : Option Expr) (p : Env → R (Option Int)) : Prop where
  ex : ∃ t, PO X e t ∧ ∀ (B F : Hp) (O0 : Own) (H : Hp) (O : Own) (σ : L2.St) (ρ : Env), SR X.K B F O0 H O σ ρ → EvG X.K X.mg O E H (p ρ) (fun b c _ => c = b) (t σ H)
theorem do_none : DO X E none (fun _ => .ok none) := ⟨_, po_none, fun B F O0 H O σ ρ R => EvG.ret rfl⟩
def intD (x : DV) : R (Option Int) := match x.1 with | .int i => .ok (some i) | _ => .no
theorem do_some (h : DE X E e p) : DO X E (some e) (fun ρ => (p ρ).bind intD) := by
  obtain ⟨t, h1, h2⟩ := h.ex
  refine ⟨_, po_some h1, fun B F O0 H O σ ρ R => ?_⟩
  refine EvG.bind (T1 := fun x H1 Q => ∃ i, x = .int i ∧ Q (some i) H1) (h2 B F O0 H O σ ρ R) fun x v H1 s1 r1 => ?_
  obtain ⟨d, kk⟩ := x
  cases d <;> first | exact True.intro | skip
  cases Out.int r1
  exact fun Q hQ => ⟨_, rfl, hQ _ _ (Same.refl _) rfl⟩
def cutL {α : Type} (xs : List α) (lo hi : Option Int) : List α := (xs.drop (HT.sIx xs.length 0 lo)).take (HT.sIx xs.length xs.length hi - HT.sIx xs.length 0 lo)
def slD (x : DV) (lo hi : Option Int) : R DV := match x with
  | (.lst xs, _) => .ok (.lst (cutL xs lo hi), .ow)
  | (.tup xs, .fz) => .ok (.tup (cutL xs lo hi), .fz)
  | (.str z, _) => if z.length ≤ sizeLine then .ok (.str (cutS z lo hi), .fz) else .no
  | _ => .no
def rSlG (K : PySem.W.Frag) : V → Option Int → Option Int → Hp → VK → Prop := fun x lo hi H Q => rSlL K x lo hi H Q ∨ rSlA K x lo hi H Q ∨ rSlS x lo hi H Q
theorem sl_all : SlR X (rSlG X.K) := SlR.or sl_list (SlR.or sl_tupA sl_str)
theorem RepL.cut {K : PySem.W.Frag} {H : Hp} {vs : List V} {ds : List D} (lo hi : Option Int) (h : RepL K H vs ds) : RepL K H (cutV vs lo hi) (cutL ds lo hi) := by
  unfold cutV cutL
  rw [h.length]
  exact (h.drop _).take _
theorem ev_sl {B H0 H : Hp} {O0 O : Own} {x : DV} {v : V} (lo hi : Option Int) (s : Same H0 H) (dom : ∀ a, O a → H a ≠ none) (hx : Out X.K B O0 H0 H O v x) : EvG X.K X.mg O E H (slD x lo hi) (ORel X.K B O0 H O) (fun Q => rSlG X.K v lo hi H Q) := by
  obtain ⟨d, kk⟩ := x
  cases d <;> first | exact True.intro | skip
  · cases hx.str
    show EvG _ _ _ _ _ (if _ then _ else _) _ _
    split
    · exact fun Q hQ => .inr (.inr ⟨_, rfl, by assumption, hQ _ _ (Same.refl _) (show Rep _ _ _ _ from .str _)⟩)
    · trivial
  · obtain ⟨a, vs, rfl, h1, h2⟩ := hx.lst
    exact fun Q hQ => .inl ⟨a, vs, rfl, h1, ev_lst (mg := X.mg) (E := E) dom (h2.cut lo hi) Q hQ⟩
  · cases kk <;> first | exact True.intro | skip
    obtain ⟨a, vs, rfl, h1, h2⟩ := hx.tup
    refine fun Q hQ => .inr (.inl ⟨a, vs, rfl, h1, fun c => ?_, fun c => ev_tup (mg := X.mg) (E := E) dom (h2.cut lo hi) Q hQ⟩)
    rename_i ds
    have e : cutL ds lo hi = ds := by
      unfold cutL
      rw [← h2.length, c.1, c.2, List.drop_zero, h2.length, Nat.sub_zero, List.take_length]
    rw [e] at hQ
    exact hQ _ _ (Same.refl _) hx
theorem de_slice {lo hi : Option Expr} {p2 : Pos} {ql qh : Env → R (Option Int)} (ha : DE X E a pa) (hl : DO X E lo ql) (hh : DO X E hi qh) :
    DE X E (.Subscript a (.Slice lo hi none p2) pos) (fun ρ => (pa ρ).bind fun x => (ql ρ).bind fun l => (qh ρ).bind fun u => slD x l u) := by
  obtain ⟨t, h1, h2⟩ := ha.ex
  obtain ⟨u, g1, g2⟩ := hl.ex
  obtain ⟨w, k1, k2⟩ := hh.ex
  refine ⟨_, pe_slice sl_all h1 g1 k1, fun B F O0 H O σ ρ R => ?_⟩
  refine EvG.bind (T1 := fun x H1 Q => u σ H1 fun l H2 => w σ H2 fun h H3 => rSlG X.K x l h H3 Q) (h2 B F O0 H O σ ρ R) fun x v H1 s1 r1 => ?_
  refine EvG.bind (T1 := fun l H2 Q => w σ H2 fun h H3 => rSlG X.K v l h H3 Q) (g2 B F O0 H1 O σ ρ (R.more s1)) fun l l' H2 s2 r2 => ?_
  subst r2
  refine EvG.bind (T1 := fun h H3 Q => rSlG X.K v l' h H3 Q) (k2 B F O0 H2 O σ ρ (R.more (s1.trans s2))) fun h h' H3 s3 r3 => ?_
  subst r3
  have s13 := s1.trans (s2.trans s3)
  exact (ev_sl _ _ s13 (R.more s13).dom (Out.mono r1 (Same.refl _) (s2.trans s3))).imp fun z u H' s' o => Out.mono o s13 (Same.refl _)

/-! ### displays -/
/-- parts that may be kept: frozen -/
def keepL : List DV → Option (List D)
  | [] => some []
  | (d, .fz) :: r => (keepL r).map (d :: ·)
  | (d, .ow) :: r => (keepL r).map (d :: ·)
  | _ :: _ => none
theorem OutL.keep {K : PySem.W.Frag} {B H0 H : Hp} {O0 O : Own} : ∀ {xs : List DV} {vs : List V} {ds : List D}, OutL K B O0 H0 H O xs vs → keepL xs = some ds → RepL K (off O H) vs ds
  | [], _, ds, .nil, e => by cases e; exact .nil
  | (d, .fz) :: r, _, ds, .cons a b, e => by
    cases q : keepL r with
    | none => simp [keepL, q] at e
    | some z =>
      simp [keepL, q] at e
      subst e
      exact .cons a (OutL.keep b q)
  | (d, .ow) :: r, _, ds, .cons a b, e => by
    cases q : keepL r with
    | none => simp [keepL, q] at e
    | some z =>
      simp [keepL, q] at e
      subst e
      exact .cons a.fzD (OutL.keep b q)
  | (d, .bo) :: r, _, ds, .cons a b, e => by simp [keepL] at e
  | (d, .al) :: r, _, ds, .cons a b, e => by simp [keepL] at e
def mkTup (xs : List DV) : R DV := match keepL xs with | some ds => if ds.length ≤ sizeLine then .ok (.tup ds, .fz) else .no | none => .no
def mkLst (xs : List DV) : R DV := match keepL xs with | some ds => if ds.length ≤ sizeLine then .ok (.lst ds, .ow) else .no | none => .no
theorem de_tup {x1} (h : DA X E es pl) : DE X E (.Tuple es x1 pos) (fun ρ => (pl ρ).bind mkTup) := by
  obtain ⟨t, h1, h2⟩ := h.ex
  refine ⟨_, pe_tup h1, fun B F O0 H O σ ρ R => ?_⟩
  refine EvG.bind (T1 := fun xs H1 Q => xs.length ≤ sizeLine ∧ ∀ p, H1 p = none → Q (V.ref p) (upd H1 p (.tup xs))) (h2 B F O0 H O σ ρ R) fun x v H1 s1 r1 => ?_
  unfold mkTup
  cases q : keepL x with
  | none => trivial
  | some ds =>
    dsimp only
    split
    · rename_i z
      have rr := OutL.keep r1 q
      rw [← rr.length] at z
      exact fun Q hQ => ⟨z, ev_tup (mg := X.mg) (E := E) (B := B) (O0 := O0) (R.more s1).dom rr Q fun v' H' s' o => hQ v' H' s' (Out.mono o s1 (Same.refl _))⟩
    · trivial
theorem de_lst (h : DA X E es pl) : DE X E (.List es pos) (fun ρ => (pl ρ).bind mkLst) := by
  obtain ⟨t, h1, h2⟩ := h.ex
  refine ⟨_, pe_lst h1, fun B F O0 H O σ ρ R => ?_⟩
  refine EvG.bind (T1 := fun xs H1 Q => xs.length ≤ sizeLine ∧ ∀ p, H1 p = none → Q (V.ref p) (upd H1 p (.lst xs))) (h2 B F O0 H O σ ρ R) fun x v H1 s1 r1 => ?_
  unfold mkLst
  cases q : keepL x with
  | none => trivial
  | some ds =>
    dsimp only
    split
    · rename_i z
      have rr := OutL.keep r1 q
      rw [← rr.length] at z
      exact fun Q hQ => ⟨z, ev_lst (mg := X.mg) (E := E) (B := B) (O0 := O0) (R.more s1).dom rr Q fun v' H' s' o => hQ v' H' s' (Out.mono o s1 (Same.refl _))⟩
    · trivial
theorem de_dk : DE X E (.Dict [] [] pos) (fun _ => .ok (.dk [], .ow)) := ⟨_, pe_dnewK, fun B F O0 H O σ ρ R => ev_dk R.dom⟩
theorem de_dt : DE X E (.Dict [] [] pos) (fun _ => .ok (.dt [], .ow)) := ⟨_, pe_dnewT, fun B F O0 H O σ ρ R => ev_dt R.dom⟩

/-! ### built-ins by name -/
structure CB (X : Cx) (E : XK) (f : Value) (g : List DV → R DV) : Prop where
  ex : ∃ r, CallR X f r ∧ ∀ (B : Hp) (O0 : Own) (H0 H : Hp) (O : Own) (xs : List DV) (vs : List V), Same H0 H → (∀ a, O a → H a ≠ none) → OutL X.K B O0 H0 H O xs vs → EvG X.K X.mg O E H (g xs) (ORel X.K B O0 H O) (fun Q => r vs H Q)
abbrev dCB (g : List DV → R DV) (pl : Env → R (List DV)) : Env → R DV := fun ρ => (pl ρ).bind g
theorem de_callB {x : Str} {id : String} {g : List DV → R DV} {pp : Pos} (o : CB X E (.builtin id) g) (hg : Gl X x) (hm : X.mg x = none) (hv : bootBuiltins x = some (.builtin id)) (ha : DA X E (e :: es) pl) (hn : x ≠ "__name__" := by decide) (hdb : (x == ("__debug__" : Str)) = false := by decide)
    (he : starEach (e :: es) X.env = (false, eval e X.env) :: starEach es X.env := by rfl) (hpl : (backTo pos (starEach es X.env)).any (·.1) = false := by rfl) : DE X E (.Call (.Name x pp) (e :: es) [] pos) (dCB g pl) := by
  obtain ⟨r, c1, c2⟩ := o.ex
  obtain ⟨t, h1, h2⟩ := ha.ex
  refine ⟨_, pe_callB c1 hg hm hv h1 hn hdb he hpl, fun B F O0 H O σ ρ R => ?_⟩
  refine EvG.bind (T1 := fun vs H1 Q => r vs H1 Q) (h2 B F O0 H O σ ρ R) fun x v H1 s1 r1 => ?_
  exact (c2 B O0 H H1 O x v s1 (R.more s1).dom r1).imp fun z u H' s' o => Out.mono o s1 (Same.refl _)
theorem de_callTy {x : Str} {T : String} {g : List DV → R DV} {pp : Pos} (o : CB X E (.type T) g) (hg : Gl X x) (hm : X.mg x = none) (hv : bootBuiltins x = some (.type T)) (ha : DA X E (e :: es) pl) (hn : x ≠ "__name__" := by decide) (hdb : (x == ("__debug__" : Str)) = false := by decide)
    (he : starEach (e :: es) X.env = (false, eval e X.env) :: starEach es X.env := by rfl) (hpl : (backTo pos (starEach es X.env)).any (·.1) = false := by rfl) : DE X E (.Call (.Name x pp) (e :: es) [] pos) (dCB g pl) := by
  obtain ⟨r, c1, c2⟩ := o.ex
  obtain ⟨t, h1, h2⟩ := ha.ex
  refine ⟨_, pe_callTy c1 hg hm hv h1 hn hdb he hpl, fun B F O0 H O σ ρ R => ?_⟩
  refine EvG.bind (T1 := fun vs H1 Q => r vs H1 Q) (h2 B F O0 H O σ ρ R) fun x v H1 s1 r1 => ?_
  exact (c2 B O0 H H1 O x v s1 (R.more s1).dom r1).imp fun z u H' s' o => Out.mono o s1 (Same.refl _)
end
end FK
namespace FK
open PySem PySem.Spec L2
open PyProof.Rows hiding St

section
variable {X : Cx} {E : XK}
def one (g : DV → R DV) : List DV → R DV | [x] => g x | _ => .no
def two (g : DV → DV → R DV) : List DV → R DV | [x, y] => g x y | _ => .no
def three (g : DV → DV → DV → R DV) : List DV → R DV | [x, y, z] => g x y z | _ => .no
theorem cb1 {f : Value} {r : List V → Hp → VK → Prop} {g : DV → R DV} (hc : CallR X f r)
    (h : ∀ (B : Hp) (O0 : Own) (H0 H : Hp) (O : Own) (x : DV) (v : V), Same H0 H → (∀ a, O a → H a ≠ none) → Out X.K B O0 H0 H O v x → EvG X.K X.mg O E H (g x) (ORel X.K B O0 H O) (fun Q => r [v] H Q)) : CB X E f (one g) :=
  ⟨r, hc, fun B O0 H0 H O xs vs s d o => match xs, vs, o with
    | [], _, _ => True.intro
    | [x], _, .cons a .nil => h B O0 H0 H O x _ s d a
    | _ :: _ :: _, _, _ => True.intro⟩
theorem cb2 {f : Value} {r : List V → Hp → VK → Prop} {g : DV → DV → R DV} (hc : CallR X f r)
    (h : ∀ (B : Hp) (O0 : Own) (H0 H : Hp) (O : Own) (x y : DV) (v w : V), Same H0 H → (∀ a, O a → H a ≠ none) → Out X.K B O0 H0 H O v x → Out X.K B O0 H0 H O w y → EvG X.K X.mg O E H (g x y) (ORel X.K B O0 H O) (fun Q => r [v, w] H Q)) : CB X E f (two g) :=
  ⟨r, hc, fun B O0 H0 H O xs vs s d o => match xs, vs, o with
    | [], _, _ => True.intro
    | [_], _, _ => True.intro
    | [x, y], _, .cons a (.cons b .nil) => h B O0 H0 H O x y _ _ s d a b
    | _ :: _ :: _ :: _, _, _ => True.intro⟩
theorem CB.or {f : Value} {g g' : List DV → R DV} (h : CB X E f g) (h' : CB X E f g') : CB X E f (fun xs => match g xs with | .no => g' xs | r => r) := by
  obtain ⟨r, c, e⟩ := h.ex
  obtain ⟨r', c', e'⟩ := h'.ex
  refine ⟨_, CallR.or c c', fun B O0 H0 H O xs vs s d o => ?_⟩
  have z := e B O0 H0 H O xs vs s d o
  have z' := e' B O0 H0 H O xs vs s d o
  cases q : g xs with
  | no =>
    dsimp only
    cases q' : g' xs with
    | no => trivial
    | ex x => rw [q'] at z'; exact fun w Q => .inr (z' w Q)
    | ok x => rw [q'] at z'; exact fun Q hQ => .inr (z' Q hQ)
  | ex x => rw [q] at z; exact fun w Q => .inl (z w Q)
  | ok x => rw [q] at z; exact fun Q hQ => .inl (z Q hQ)

/-! ### len -/
def gLen (x : DV) : R DV := match x.1 with
  | .lst xs => .ok (.int xs.length, .fz)
  | .tup xs => .ok (.int xs.length, .fz)
  | .str z => if z.length ≤ sizeLine then .ok (.int z.length, .fz) else .no
  | .dk kvs => .ok (.int kvs.length, .fz)
  | _ => .no
theorem call_lenR : CallR X (.builtin "len") (fun xs H Q => ∃ a kvs, xs = [V.ref a] ∧ H a = some (.dK kvs) ∧ Q (.int kvs.length) H) := by
  intro pins s σ H xs us Q I r h
  obtain ⟨a, kvs, rfl, ha, q⟩ := h
  obtain ⟨u, rfl, ru⟩ := vals1 r
  cases ru
  exact d_len I (.inl ha) fun t s' I' => ⟨.int kvs.length, H, I', ⟨t, rfl⟩, q⟩
theorem RepK.length {K : PySem.W.Frag} {H : Hp} : ∀ {v : List (Key × V)} {d : List (Key × D)}, RepK K H v d → v.length = d.length
  | _, _, .nil => rfl
  | _, _, .cons _ b => congrArg (· + 1) (RepK.length b)
theorem cb_len : CB X E (.builtin "len") (one gLen) := cb1 (CallR.or call_len_seq (CallR.or call_len_str call_lenR)) fun B O0 H0 H O x v s dom hx => by
  obtain ⟨d, kk⟩ := x
  cases d <;> first | exact True.intro | skip
  · cases hx.str
    show EvG _ _ _ _ _ (if _ then _ else _) _ _
    split
    · exact fun Q hQ => .inr (.inl ⟨_, rfl, by assumption, hQ _ _ (Same.refl _) (show Rep _ _ _ _ from .int _)⟩)
    · trivial
  · obtain ⟨a, vs, rfl, h1, h2⟩ := hx.lst
    exact fun Q hQ => .inl ⟨a, vs, rfl, .inl h1, by rw [h2.length]; exact hQ _ _ (Same.refl _) (show Rep _ _ _ _ from .int _)⟩
  · obtain ⟨a, vs, rfl, h1, h2⟩ := hx.tup
    exact fun Q hQ => .inl ⟨a, vs, rfl, .inr h1, by rw [h2.length]; exact hQ _ _ (Same.refl _) (show Rep _ _ _ _ from .int _)⟩
  · obtain ⟨a, vs, rfl, h1, h2⟩ := hx.dk
    exact fun Q hQ => .inr (.inr ⟨a, vs, rfl, h1, by rw [h2.length]; exact hQ _ _ (Same.refl _) (show Rep _ _ _ _ from .int _)⟩)

/-! ### all, any, sum, max, min -/
def boolsD : List D → Option (List Bool)
  | [] => some []
  | .bl b :: r => (boolsD r).map (b :: ·)
  | _ => none
theorem boolsD_eq : ∀ {ds : List D} {bs : List Bool}, boolsD ds = some bs → ds = bs.map D.bl
  | [], bs, e => by cases e; rfl
  | d :: r, bs, e => by
    cases d <;> first | (cases e; done) | skip
    cases q : boolsD r with
    | none => simp [boolsD, q] at e
    | some z =>
      simp [boolsD, q] at e
      subst e
      rw [boolsD_eq q]
      rfl
theorem boolsD_map : ∀ bs : List Bool, boolsD (bs.map D.bl) = some bs
  | [] => rfl
  | b :: r => by simp [boolsD, boolsD_map r]
def intsD : List D → Option (List Int)
  | [] => some []
  | .int b :: r => (intsD r).map (b :: ·)
  | _ => none
theorem intsD_eq : ∀ {ds : List D} {bs : List Int}, intsD ds = some bs → ds = bs.map D.int
  | [], bs, e => by cases e; rfl
  | d :: r, bs, e => by
    cases d <;> first | (cases e; done) | skip
    cases q : intsD r with
    | none => simp [intsD, q] at e
    | some z =>
      simp [intsD, q] at e
      subst e
      rw [intsD_eq q]
      rfl
theorem intsD_map : ∀ bs : List Int, intsD (bs.map D.int) = some bs
  | [] => rfl
  | b :: r => by simp [intsD, intsD_map r]
def gBools (f : List Bool → Bool) (x : DV) : R DV := match x.1 with
  | .lst xs => (match boolsD xs with | some bs => .ok (.bl (f bs), .fz) | none => .no)
  | _ => .no
def gInts (f : List Int → R Int) (x : DV) : R DV := match x.1 with
  | .lst xs => (match intsD xs with | some bs => (f bs).bind fun n => .ok (.int n, .fz) | none => .no)
  | _ => .no
theorem ev_bools {f : List Bool → Bool} {r : List V → Hp → VK → Prop} (hr : ∀ H a bs (Q : VK), SqL X.K H a (bs.map V.bl) → Q (.bl (f bs)) H → r [.ref a] H Q) (B : Hp) (O0 : Own) (H0 H : Hp) (O : Own) (x : DV) (v : V) (s : Same H0 H) (dom : ∀ a, O a → H a ≠ none) (hx : Out X.K B O0 H0 H O v x) :
    EvG X.K X.mg O E H (gBools f x) (ORel X.K B O0 H O) (fun Q => r [v] H Q) := by
  obtain ⟨d, kk⟩ := x
  cases d <;> first | exact True.intro | skip
  rename_i ds
  obtain ⟨a, vs, rfl, h1, h2⟩ := hx.lst
  unfold gBools
  dsimp only
  cases q : boolsD ds with
  | none => trivial
  | some bs =>
    cases boolsD_eq q
    rw [RepL.of_bools h2] at h1
    exact fun Q hQ => hr H a bs Q h1 (hQ _ _ (Same.refl _) (show Rep _ _ _ _ from .bl _))
theorem ev_ints {f : List Int → R Int} {r : List V → Hp → VK → Prop} (hr : ∀ H a bs n (Q : VK), f bs = .ok n → SqL X.K H a (bs.map V.int) → Q (.int n) H → r [.ref a] H Q) (hn : ∀ bs e, f bs ≠ .ex e) (B : Hp) (O0 : Own) (H0 H : Hp) (O : Own) (x : DV) (v : V) (s : Same H0 H) (dom : ∀ a, O a → H a ≠ none) (hx : Out X.K B O0 H0 H O v x) :
    EvG X.K X.mg O E H (gInts f x) (ORel X.K B O0 H O) (fun Q => r [v] H Q) := by
  obtain ⟨d, kk⟩ := x
  cases d <;> first | exact True.intro | skip
  rename_i ds
  obtain ⟨a, vs, rfl, h1, h2⟩ := hx.lst
  unfold gInts
  dsimp only
  cases q : intsD ds with
  | none => trivial
  | some bs =>
    cases intsD_eq q
    rw [RepL.of_ints h2] at h1
    dsimp only
    cases q2 : f bs with
    | no => trivial
    | ex e => exact absurd q2 (hn _ _)
    | ok n => exact fun Q hQ => hr H a bs n Q q2 h1 (hQ _ _ (Same.refl _) (show Rep _ _ _ _ from .int _))
theorem cb_all (hc : X.calm = true) : CB X E (.builtin "all") (one (gBools fun bs => bs.all id)) := cb1 (cr_all hc) (ev_bools fun H a bs Q h q => ⟨a, bs, rfl, h, q⟩)
theorem cb_any (hc : X.calm = true) : CB X E (.builtin "any") (one (gBools fun bs => bs.any id)) := cb1 (cr_any hc) (ev_bools fun H a bs Q h q => ⟨a, bs, rfl, h, q⟩)
theorem cb_sum (hc : X.calm = true) : CB X E (.builtin "sum") (one (gInts fun ns => .ok ns.sum)) := cb1 (cr_sum hc) (ev_ints (fun H a bs n Q e h q => by cases e; exact ⟨a, bs, rfl, h, q⟩) fun _ _ z => nomatch z)
def maxI : List Int → Int | [] => 0 | n :: r => r.foldl max n
def minI : List Int → Int | [] => 0 | n :: r => r.foldl min n
theorem foldl_max_ge : ∀ (r : List Int) (n : Int), n ≤ r.foldl max n ∧ ∀ y ∈ r, y ≤ r.foldl max n
  | [], n => ⟨Int.le_refl _, fun y h => nomatch h⟩
  | x :: r, n => by
    obtain ⟨h1, h2⟩ := foldl_max_ge r (max n x)
    refine ⟨by show n ≤ r.foldl max (max n x); omega, fun y h => ?_⟩
    show y ≤ r.foldl max (max n x)
    rcases List.mem_cons.mp h with e | e
    · subst e; omega
    · exact h2 y e
theorem foldl_max_mem : ∀ (r : List Int) (n : Int), r.foldl max n = n ∨ r.foldl max n ∈ r
  | [], n => .inl rfl
  | x :: r, n => by
    show r.foldl max (max n x) = n ∨ r.foldl max (max n x) ∈ x :: r
    rcases foldl_max_mem r (max n x) with h | h
    · rw [h]
      by_cases c : n ≤ x
      · right; rw [show max n x = x by omega]; exact List.mem_cons_self
      · left; omega
    · exact .inr (List.mem_cons_of_mem _ h)
theorem foldl_min_le : ∀ (r : List Int) (n : Int), r.foldl min n ≤ n ∧ ∀ y ∈ r, r.foldl min n ≤ y
  | [], n => ⟨Int.le_refl _, fun y h => nomatch h⟩
  | x :: r, n => by
    obtain ⟨h1, h2⟩ := foldl_min_le r (min n x)
    refine ⟨by show r.foldl min (min n x) ≤ n; omega, fun y h => ?_⟩
    show r.foldl min (min n x) ≤ y
    rcases List.mem_cons.mp h with e | e
    · subst e; omega
    · exact h2 y e
theorem foldl_min_mem : ∀ (r : List Int) (n : Int), r.foldl min n = n ∨ r.foldl min n ∈ r
  | [], n => .inl rfl
  | x :: r, n => by
    show r.foldl min (min n x) = n ∨ r.foldl min (min n x) ∈ x :: r
    rcases foldl_min_mem r (min n x) with h | h
    · rw [h]
      by_cases c : x ≤ n
      · right; rw [show min n x = x by omega]; exact List.mem_cons_self
      · left; omega
    · exact .inr (List.mem_cons_of_mem _ h)
def fMaxL (ns : List Int) : R Int := if ns = [] then .no else .ok (maxI ns)
def fMinL (ns : List Int) : R Int := if ns = [] then .no else .ok (minI ns)
theorem cb_max1 (hc : X.calm = true) : CB X E (.builtin "max") (one (gInts fMaxL)) := cb1 (cr_max hc) (ev_ints (fun H a bs n Q e h q => by
  unfold fMaxL at e
  split at e
  · cases e
  · cases e
    cases bs with
    | nil => rename_i c; exact absurd rfl c
    | cons z r =>
      refine ⟨a, z :: r, rfl, h, Nat.zero_lt_succ _, fun m hm hle => ?_⟩
      have h1 : maxI (z :: r) ∈ z :: r := by
        rcases foldl_max_mem r z with e | e
        · show r.foldl max z ∈ z :: r; rw [e]; exact List.mem_cons_self
        · exact List.mem_cons_of_mem _ e
      have h2 : m ≤ maxI (z :: r) := by
        obtain ⟨g1, g2⟩ := foldl_max_ge r z
        rcases List.mem_cons.mp hm with e | e
        · rw [e]; exact g1
        · exact g2 m e
      have e : m = maxI (z :: r) := Int.le_antisymm h2 (hle _ h1)
      rw [e]
      exact q) fun _ _ z => by unfold fMaxL at z; split at z <;> cases z)
theorem cb_min1 (hc : X.calm = true) : CB X E (.builtin "min") (one (gInts fMinL)) := cb1 (cr_min hc) (ev_ints (fun H a bs n Q e h q => by
  unfold fMinL at e
  split at e
  · cases e
  · cases e
    cases bs with
    | nil => rename_i c; exact absurd rfl c
    | cons z r =>
      refine ⟨a, z :: r, rfl, h, Nat.zero_lt_succ _, fun m hm hle => ?_⟩
      have h1 : minI (z :: r) ∈ z :: r := by
        rcases foldl_min_mem r z with e | e
        · show r.foldl min z ∈ z :: r; rw [e]; exact List.mem_cons_self
        · exact List.mem_cons_of_mem _ e
      have h2 : minI (z :: r) ≤ m := by
        obtain ⟨g1, g2⟩ := foldl_min_le r z
        rcases List.mem_cons.mp hm with e | e
        · rw [e]; exact g1
        · exact g2 m e
      have e : m = minI (z :: r) := Int.le_antisymm (hle _ h1) h2
      rw [e]
      exact q) fun _ _ z => by unfold fMinL at z; split at z <;> cases z)
def gI2 (f : Int → Int → Int) (x y : DV) : R DV := match x.1, y.1 with | .int i, .int j => .ok (.int (f i j), .fz) | _, _ => .no
theorem ev_i2 {f : Int → Int → Int} {r : List V → Hp → VK → Prop} (hr : ∀ H i j (Q : VK), Q (.int (f i j)) H → r [.int i, .int j] H Q) (B : Hp) (O0 : Own) (H0 H : Hp) (O : Own) (x y : DV) (v w : V) (s : Same H0 H) (dom : ∀ a, O a → H a ≠ none) (hx : Out X.K B O0 H0 H O v x) (hy : Out X.K B O0 H0 H O w y) :
    EvG X.K X.mg O E H (gI2 f x y) (ORel X.K B O0 H O) (fun Q => r [v, w] H Q) := by
  obtain ⟨d, kk⟩ := x
  obtain ⟨d2, k2⟩ := y
  cases d <;> cases d2 <;> first | exact True.intro | skip
  cases hx.int
  cases hy.int
  exact fun Q hQ => hr _ _ _ _ (hQ _ _ (Same.refl _) (show Rep _ _ _ _ from .int _))
theorem cb_max2 (hc : X.calm = true) : CB X E (.builtin "max") (two (gI2 fun i j => if j > i then j else i)) := cb2 (call_max2 hc) (ev_i2 (r := fun xs H Q => ∃ i j, xs = [.int i, .int j] ∧ Q (.int (if j > i then j else i)) H) fun H i j Q q => ⟨i, j, rfl, q⟩)
theorem cb_min2 (hc : X.calm = true) : CB X E (.builtin "min") (two (gI2 fun i j => if j < i then j else i)) := cb2 (call_min2 hc) (ev_i2 (r := fun xs H Q => ∃ i j, xs = [.int i, .int j] ∧ Q (.int (if j < i then j else i)) H) fun H i j Q q => ⟨i, j, rfl, q⟩)
def gI1 (f : Int → Int) (x : DV) : R DV := match x.1 with | .int i => .ok (.int (f i), .fz) | _ => .no
theorem cb_abs : CB X E (.builtin "abs") (one (gI1 fun i => if i < 0 then -i else i)) := cb1 call_abs fun B O0 H0 H O x v s dom hx => by
  obtain ⟨d, kk⟩ := x
  cases d <;> first | exact True.intro | skip
  cases hx.int
  exact fun Q hQ => ⟨_, rfl, hQ _ _ (Same.refl _) (show Rep _ _ _ _ from .int _)⟩
def gInt (x : DV) : R DV := match x.1 with | .int i => .ok (.int i, .fz) | .bl b => .ok (.int (if b then 1 else 0), .fz) | _ => .no
theorem cb_int : CB X E (.type "int") (one gInt) := cb1 call_int1 fun B O0 H0 H O x v s dom hx => by
  obtain ⟨d, kk⟩ := x
  cases d <;> first | exact True.intro | skip
  · cases hx.bl
    exact fun Q hQ => .inr ⟨_, rfl, hQ _ _ (Same.refl _) (show Rep _ _ _ _ from .int _)⟩
  · cases hx.int
    exact fun Q hQ => .inl ⟨_, rfl, hQ _ _ (Same.refl _) (show Rep _ _ _ _ from .int _)⟩
def gList (x : DV) : R DV := match x.1 with | .lst xs => .ok (.lst xs, .ow) | .tup xs => .ok (.lst xs, .ow) | _ => .no
theorem cb_list : CB X E (.type "list") (one gList) := cb1 call_list_of fun B O0 H0 H O x v s dom hx => by
  obtain ⟨d, kk⟩ := x
  cases d <;> first | exact True.intro | skip
  · obtain ⟨a, vs, rfl, h1, h2⟩ := hx.lst
    exact fun Q hQ => ⟨a, vs, rfl, .inl h1, ev_lst (mg := X.mg) (E := E) dom h2 Q hQ⟩
  · obtain ⟨a, vs, rfl, h1, h2⟩ := hx.tup
    exact fun Q hQ => ⟨a, vs, rfl, .inr h1, ev_lst (mg := X.mg) (E := E) dom h2 Q hQ⟩
def gTuple (x : DV) : R DV := match x with | (.lst xs, _) => .ok (.tup xs, .fz) | (.tup xs, .fz) => .ok (.tup xs, .fz) | _ => .no
theorem cb_tuple : CB X E (.type "tuple") (one gTuple) := cb1 call_tuple_of fun B O0 H0 H O x v s dom hx => by
  obtain ⟨d, kk⟩ := x
  cases d <;> first | exact True.intro | skip
  · obtain ⟨a, vs, rfl, h1, h2⟩ := hx.lst
    exact fun Q hQ => ⟨a, vs, rfl, .inl ⟨h1, ev_tup (mg := X.mg) (E := E) dom h2 Q hQ⟩⟩
  · cases kk <;> first | exact True.intro | skip
    obtain ⟨a, vs, rfl, h1, h2⟩ := hx.tup
    exact fun Q hQ => ⟨a, vs, rfl, .inr ⟨h1, hQ _ _ (Same.refl _) hx⟩⟩

/-! ### isinstance -/
def tyName : D → Option String
  | .non => some "NoneType" | .bl _ => some "bool" | .int _ => some "int" | .str _ => some "str" | .lst _ => some "list" | .tup _ => some "tuple" | .dk _ => some "dict" | .dt _ => some "dict"
def isTy (T : String) (d : D) : R DV := match tyName d with
  | some t => (match kitB t T with | some b => .ok (.bl b, .fz) | none => .no)
  | none => .no
theorem sqL_ty {K : PySem.W.Frag} {H : Hp} {a : Addr} {vs : List V} (h : SqL K H a vs) : TyX K H (.ref a) (.type "list") := by
  rcases h with (h | ⟨o, h⟩) | ⟨o, its, n, h, hc, _⟩
  · exact .base (.lst h)
  · exact .base (.frz h)
  · exact .kList h hc
theorem sqT_ty {K : PySem.W.Frag} {H : Hp} {a : Addr} {vs : List V} (h : SqT K H a vs) : TyX K H (.ref a) (.type "tuple") := by
  rcases h with (h | ⟨o, h⟩) | ⟨o, its, n, h, hc, _⟩
  · exact .base (.tup h)
  · exact .fTuple h
  · exact .kTuple h hc
theorem out_ty {K : PySem.W.Frag} {B H0 H : Hp} {O0 O : Own} {x : DV} {v : V} {t : String} (h : tyName x.1 = some t) (hx : Out K B O0 H0 H O v x) : TyX K H v (.type t) := by
  obtain ⟨d, kk⟩ := x
  cases d <;> first | (cases h; done) | skip
  · cases h; cases hx.non; exact .base .non
  · cases h; cases hx.bl; exact .base (.bl _)
  · cases h; cases hx.int; exact .base (.int _)
  · cases h; cases hx.str; exact .base (.str _)
  · cases h
    obtain ⟨a, vs, rfl, h1, h2⟩ := hx.lst
    exact sqL_ty h1
  · cases h
    obtain ⟨a, vs, rfl, h1, h2⟩ := hx.tup
    exact sqT_ty h1
  · cases h
    obtain ⟨a, vs, rfl, h1, h2⟩ := hx.dk
    exact .base (.dK h1)
  · cases h
    obtain ⟨a, vs, rfl, h1, h2⟩ := hx.dt
    exact .base (.dT h1)
theorem pe_type {x : Str} {T : String} {pos : Pos} (hg : Gl X x) (hm : X.mg x = none) (hv : bootBuiltins x = some (.type T)) (hn : x ≠ "__name__" := by decide) (hd : (x == ("__debug__" : Str)) = false := by decide) : PE X (.Name x pos) (tC (.ty T)) := pe_bltn hg hm hv rfl hn hd
theorem de_isinst {x : Str} {T : String} {e : Expr} {p : Env → R DV} {p1 p2 pos : Pos} (hI : Gl X "isinstance") (hmI : X.mg "isinstance" = none) (ha : DE X E e p) (hg : Gl X x) (hm : X.mg x = none) (hv : bootBuiltins x = some (.type T)) (hn : x ≠ "__name__" := by decide) (hd : (x == ("__debug__" : Str)) = false := by decide)
    (h1 : starEach [e, .Name x p2] X.env = (false, eval e X.env) :: starEach [.Name x p2] X.env := by rfl) (h2 : starEach [.Name x p2] X.env = (false, eval (.Name x p2) X.env) :: starEach [] X.env := by rfl) (hpl : (backTo pos (starEach [.Name x p2] X.env)).any (·.1) = false := by rfl) :
    DE X E (.Call (.Name "isinstance" p1) [e, .Name x p2] [] pos) (fun ρ => (p ρ).bind fun d => isTy T d.1) := by
  obtain ⟨t, a1, a2⟩ := ha.ex
  refine ⟨_, pe_callB call_isi hI hmI (by decide +kernel) (pa_cons a1 (pa_cons (pe_type hg hm hv hn hd) pa_nil h2) h1) (by decide) (by decide) h1 hpl, fun B F O0 H O σ ρ R => ?_⟩
  refine EvG.bind (T1 := fun v H1 Q => rIsi X.K [v, .ty T] H1 Q) (a2 B F O0 H O σ ρ R) fun x v H1 s1 r1 => ?_
  unfold isTy
  cases q : tyName x.1 with
  | none => trivial
  | some t =>
    dsimp only
    cases q2 : kitB t T with
    | none => trivial
    | some b => exact fun Q hQ => ⟨v, .ty T, _, _, b, rfl, .ty T, out_ty q r1, kit_ty q2, hQ _ _ (Same.refl _) (show Rep _ _ _ _ from .bl _)⟩
end
end FK
namespace FK
open PySem PySem.Spec L2
open PyProof.Rows hiding St

/-! ### what a def promises -/
def ArgOk (K : PySem.W.Frag) (H : Hp) (O : Own) (v : V) (x : DV) : Prop := match x.2 with
  | .fz => Rep K (off O H) v x.1
  | .bo => ∃ a, v = .ref a ∧ BorC K H O a x.1
  | _ => False
inductive ArgsOk (K : PySem.W.Frag) (H : Hp) (O : Own) : List V → List DV → Prop
  | nil : ArgsOk K H O [] []
  | cons {v : V} {vs : List V} {x : DV} {xs : List DV} : ArgOk K H O v x → ArgsOk K H O vs xs → ArgsOk K H O (v :: vs) (x :: xs)
def RetOk (K : PySem.W.Frag) (B : Hp) (O0 : Own) (H : Hp) (v : V) (x : DV) : Prop := match x.2 with
  | .fz => Rep K (off O0 H) v x.1
  | .ow => ∃ a, v = .ref a ∧ B a = none ∧ OwnC K H (plus O0 a) a x.1
  | _ => False
def Ends1 (K : PySem.W.Frag) (mg : Str → Option Value) (O : Own) (H : Hp) (Q : VK) (E : XK) : R DV → Prop
  | .ok x => ∀ v H', Same H H' → RetOk K H O H' v x → Q v H'
  | .ex e => XOk K mg O E H e
  | .no => False
def spD (K : PySem.W.Frag) (mg : Str → Option Value) (n : Nat) (m : List DV → R DV) : Sp := fun vs H Q E =>
  vs.length = n ∧ ∃ (O : Own) (as : List DV), (∀ a, O a → H a ≠ none ∧ ∀ xs, H a ≠ some (.tup xs)) ∧ ArgsOk K H O vs as ∧ Ends1 K mg O H Q E (m as)
/-- a def of the program, called by its name -/
structure CallOk (P : Program) (w : World) (K : PySem.W.Frag) (mg : Str → Option Value) (base : Heap) (x : Str) (k n : Nat) (m : List DV → R DV) : Prop where
  ex : ∃ (f : Addr) (fd : FuncData) (ps : List Str), mg x = some (.ref f) ∧ FnOk P w K mg base (L2.CX P w) k f fd ps (spD K mg n m) ∧ PySem.W.keepIn K (.ref f) = true ∧ Binds K fd ps []
def argK : Kd → Kd | .fz => .fz | .ow => .fz | .bo => .bo | .al => .bo
def argD (x : DV) : DV := (x.1, argK x.2)
section
variable {K : PySem.W.Frag} {B H0 H : Hp} {O0 O : Own}
theorem Out.arg {v : V} {x : DV} (h : Out K B O0 H0 H O v x) : ArgOk K H O v (argD x) := by
  obtain ⟨d, k⟩ := x
  cases k with
  | fz => exact h
  | ow =>
    obtain ⟨a, e, _, n, c⟩ := h
    subst e
    exact c.frozen n
  | bo => obtain ⟨a, e, _, c⟩ := h; exact ⟨a, e, c⟩
  | al => obtain ⟨a, e, c⟩ := h; exact ⟨a, e, c⟩
theorem OutL.args : ∀ {xs : List DV} {vs : List V}, OutL K B O0 H0 H O xs vs → ArgsOk K H O vs (xs.map argD)
  | _, _, .nil => .nil
  | _, _, .cons a b => .cons a.arg (OutL.args b)
theorem ArgsOk.length : ∀ {vs : List V} {xs : List DV}, ArgsOk K H O vs xs → vs.length = xs.length
  | _, _, .nil => rfl
  | _, _, .cons _ b => congrArg (· + 1) (ArgsOk.length b)
end
section
variable {X : Cx} {E : XK} {e a b : Expr} {es : List Expr} {p pa pb : Env → R DV} {pl : Env → R (List DV)} {pos pp : Pos} {k n : Nat} {x : Str} {m : List DV → R DV}
abbrev dCall (n : Nat) (m : List DV → R DV) (pl : Env → R (List DV)) : Env → R DV := fun ρ => (pl ρ).bind fun xs => if xs.length = n then m (xs.map argD) else .no
theorem de_call (c : CallOk X.prog X.w X.K X.mg X.base x k n m) (hr : Room k X.A) (hg : Gl X x) (hx : Passes (L2.CX X.prog X.w) X E) (ha : DA X E (e :: es) pl) (hdb : (x == ("__debug__" : Str)) = false := by decide)
    (he : starEach (e :: es) X.env = (false, eval e X.env) :: starEach es X.env := by rfl) (hpl : (backTo pos (starEach es X.env)).any (·.1) = false := by rfl) : DE X E (.Call (.Name x pp) (e :: es) [] pos) (dCall n m pl) := by
  obtain ⟨f, fd, ps, hm, F, hk, hb⟩ := c.ex
  obtain ⟨t, h1, h2⟩ := ha.ex
  refine ⟨_, pe_call F hr hg hm hk hb .nil hx h1 hdb he hpl, fun B F' O0 H O σ ρ R => ?_⟩
  refine EvG.bind (T1 := fun vs H1 Q => spD X.K X.mg n m (vs ++ []) H1 Q E) (h2 B F' O0 H O σ ρ R) fun xs vs H1 s1 r1 => ?_
  split
  · rename_i hl
    have hlen : vs.length = n := by rw [(OutL.args r1).length, List.length_map]; exact hl
    have dom := (R.more s1).dom
    have dom2 : ∀ a, O a → H1 a ≠ none ∧ ∀ xs, H1 a ≠ some (.tup xs) := fun a z => ⟨dom a z, fun xs => (R.more s1).nt a xs z⟩
    cases q : m (xs.map argD) with
    | no => trivial
    | ex z => exact fun w Q => ⟨by rw [List.append_nil]; exact hlen, O, _, dom2, by rw [List.append_nil]; exact OutL.args r1, by rw [q]; exact w⟩
    | ok y =>
      refine fun Q hQ => ⟨by rw [List.append_nil]; exact hlen, O, _, dom2, by rw [List.append_nil]; exact OutL.args r1, by
        rw [q]
        intro v H' s' ro
        refine hQ v H' s' ?_
        obtain ⟨d, kk⟩ := y
        cases kk with
        | fz => exact ro
        | ow =>
          obtain ⟨z, ez, nz, cz⟩ := ro
          exact ⟨z, ez, s1.free nz, fun oz => dom z oz nz, cz⟩
        | bo => exact ro.elim
        | al => exact ro.elim⟩
  · trivial
end

/-! ### statements -/
inductive SO where | nx (ρ : Env) | rt (x : DV) | bk (ρ : Env) | ct (ρ : Env) | ex (e : Exn) | no
def EndsOk (K : PySem.W.Frag) (mg : Str → Option Value) (B F : Hp) (O0 : Own) (D : Ends) (E : XK) : SO → Prop
  | .nx ρ => ∀ σ H O, SR K B F O0 H O σ ρ → D.nx σ H
  | .rt x => ∀ v H, Same B H → RetOk K B O0 H v x → D.rt v H
  | .bk ρ => ∀ σ H O, SR K B F O0 H O σ ρ → D.bk σ H
  | .ct ρ => ∀ σ H O, SR K B F O0 H O σ ρ → D.ct σ H
  | .ex e => XOk K mg O0 E B e
  | .no => False
structure DS (X : Cx) (E : XK) (st : Stmt) (m : Env → SO) : Prop where
  ex : ∃ t, PS X st t ∧ ∀ (B F : Hp) (O0 : Own) (H : Hp) (O : Own) (σ : L2.St) (ρ : Env) (D : Ends), SR X.K B F O0 H O σ ρ → EndsOk X.K X.mg B F O0 D E (m ρ) → t D σ H
structure DSs (X : Cx) (E : XK) (st : List Stmt) (m : Env → SO) : Prop where
  ex : ∃ t, PSs X st t ∧ ∀ (B F : Hp) (O0 : Own) (H : Hp) (O : Own) (σ : L2.St) (ρ : Env) (D : Ends), SR X.K B F O0 H O σ ρ → EndsOk X.K X.mg B F O0 D E (m ρ) → t D σ H
def SO.seq (r : SO) (f : Env → SO) : SO := match r with | .nx ρ => f ρ | r => r
@[simp] theorem SO.seq_nx (ρ : Env) (f : Env → SO) : (SO.nx ρ).seq f = f ρ := Eq.trans rfl rfl
@[simp] theorem SO.seq_rt (x : DV) (f : Env → SO) : (SO.rt x).seq f = .rt x := Eq.trans rfl rfl
@[simp] theorem SO.seq_bk (x : Env) (f : Env → SO) : (SO.bk x).seq f = .bk x := Eq.trans rfl rfl
@[simp] theorem SO.seq_ct (x : Env) (f : Env → SO) : (SO.ct x).seq f = .ct x := Eq.trans rfl rfl
@[simp] theorem SO.seq_ex (x : Exn) (f : Env → SO) : (SO.ex x).seq f = .ex x := Eq.trans rfl rfl
@[simp] theorem SO.seq_no (f : Env → SO) : (SO.no).seq f = .no := Eq.trans rfl rfl
def R.st {α : Type} (r : R α) (f : α → SO) : SO := match r with | .ok x => f x | .ex e => .ex e | .no => .no
@[simp] theorem R.st_ok {α : Type} (a : α) (f : α → SO) : (R.ok a).st f = f a := Eq.trans rfl rfl
@[simp] theorem R.st_ex {α : Type} (e : Exn) (f : α → SO) : (R.ex e : R α).st f = .ex e := Eq.trans rfl rfl
@[simp] theorem R.st_no {α : Type} (f : α → SO) : (R.no : R α).st f = .no := Eq.trans rfl rfl

section
variable {X : Cx} {E : XK} {e a b c : Expr} {st : Stmt} {rest s1 s2 : List Stmt} {p pa pb : Env → R DV} {pt : Env → R Bool} {m m1 m2 : Env → SO} {pos : Pos} {k i : Nat}
theorem dss_nil : DSs X E [] (fun ρ => .nx ρ) := ⟨_, pss_nil, fun B F O0 H O σ ρ D R h => h σ H O R⟩
theorem dss_cons (h1 : DS X E st m1) (h2 : DSs X E rest m2) : DSs X E (st :: rest) (fun ρ => (m1 ρ).seq m2) := by
  obtain ⟨t, a1, a2⟩ := h1.ex
  obtain ⟨u, b1, b2⟩ := h2.ex
  refine ⟨_, pss_cons a1 b1, fun B F O0 H O σ ρ D R h => a2 B F O0 H O σ ρ { D with nx := u D } R ?_⟩
  cases q : m1 ρ with
  | nx ρ' => rw [q] at h; exact fun σ' H' O' R' => b2 B F O0 H' O' σ' ρ' D R' h
  | rt x => rw [q] at h; exact h
  | bk x => rw [q] at h; exact h
  | ct x => rw [q] at h; exact h
  | ex x => rw [q] at h; exact h
  | no => rw [q] at h; exact h
theorem dss_one (h1 : DS X E st m) : DSs X E [st] m := let ⟨t, a, b⟩ := h1.ex; ⟨t, pss_one a, b⟩
/-- an expression, then a statement's doing -/
theorem ev_st {B F H : Hp} {O0 O : Own} {D : Ends} {α β : Type} {r : R α} {rel : α → β → Hp → Prop} {T : (β → Hp → Prop) → Prop} {f : α → SO} {Q : β → Hp → Prop} (hb : Same B H) (sub : ∀ b, O0 b → O b)
    (he : EvG X.K X.mg O E H r rel T) (h : EndsOk X.K X.mg B F O0 D E (r.st f)) (hq : ∀ x v H1, r = .ok x → Same H H1 → rel x v H1 → EndsOk X.K X.mg B F O0 D E (f x) → Q v H1) : T Q := by
  cases r with
  | no => exact h.elim
  | ex e => exact he ((XOk.mono h hb).sub sub) Q
  | ok x => exact he Q fun v H1 s1 r1 => hq x v H1 rfl s1 r1 h
theorem ds_if (hc : DT X E c pt) (h1 : DSs X E s1 m1) (h2 : DSs X E s2 m2) : DS X E (.If c s1 s2 pos) (fun ρ => (pt ρ).st fun b => if b then m1 ρ else m2 ρ) := by
  obtain ⟨t, a1, a2⟩ := hc.ex
  obtain ⟨u, b1, b2⟩ := h1.ex
  obtain ⟨w, c1, c2⟩ := h2.ex
  refine ⟨_, ps_if a1 b1 c1, fun B F O0 H O σ ρ D R h => ?_⟩
  refine ev_st (Q := fun b H1 => if b = true then u D σ H1 else w D σ H1) R.base R.sub (a2 B F O0 H O σ ρ R) h fun x v H1 ex s1 r1 h1 => ?_
  cases r1
  cases x with
  | true => exact b2 B F O0 H1 O σ ρ D (R.more s1) h1
  | false => exact c2 B F O0 H1 O σ ρ D (R.more s1) h1
def retD (x : DV) : SO := match x.2 with | .fz => .rt x | .ow => .rt x | _ => .no
theorem ds_ret (h : DE X E e p) : DS X E (.Return (some e) pos) (fun ρ => (p ρ).st retD) := by
  obtain ⟨t, a1, a2⟩ := h.ex
  refine ⟨_, ps_ret a1, fun B F O0 H O σ ρ D R h => ?_⟩
  refine ev_st (Q := D.rt) R.base R.sub (a2 B F O0 H O σ ρ R) h fun x v H1 ex s1 r1 h1 => ?_
  obtain ⟨d, kk⟩ := x
  have R1 := R.more s1
  cases kk with
  | fz => exact h1 v H1 R1.base (show Rep _ _ _ _ from Rep.mono (off_anti R.sub) r1)
  | ow =>
    obtain ⟨a, ea, na, oa, c⟩ := r1
    exact h1 v H1 R1.base ⟨a, ea, R.base.free na, c.mono (fun _ z => z) (off_anti fun b z => z.elim (fun z => .inl (R.sub b z)) .inr)⟩
  | bo => exact h1.elim
  | al => exact h1.elim
theorem ds_retN : DS X E (.Return none pos) (fun _ => .rt (.non, .fz)) := ⟨_, ps_retN, fun B F O0 H O σ ρ D R h => h _ _ R.base (show Rep _ _ _ _ from .non)⟩
/-- return of a local's own list: it moves out -/
def retV (i : Nat) (ρ : Env) : SO := match ρ[i]? with | some (some (d, .fz)) => .rt (d, .fz) | some (some (d, .ow)) => .rt (d, .ow) | _ => .no
theorem ds_retV (i : Nat) {x : Str} {p2 : Pos} (h : PE X (.Name x p2) (tVar i)) : DS X E (.Return (some (.Name x p2)) pos) (retV i) := by
  refine ⟨_, ps_ret h, fun B F O0 H O σ ρ D R h => ?_⟩
  unfold retV at h
  cases q : ρ[i]? with
  | none => rw [q] at h; exact h.elim
  | some o =>
    cases o with
    | none => rw [q] at h; exact h.elim
    | some y =>
      obtain ⟨v, h1, h2⟩ := R.slot i y q
      rw [q] at h
      obtain ⟨d, kk⟩ := y
      cases kk with
      | fz => exact ⟨v, h1, h v H R.base (show Rep _ _ _ _ from Rep.mono (off_anti R.sub) h2)⟩
      | ow =>
        obtain ⟨a, ea, oa, na, c⟩ := h2
        exact ⟨v, h1, h v H R.base ⟨a, ea, na, c.mono (fun _ z => z) (off_anti fun b z => z.elim (fun z => R.sub b z) fun e => by rw [e]; exact oa)⟩⟩
      | bo => exact h.elim
      | al => exact h.elim
theorem ds_pass : DS X E (.Pass pos) (fun ρ => .nx ρ) := ⟨_, ps_pass, fun B F O0 H O σ ρ D R h => h σ H O R⟩
theorem ds_break : DS X E (.Break pos) (fun ρ => .bk ρ) := ⟨_, ps_break, fun B F O0 H O σ ρ D R h => h σ H O R⟩
theorem ds_cont : DS X E (.Continue pos) (fun ρ => .ct ρ) := ⟨_, ps_continue, fun B F O0 H O σ ρ D R h => h σ H O R⟩
theorem ds_never : DS X E st (fun _ => .no) := ⟨_, ps_never, fun B F O0 H O σ ρ D R h => h⟩
theorem ds_expr (he : DE X E e p) (hs : swapsWith e none pos.line X.env = pure false := by rfl) : DS X E (.Expr e pos) (fun ρ => (p ρ).st fun _ => .nx ρ) := by
  obtain ⟨t, a1, a2⟩ := he.ex
  refine ⟨_, ps_expr a1 hs, fun B F O0 H O σ ρ D R h => ?_⟩
  exact ev_st (Q := fun _ H1 => D.nx σ H1) R.base R.sub (a2 B F O0 H O σ ρ R) h fun x v H1 ex s1 r1 h1 => h1 σ H1 O (R.more s1)
end

/-! ### slots changed -/
section
variable {K : PySem.W.Frag} {B F H H' : Hp} {O0 O : Own} {σ : L2.St} {ρ : Env}
/-- a new object is owned from now on -/
theorem SR.grow {a : Addr} (R : SR K B F O0 H O σ ρ) (s : Same H H') (n : H a = none) (n' : H' a ≠ none) (n2 : ∀ xs, H' a ≠ some (.tup xs)) : SR K B F O0 H' (plus O a) σ ρ where
  nt := fun b xs z => z.elim (fun z => (R.more s).nt b xs z) fun e => by rw [e]; exact n2 xs
  len := R.len
  base := R.base.trans s
  frz := R.frz.trans ((off_plus_new n).trans (off_mono s))
  fb := R.fb.trans ((off_plus_new n).trans (off_mono s))
  dom := fun b z => z.elim (fun z e => R.dom b z (s.free e)) fun e => by rw [e]; exact n'
  dom0 := R.dom0
  sub := fun b z => .inl (R.sub b z)
  slot := fun i x e => by
    have f : Same (off O H) (off (plus O a) H') := (off_plus_new n).trans (off_mono s)
    obtain ⟨v, h1, h2⟩ := R.slot i x e
    refine ⟨v, h1, ?_⟩
    obtain ⟨d, k⟩ := x
    cases k with
    | fz => exact Rep.mono f h2
    | ow =>
      obtain ⟨b, eb, ob, nb, c⟩ := h2
      exact ⟨b, eb, .inl ob, nb, c.mono (fun o => s _ _) f⟩
    | bo => exact h2
    | al => exact h2
  sep := R.sep
/-- a slot is stored -/
theorem SR.set {i : Nat} {v : V} {x : DV} (R : SR K B F O0 H O σ ρ) (h : SlotOk K B O0 H O v x)
    (sp : x.2 = .ow → ∀ (j : Nat) (y : DV) (a : Addr), j ≠ i → ρ[j]? = some (some y) → y.2 = .ow → v = .ref a → σ[j]? = some (some (.ref a)) → False) : SR K B F O0 H O (σ.set i (some v)) (ρ.set i (some x)) where
  nt := R.nt
  len := by rw [List.length_set, List.length_set]; exact R.len
  base := R.base
  frz := R.frz
  fb := R.fb
  dom := R.dom
  dom0 := R.dom0
  sub := R.sub
  slot := fun j y e => by
    by_cases c : j = i
    · subst c
      by_cases hl : j < ρ.length
      · rw [List.getElem?_set_self hl] at e
        cases e
        exact ⟨v, by rw [List.getElem?_set_self (by rw [R.len]; exact hl)], h⟩
      · rw [List.getElem?_eq_none (by rw [List.length_set]; omega)] at e
        cases e
    · rw [List.getElem?_set_ne (Ne.symm c)] at e ⊢
      exact R.slot j y e
  sep := fun j l y z a hjl e1 k1 e2 k2 g1 g2 => by
    by_cases c1 : j = i
    · subst c1
      have hl : j < ρ.length := by
        by_cases hl : j < ρ.length
        · exact hl
        · rw [List.getElem?_eq_none (by rw [List.length_set]; omega)] at e1; cases e1
      rw [List.getElem?_set_self hl] at e1
      cases e1
      rw [List.getElem?_set_self (by rw [R.len]; exact hl)] at g1
      rw [List.getElem?_set_ne hjl] at e2 g2
      cases g1
      exact sp k1 l z a (Ne.symm hjl) e2 k2 rfl g2
    · by_cases c2 : l = i
      · subst c2
        have hl : l < ρ.length := by
          by_cases hl : l < ρ.length
          · exact hl
          · rw [List.getElem?_eq_none (by rw [List.length_set]; omega)] at e2; cases e2
        rw [List.getElem?_set_self hl] at e2
        cases e2
        rw [List.getElem?_set_self (by rw [R.len]; exact hl)] at g2
        rw [List.getElem?_set_ne (Ne.symm hjl)] at e1 g1
        cases g2
        exact sp k2 j y a hjl e1 k1 rfl g1
      · rw [List.getElem?_set_ne (Ne.symm c1)] at e1 g1
        rw [List.getElem?_set_ne (Ne.symm c2)] at e2 g2
        exact R.sep j l y z a hjl e1 k1 e2 k2 g1 g2
/-- what an expression gave goes into a slot -/
def slotK : DV → Option DV | (d, .fz) => some (d, .fz) | (d, .ow) => some (d, .ow) | (d, .bo) => some (d, .bo) | (_, .al) => none
theorem SR.store {i : Nat} {v : V} {x y : DV} (R : SR K B F O0 H O σ ρ) (s : Same H H') (h : Out K B O0 H H' O v x) (e : slotK x = some y) : ∃ O', SR K B F O0 H' O' (σ.set i (some v)) (ρ.set i (some y)) := by
  obtain ⟨d, k⟩ := x
  cases k with
  | fz =>
    cases e
    exact ⟨O, (R.more s).set h fun z => nomatch z⟩
  | bo =>
    cases e
    obtain ⟨a, ea, c, _⟩ := h
    exact ⟨O, (R.more s).set ⟨a, ea, c⟩ fun z => nomatch z⟩
  | al => cases e
  | ow =>
    cases e
    obtain ⟨a, ea, na, oa, c⟩ := h
    subst ea
    refine ⟨plus O a, (R.grow s na c.some (ownC_nt c)).set ⟨a, rfl, .inr rfl, R.base.free na, c⟩ fun _ j y b hj ey ky ev es => ?_⟩
    cases ev
    obtain ⟨w, h1, h2⟩ := R.slot j y ey
    rw [es] at h1
    cases h1
    obtain ⟨d2, k2⟩ := y
    cases (show k2 = .ow from ky)
    obtain ⟨b, eb, ob, _, _⟩ := h2
    cases eb
    exact oa ob
/-- a slot's own object is written -/
theorem SR.write {i : Nat} {a : Addr} {d d' : D} {o : HO} (R : SR K B F O0 H O σ ρ) (e : ρ[i]? = some (some (d, .ow))) (ea : σ[i]? = some (some (.ref a))) (c : OwnC K (upd H a o) O a d') : SR K B F O0 (upd H a o) O σ (ρ.set i (some (d', .ow))) := by
  obtain ⟨v, h1, h2⟩ := R.slot i _ e
  rw [ea] at h1
  cases h1
  obtain ⟨b, eb, ob, nb, _⟩ := h2
  cases eb
  have ne : ∀ {b : Addr} {o : HO}, B b = some o → b ≠ a := fun h z => by rw [z, nb] at h; cases h
  have R1 : SR K B F O0 (upd H a o) O σ ρ → True := fun _ => trivial
  have hi : i < ρ.length := by
    by_cases hl : i < ρ.length
    · exact hl
    · rw [List.getElem?_eq_none (by omega)] at e; cases e
  refine ⟨by rw [List.length_set]; exact R.len, fun b x h => ?_, ?_, ?_, fun b z => ?_, R.dom0, R.sub, fun j y ej => ?_, fun j l y z w hjl e1 k1 e2 k2 g1 g2 => ?_, fun b xs ob => ?_⟩
  · rw [upd_ne (ne h)]; exact R.base b x h
  · rw [off_upd ob]; exact R.frz
  · rw [off_upd ob]; exact R.fb
  · by_cases q : b = a
    · subst q; rw [upd_same]; exact fun z => nomatch z
    · rw [upd_ne q]; exact R.dom b z
  · by_cases q : j = i
    · subst q
      rw [List.getElem?_set_self hi] at ej
      cases ej
      exact ⟨_, ea, a, rfl, ob, nb, c⟩
    · rw [List.getElem?_set_ne (Ne.symm q)] at ej
      obtain ⟨v, h1, h2⟩ := R.slot j y ej
      refine ⟨v, h1, ?_⟩
      obtain ⟨d2, k2⟩ := y
      cases k2 with
      | fz => show Rep _ _ _ _; rw [off_upd ob]; exact h2
      | ow =>
        obtain ⟨b, eb, ob2, nb2, c2⟩ := h2
        subst eb
        have hne : b ≠ a := fun z => by subst z; exact R.sep j i _ _ _ q ej rfl e rfl h1 ea
        exact ⟨b, rfl, ob2, nb2, c2.mono (fun o' h => by rw [upd_ne hne]; exact h) (by rw [off_upd ob]; exact Same.refl _)⟩
      | bo => exact h2
      | al => exact h2
  · have a1 : ∃ y', ρ[j]? = some (some y') ∧ y'.2 = .ow := by
      by_cases q : j = i
      · subst q; exact ⟨_, e, rfl⟩
      · rw [List.getElem?_set_ne (Ne.symm q)] at e1; exact ⟨y, e1, k1⟩
    have a2 : ∃ y', ρ[l]? = some (some y') ∧ y'.2 = .ow := by
      by_cases q : l = i
      · subst q; exact ⟨_, e, rfl⟩
      · rw [List.getElem?_set_ne (Ne.symm q)] at e2; exact ⟨z, e2, k2⟩
    obtain ⟨y1, p1, p2⟩ := a1
    obtain ⟨y2, q1, q2⟩ := a2
    exact R.sep j l y1 y2 w hjl p1 p2 q1 q2 g1 g2
  · by_cases q : b = a
    · subst q; exact ownC_nt c xs
    · rw [upd_ne q]; exact R.nt b xs ob
/-- a slot's own object goes to the frozen part -/
theorem SR.freeze {i : Nat} {d : D} (R : SR K B F O0 H O σ ρ) (e : ρ[i]? = some (some (d, .ow))) : ∃ O', SR K B F O0 H O' σ (ρ.set i (some (d, .fz))) := by
  obtain ⟨v, h1, h2⟩ := R.slot i _ e
  obtain ⟨a, ea, oa, na, c⟩ := h2
  subst ea
  have hi : i < ρ.length := by
    by_cases hl : i < ρ.length
    · exact hl
    · rw [List.getElem?_eq_none (by omega)] at e; cases e
  have sub : ∀ b, (O b ∧ b ≠ a) → O b := fun _ z => z.1
  have f : Same (off O H) (off (fun b => O b ∧ b ≠ a) H) := off_anti sub
  refine ⟨fun b => O b ∧ b ≠ a, by rw [List.length_set]; exact R.len, R.base, R.frz.trans f, R.fb.trans f, fun b z => R.dom b z.1, R.dom0, fun b z => ⟨R.sub b z, fun q => R.dom0 b z (by rw [q]; exact na)⟩, fun j y ej => ?_, fun j l y z w hjl e1 k1 e2 k2 g1 g2 => ?_, fun b xs z => R.nt b xs z.1⟩
  · by_cases q : j = i
    · subst q
      rw [List.getElem?_set_self hi] at ej
      cases ej
      refine ⟨_, h1, ?_⟩
      have c' : OwnC K H (plus (fun b => O b ∧ b ≠ a) a) a d := c.mono (fun _ z => z) (off_anti fun b z => z.elim (fun z => z.1) fun q => by rw [q]; exact oa)
      exact c'.frozen fun z => z.2 rfl
    · rw [List.getElem?_set_ne (Ne.symm q)] at ej
      obtain ⟨v, g1, g2⟩ := R.slot j y ej
      refine ⟨v, g1, ?_⟩
      obtain ⟨d2, k2⟩ := y
      cases k2 with
      | fz => exact Rep.mono f g2
      | ow =>
        obtain ⟨b, eb, ob2, nb2, c2⟩ := g2
        subst eb
        have hne : b ≠ a := fun z => by subst z; exact R.sep j i _ _ _ q ej rfl e rfl g1 h1
        exact ⟨b, rfl, ⟨ob2, hne⟩, nb2, c2.mono (fun _ z => z) f⟩
      | bo => exact g2
      | al => exact g2
  · have q1 : j ≠ i := fun q => by subst q; rw [List.getElem?_set_self hi] at e1; cases e1; cases k1
    have q2 : l ≠ i := fun q => by subst q; rw [List.getElem?_set_self hi] at e2; cases e2; cases k2
    rw [List.getElem?_set_ne (Ne.symm q1)] at e1
    rw [List.getElem?_set_ne (Ne.symm q2)] at e2
    exact R.sep j l y z w hjl e1 k1 e2 k2 g1 g2
end
end FK
namespace FK
open PySem PySem.Spec L2
open PyProof.Rows hiding St

section
variable {X : Cx} {E : XK} {e a b c : Expr} {es : List Expr} {st : Stmt} {rest s1 s2 sts : List Stmt} {p pa pb pk pv : Env → R DV} {pt : Env → R Bool} {pl : Env → R (List DV)} {m m1 m2 : Env → SO} {pos pos' : Pos} {k i j : Nat} {x : Str}
/-! ### x = e -/
def setS (i : Nat) (ρ : Env) (x : DV) : SO := match slotK x with | some y => .nx (ρ.set i (some y)) | none => .no
abbrev sSet (i : Nat) (p : Env → R DV) : Env → SO := fun ρ => (p ρ).st (setS i ρ)
/-- behind a value comes its store -/
theorem setS_nx {B F H H' : Hp} {O0 O : Own} {σ : L2.St} {ρ : Env} {D : Ends} {x : DV} {v : V} (R : SR X.K B F O0 H O σ ρ) (s : Same H H') (o : Out X.K B O0 H H' O v x) (h : EndsOk X.K X.mg B F O0 D E (setS i ρ x)) : D.nx (σ.set i (some v)) H' := by
  unfold setS at h
  cases q : slotK x with
  | none => rw [q] at h; exact h.elim
  | some y =>
    rw [q] at h
    obtain ⟨O', R'⟩ := R.store (i := i) s o q
    exact h _ H' O' R'
theorem ds_set (i : Nat) (he : DE X E e p) (hN : X.N.Nodup) (hi : X.N[i]? = some x) (hx : Loc X.env.scope x) (hs : swapsWith e (some (.Name x pos')) pos.line X.env = pure false := by rfl) (hf : X.fn x = true ∨ X.env.scope.names.lookup x = some .local := by first | exact .inl rfl | exact .inr rfl | assumption) :
    DS X E (.Assign [.Name x pos'] e pos) (sSet i p) := by
  obtain ⟨t, a1, a2⟩ := he.ex
  refine ⟨_, ps_set hN hi hx a1 hs hf, fun B F O0 H O σ ρ D R h => ?_⟩
  exact ev_st (Q := fun v H1 => D.nx (σ.set i (some v)) H1) R.base R.sub (a2 B F O0 H O σ ρ R) h fun x v H1 ex s1 r1 h1 => setS_nx R s1 r1 h1
/-- (ghost) a slot goes to the frozen part -/
def frzS (i : Nat) (ρ : Env) : Env := match ρ[i]? with | some (some (d, .ow)) => ρ.set i (some (d, .fz)) | _ => ρ
theorem frz_sr {B F H : Hp} {O0 O : Own} {σ : L2.St} {ρ : Env} (i : Nat) (R : SR X.K B F O0 H O σ ρ) : ∃ O', SR X.K B F O0 H O' σ (frzS i ρ) := by
  unfold frzS
  split
  · rename_i d e
    exact R.freeze e
  · exact ⟨O, R⟩
theorem ds_frz (i : Nat) (h : DS X E st m) : DS X E st (fun ρ => m (frzS i ρ)) := by
  obtain ⟨t, a1, a2⟩ := h.ex
  refine ⟨t, a1, fun B F O0 H O σ ρ D R h => ?_⟩
  obtain ⟨O', R'⟩ := frz_sr i R
  exact a2 B F O0 H O' σ _ D R' h
/-! ### x.m(..), x a local's own list -/
def methS (g : List D → List DV → Option (List D)) (i : Nat) (pl : Env → R (List DV)) (ρ : Env) : SO := match ρ[i]? with
  | some (some (.lst xs, .ow)) => (pl ρ).st fun ys => match g xs ys with | some zs => .nx (ρ.set i (some (.lst zs, .ow))) | none => .no
  | _ => .no
theorem ds_meth {call : Expr} {r : V → List V → Hp → VK → Prop} {g : List D → List DV → Option (List D)} (i : Nat) (ha : DA X E es pl) (mk : ∀ ta, PA X es ta → PE X call (tBM X.K "list" r (tVar i) ta))
    (hg : ∀ (B H0 H : Hp) (O0 O : Own) (a : Addr) (vs : List V) (xs zs : List D) (ys : List DV) (ws : List V), H a = some (.lst vs) → RepL X.K (off O H) vs xs → OutL X.K B O0 H0 H O ys ws → g xs ys = some zs → ∃ us, RepL X.K (off O H) us zs ∧ ∀ Q : VK, (∀ v, Q v (upd H a (.lst us))) → r (.ref a) ws H Q)
    (hs : swapsWith call none pos.line X.env = pure false := by rfl) : DS X E (.Expr call pos) (methS g i pl) := by
  obtain ⟨t, a1, a2⟩ := ha.ex
  refine ⟨_, ps_expr (mk t a1) hs, fun B F O0 H O σ ρ D R h => ?_⟩
  unfold methS at h
  split at h
  · rename_i xs e
    obtain ⟨v, h1, a, ea, oa, na, vs, c1, c2⟩ := R.slot i _ e
    subst ea
    refine ⟨.ref a, h1, .inl ⟨rfl, vs, SqL.of c1⟩, ?_⟩
    refine ev_st (Q := fun ws H1 => r (.ref a) ws H1 fun _ H2 => D.nx σ H2) R.base R.sub (a2 B F O0 H O σ ρ R) h fun ys ws H1 ex s1 r1 h1' => ?_
    cases q : g xs ys with
    | none => simp only [q] at h1'; exact h1'.elim
    | some zs =>
      simp only [q] at h1'
      obtain ⟨us, g1, g2⟩ := hg B H H1 O0 O a vs xs zs ys ws (s1 _ _ c1) (c2.mono (off_mono s1)) r1 q
      refine g2 _ fun _ => h1' σ _ O ((R.more s1).write e h1 ⟨us, upd_same, ?_⟩)
      rw [off_upd oa]
      exact g1
  · exact h.elim
def keep1 : DV → Option D | (d, .fz) => some d | (d, .ow) => some d | _ => none
theorem Out.keep {K : PySem.W.Frag} {B H0 H : Hp} {O0 O : Own} {x : DV} {v : V} {d : D} (h : Out K B O0 H0 H O v x) (e : keep1 x = some d) : Rep K (off O H) v d := by
  obtain ⟨d', k⟩ := x
  cases k with
  | fz => cases e; exact h
  | ow => cases e; exact h.fzD
  | bo => cases e
  | al => cases e
def gAppend (xs : List D) : List DV → Option (List D) | [y] => if xs.length < sizeLine then (keep1 y).map fun d => xs ++ [d] else none | _ => none
theorem hg_append (B H0 H : Hp) (O0 O : Own) (a : Addr) (vs : List V) (xs zs : List D) (ys : List DV) (ws : List V) (ha : H a = some (.lst vs)) (hr : RepL X.K (off O H) vs xs) (ho : OutL X.K B O0 H0 H O ys ws) (hg : gAppend xs ys = some zs) :
    ∃ us, RepL X.K (off O H) us zs ∧ ∀ Q : VK, (∀ v, Q v (upd H a (.lst us))) → rAppend (.ref a) ws H Q := by
  cases ho with
  | nil => cases hg
  | cons o r =>
    rename_i x xs' v vs'
    cases r with
    | nil =>
      unfold gAppend at hg
      dsimp only at hg
      split at hg
      · rename_i z
        cases q : keep1 x with
        | none => rw [q] at hg; cases hg
        | some d =>
          rw [q] at hg
          cases hg
          rw [← hr.length] at z
          exact ⟨vs ++ [v], hr.append (.cons (o.keep q) .nil), fun Q hQ => ⟨a, vs, v, rfl, rfl, ha, z, hQ _⟩⟩
      · cases hg
    | cons _ _ => cases hg
theorem ds_append (i : Nat) {apos cpos : Pos} (hp : PE X (.Name x pos') (tVar i)) (he : DE X E e p)
    (hbase : attributeBase (.Name x pos') "append" X.env (eval (.Name x pos') X.env) = eval (.Name x pos') X.env := by rfl)
    (hfew : ((backTo cpos (starEach [e] X.env)).all (fun x => !x.1) && (backToKw cpos (keywordEach [] X.env)).all (fun x => x.1.isSome)
      && decide ([e].length + ([] : List Keyword).length + (if ([] : List Keyword).isEmpty then 0 else 1) < 30)) = true := by rfl)
    (hline : (apos.endLine == cpos.line) = true := by rfl) (hs : starEach [e] X.env = (false, eval e X.env) :: starEach [] X.env := by rfl) (hplain : (backTo cpos (starEach [] X.env)).any (·.1) = false := by rfl)
    (hsw : swapsWith (.Call (.Attribute (.Name x pos') "append" apos) [e] [] cpos) none pos.line X.env = pure false := by rfl) :
    DS X E (.Expr (.Call (.Attribute (.Name x pos') "append" apos) [e] [] cpos) pos) (methS gAppend i (fun ρ => (p ρ).bind fun x => (R.ok []).bind fun xs => .ok (x :: xs))) :=
  ds_meth i (da_cons he da_nil hs) (fun ta h => pe_bm PySem.F.plainAttrs_list PySem.F.slot_list_append PySem.F.type_list_append mt_append hp h hbase hfew hline hs hplain) hg_append hsw
def gInsert (xs : List D) : List DV → Option (List D)
  | [(.int n, _), y] => if xs.length < sizeLine ∧ 0 ≤ n ∧ n < 2 ^ 63 then (keep1 y).map fun d => xs.take n.toNat ++ [d] ++ xs.drop n.toNat else none
  | _ => none
def rInsertG : V → List V → Hp → VK → Prop := fun x vs H Q => ∃ (l : Addr) (xs : List V) (i : Int) (y : V), x = .ref l ∧ vs = [.int i, y] ∧ H l = some (.lst xs) ∧ xs.length < sizeLine ∧ 0 ≤ i ∧ i < 2 ^ 63 ∧
    Q .non (upd H l (.lst (xs.take i.toNat ++ [y] ++ xs.drop i.toNat)))
theorem hg_insert (B H0 H : Hp) (O0 O : Own) (a : Addr) (vs : List V) (xs zs : List D) (ys : List DV) (ws : List V) (ha : H a = some (.lst vs)) (hr : RepL X.K (off O H) vs xs) (ho : OutL X.K B O0 H0 H O ys ws) (hg : gInsert xs ys = some zs) :
    ∃ us, RepL X.K (off O H) us zs ∧ ∀ Q : VK, (∀ v, Q v (upd H a (.lst us))) → rInsertG (.ref a) ws H Q := by
  match ys, ho, hg with
  | [], _, hg => cases hg
  | [_], _, hg => simp [gInsert] at hg
  | [(d1, k1), y], .cons o (.cons o2 .nil), hg =>
    cases d1 <;> first | (simp [gInsert] at hg; done) | skip
    rename_i n
    unfold gInsert at hg
    dsimp only at hg
    split at hg
    · rename_i z
      cases q : keep1 y with
      | none => rw [q] at hg; cases hg
      | some d =>
        rw [q] at hg
        cases hg
        rw [← hr.length] at z
        cases o.int
        exact ⟨_, ((hr.take n.toNat).append (.cons (o2.keep q) .nil)).append (hr.drop n.toNat), fun Q hQ => ⟨a, vs, n, _, rfl, rfl, ha, z.1, z.2.1, z.2.2, hQ _⟩⟩
    · cases hg
  | _ :: _ :: _ :: _, _, hg => simp [gInsert] at hg
theorem ds_insert (i : Nat) {e' : Expr} {apos cpos : Pos} (hp : PE X (.Name x pos') (tVar i)) (he : DE X E e p) (he' : DE X E e' pa)
    (hbase : attributeBase (.Name x pos') "insert" X.env (eval (.Name x pos') X.env) = eval (.Name x pos') X.env := by rfl)
    (hfew : ((backTo cpos (starEach [e, e'] X.env)).all (fun x => !x.1) && (backToKw cpos (keywordEach [] X.env)).all (fun x => x.1.isSome)
      && decide ([e, e'].length + ([] : List Keyword).length + (if ([] : List Keyword).isEmpty then 0 else 1) < 30)) = true := by rfl)
    (hline : (apos.endLine == cpos.line) = true := by rfl) (hs : starEach [e, e'] X.env = (false, eval e X.env) :: starEach [e'] X.env := by rfl) (hs2 : starEach [e'] X.env = (false, eval e' X.env) :: starEach [] X.env := by rfl) (hplain : (backTo cpos (starEach [e'] X.env)).any (·.1) = false := by rfl)
    (hsw : swapsWith (.Call (.Attribute (.Name x pos') "insert" apos) [e, e'] [] cpos) none pos.line X.env = pure false := by rfl) :
    DS X E (.Expr (.Call (.Attribute (.Name x pos') "insert" apos) [e, e'] [] cpos) pos) (methS gInsert i (fun ρ => (p ρ).bind fun x => ((pa ρ).bind fun x => (R.ok []).bind fun xs => R.ok (x :: xs)).bind fun xs => .ok (x :: xs))) :=
  ds_meth i (da_cons he (da_cons he' da_nil hs2) hs) (fun ta h => pe_bm PySem.F.plainAttrs_list PySem.F.slot_list_insert PySem.F.type_list_insert mt_insert hp h hbase hfew hline hs hplain) hg_insert hsw
/-! ### y = x.pop() -/
def popS (i j : Nat) (ρ : Env) : SO := match ρ[i]? with
  | some (some (.lst xs, .ow)) => (match xs[xs.length - 1]? with | some d => if i = j then .no else .nx ((ρ.set i (some (.lst xs.dropLast, .ow))).set j (some (d, .fz))) | none => .no)
  | _ => .no
theorem RepL.dropLast {K : PySem.W.Frag} {H : Hp} {vs : List V} {ds : List D} (h : RepL K H vs ds) : RepL K H vs.dropLast ds.dropLast := by
  rw [List.dropLast_eq_take, List.dropLast_eq_take, h.length]
  exact h.take _
theorem ds_pop (i j : Nat) {y : Str} {p3 apos cpos : Pos} (hp : PE X (.Name x pos') (tVar i)) (hN : X.N.Nodup) (hj : X.N[j]? = some y) (hy : Loc X.env.scope y)
    (hbase : attributeBase (.Name x pos') "pop" X.env (eval (.Name x pos') X.env) = eval (.Name x pos') X.env := by rfl) (hline : (apos.endLine == cpos.line) = true := by rfl)
    (hs : swapsWith (.Call (.Attribute (.Name x pos') "pop" apos) [] [] cpos) (some (.Name y p3)) pos.line X.env = pure false := by rfl) (hf : X.fn y = true ∨ X.env.scope.names.lookup y = some .local := by first | exact .inl rfl | exact .inr rfl | assumption) :
    DS X E (.Assign [.Name y p3] (.Call (.Attribute (.Name x pos') "pop" apos) [] [] cpos) pos) (popS i j) := by
  refine ⟨_, ps_set hN hj hy (pe_bm0 PySem.F.plainAttrs_list PySem.F.slot_list_pop PySem.F.type_list_pop mt_pop hp hbase hline) hs hf, fun B F O0 H O σ ρ D R h => ?_⟩
  unfold popS at h
  split at h
  · rename_i xs e
    obtain ⟨v, h1, a, ea, oa, na, vs, c1, c2⟩ := R.slot i _ e
    subst ea
    split at h
    · rename_i d ed
      split at h
      · exact h.elim
      · obtain ⟨u, h3, h4⟩ := c2.get ed
        rw [← c2.length] at h3
        refine ⟨.ref a, h1, .inl ⟨rfl, vs, SqL.of c1⟩, a, vs, u, rfl, rfl, c1, h3, ?_⟩
        have R1 := R.write (o := .lst vs.dropLast) (d' := .lst xs.dropLast) e h1 ⟨_, upd_same, by rw [off_upd oa]; exact c2.dropLast⟩
        exact h _ _ O (R1.set (v := u) (x := (d, .fz)) (by show Rep _ _ _ _; rw [off_upd oa]; exact h4) fun z => nomatch z)
    · exact h.elim
  · exact h.elim
/-! ### x[e] = v -/
def putD {κ : Type} [DecidableEq κ] (kvs : List (κ × D)) (k : κ) (v : D) : List (κ × D) := if kvs.any (fun kv => decide (kv.1 = k)) then kvs.map (fun kv => if kv.1 = k then (kv.1, v) else kv) else kvs ++ [(k, v)]
def rSetG : TSet := fun o i v H Q => rSetL o i v H Q ∨ ∃ a H', o = .ref a ∧ DPut H a i v H' ∧ Q H'
theorem set_all {k : Nat} (hr : Room k X.A) : PSet X rSetG := by
  intro pins s σ H o i v ov iv u Q I ro ri rv h
  rcases h with h | ⟨a, H', rfl, g, q⟩
  · exact set_list pins s σ H o i v ov iv u Q I ro ri rv h
  · cases ro
    exact d_setItem (hu_of hr) I g ri rv fun s4 I4 => ⟨H', I4, q⟩
def putS (i : Nat) (ρ : Env) (d : D) (v k : DV) : SO := match keep1 v with
  | none => .no
  | some x => (match d with
    | .lst xs => (match k.1 with | .int n => (match ixN xs.length n with | some j => .nx (ρ.set i (some (.lst (xs.set j x), .ow))) | none => .no) | _ => .no)
    | .dk kvs => (match keyD k.1 with | some key => if kvs.length < sizeLine then .nx (ρ.set i (some (.dk (putD kvs key x), .ow))) else .no | none => .no)
    | .dt kvs => (match k.2 with | .fz => (match keysD k.1 with | some key => if kvs.length < sizeLine then .nx (ρ.set i (some (.dt (putD kvs key x), .ow))) else .no | none => .no) | _ => .no)
    | _ => .no)
theorem RepK.any {K : PySem.W.Frag} {H : Hp} (k : Key) : ∀ {vs : List (Key × V)} {ds : List (Key × D)}, RepK K H vs ds → (vs.any fun kv => decide (kv.1 = k)) = ds.any fun kv => decide (kv.1 = k)
  | _, _, .nil => rfl
  | _, _, .cons a b => by rw [List.any_cons, List.any_cons, RepK.any k b]
theorem RepK.rpl {K : PySem.W.Frag} {H : Hp} (k : Key) {v : V} {d : D} (h : Rep K H v d) : ∀ {vs : List (Key × V)} {ds : List (Key × D)}, RepK K H vs ds → RepK K H (vs.map fun kv => if kv.1 = k then (kv.1, v) else kv) (ds.map fun kv => if kv.1 = k then (kv.1, d) else kv)
  | _, _, .nil => .nil
  | _, _, .cons (k := k') a b => by
    rw [List.map_cons, List.map_cons]
    by_cases e : k' = k
    · rw [if_pos e, if_pos e]; exact .cons h (RepK.rpl k h b)
    · rw [if_neg e, if_neg e]; exact .cons a (RepK.rpl k h b)
theorem RepK.append {K : PySem.W.Frag} {H : Hp} : ∀ {vs ws : List (Key × V)} {ds es : List (Key × D)}, RepK K H vs ds → RepK K H ws es → RepK K H (vs ++ ws) (ds ++ es)
  | _, _, _, _, .nil, h => h
  | _, _, _, _, .cons a b, h => .cons a (RepK.append b h)
theorem RepK.put {K : PySem.W.Frag} {H : Hp} {vs : List (Key × V)} {ds : List (Key × D)} {v : V} {d : D} (r : RepK K H vs ds) (k : Key) (h : Rep K H v d) : RepK K H (putK vs k v) (putD ds k d) := by
  unfold putK putD
  rw [r.any k]
  split
  · exact r.rpl k h
  · exact r.append (.cons h .nil)
theorem RepT.length {K : PySem.W.Frag} {H : Hp} : ∀ {v : List (List Key × V)} {d : List (List Key × D)}, RepT K H v d → v.length = d.length
  | _, _, .nil => rfl
  | _, _, .cons _ b => congrArg (· + 1) (RepT.length b)
theorem RepT.any {K : PySem.W.Frag} {H : Hp} (k : List Key) : ∀ {vs : List (List Key × V)} {ds : List (List Key × D)}, RepT K H vs ds → (vs.any fun kv => decide (kv.1 = k)) = ds.any fun kv => decide (kv.1 = k)
  | _, _, .nil => rfl
  | _, _, .cons a b => by rw [List.any_cons, List.any_cons, RepT.any k b]
theorem RepT.rpl {K : PySem.W.Frag} {H : Hp} (k : List Key) {v : V} {d : D} (h : Rep K H v d) : ∀ {vs : List (List Key × V)} {ds : List (List Key × D)}, RepT K H vs ds → RepT K H (vs.map fun kv => if kv.1 = k then (kv.1, v) else kv) (ds.map fun kv => if kv.1 = k then (kv.1, d) else kv)
  | _, _, .nil => .nil
  | _, _, .cons (k := k') a b => by
    rw [List.map_cons, List.map_cons]
    by_cases e : k' = k
    · rw [if_pos e, if_pos e]; exact .cons h (RepT.rpl k h b)
    · rw [if_neg e, if_neg e]; exact .cons a (RepT.rpl k h b)
theorem RepT.append {K : PySem.W.Frag} {H : Hp} : ∀ {vs ws : List (List Key × V)} {ds es : List (List Key × D)}, RepT K H vs ds → RepT K H ws es → RepT K H (vs ++ ws) (ds ++ es)
  | _, _, _, _, .nil, h => h
  | _, _, _, _, .cons a b, h => .cons a (RepT.append b h)
theorem RepT.put {K : PySem.W.Frag} {H : Hp} {vs : List (List Key × V)} {ds : List (List Key × D)} {v : V} {d : D} (r : RepT K H vs ds) (k : List Key) (h : Rep K H v d) : RepT K H (putK vs k v) (putD ds k d) := by
  unfold putK putD
  rw [r.any k]
  split
  · exact r.rpl k h
  · exact r.append (.cons h .nil)
abbrev sPut (i : Nat) (pv pk : Env → R DV) : Env → SO := fun ρ => (pv ρ).st fun v => match ρ[i]? with
  | some (some (d, .ow)) => (pk ρ).st fun k => putS i ρ d v k
  | _ => .no
theorem ds_put {n : Nat} (i : Nat) (hr : Room n X.A) {v key : Expr} {p2 : Pos} (hp : PE X (.Name x p2) (tVar i)) (hk : DE X E key pk) (hv : DE X E v pv)
    (ha : ∀ u, assign (.Subscript (.Name x p2) key pos') X.env u = (do
      let ov ← holding [u] (eval (.Name x p2) X.env)
      let iv ← holding [u, ov] (eval key X.env)
      standAt pos'
      holding [u, ov, iv] (setItem ov iv u)
      release [u, ov, iv] []) := by intro _; rfl)
    (hs : swapsWithSole [.Subscript (.Name x p2) key pos'] v pos.line X.env = pure false := by rfl) (hw : swappedStores [.Subscript (.Name x p2) key pos'] v X.env = pure none := by rfl)
    (h1 : (assignEach [.Subscript (.Name x p2) key pos'] X.env).map (·.2) = [assign (.Subscript (.Name x p2) key pos') X.env] := by rfl) :
    DS X E (.Assign [.Subscript (.Name x p2) key pos'] v pos) (sPut i pv pk) := by
  obtain ⟨t, a1, a2⟩ := hv.ex
  obtain ⟨u, b1, b2⟩ := hk.ex
  refine ⟨_, ps_asg a1 (pg_sub hp b1 (set_all hr) ha) hs hw h1, fun B F O0 H O σ ρ D R h => ?_⟩
  refine ev_st (Q := fun v H1 => gSub (tVar i) u rSetG v σ H1 D.nx) R.base R.sub (a2 B F O0 H O σ ρ R) h fun x v H1 ex s1 r1 h1 => ?_
  have R1 := R.more s1
  split at h1
  · rename_i dd e
    obtain ⟨w, g1, a, ea, oa, na, c⟩ := R1.slot i _ e
    subst ea
    refine ⟨.ref a, g1, ?_⟩
    refine ev_st (Q := fun kx H2 => rSetG (.ref a) kx v H2 fun H3 => D.nx σ H3) R1.base R1.sub (b2 B F O0 H1 O σ ρ R1) h1 fun y kx H2 ex2 s2 r2 h2 => ?_
    have R2 := R1.more s2
    unfold putS at h2
    cases qv : keep1 x with
    | none => simp only [qv] at h2; exact h2.elim
    | some d =>
      simp only [qv] at h2
      have rv : Rep X.K (off O H2) v d := Rep.mono (off_mono s2) (r1.keep qv)
      cases dd <;> first | exact h2.elim | skip
      · rename_i xs
        obtain ⟨vs, c1, c2⟩ := c
        obtain ⟨d2, k2⟩ := y
        cases d2 <;> first | exact h2.elim | skip
        rename_i n'
        cases Out.int r2
        cases q : ixN xs.length n' with
        | none => simp only [q] at h2; exact h2.elim
        | some j =>
          simp only [q] at h2
          refine .inl ⟨a, vs, n', j, rfl, rfl, s2 _ _ c1, by rw [c2.length]; exact q, ?_⟩
          refine h2 σ _ O (R2.write e g1 ⟨_, upd_same, ?_⟩)
          rw [off_upd oa]
          exact (c2.mono (off_mono s2)).set j rv
      · rename_i kvs
        obtain ⟨vs, c1, c2⟩ := c
        obtain ⟨d2, k2⟩ := y
        cases q : keyD d2 with
        | none => simp only [q] at h2; exact h2.elim
        | some key =>
          simp only [q] at h2
          split at h2
          · rename_i hl
            have ek := keyD_out q r2
            subst ek
            rw [← c2.length] at hl
            refine .inr ⟨a, _, rfl, DPut.k (s2 _ _ c1) hl, ?_⟩
            refine h2 σ _ O (R2.write e g1 ⟨_, upd_same, ?_⟩)
            rw [off_upd oa]
            exact (c2.mono (off_mono s2)).put key rv
          · exact h2.elim
      · rename_i kvs
        obtain ⟨vs, c1, c2⟩ := c
        obtain ⟨d2, k2⟩ := y
        cases k2 <;> first | exact h2.elim | skip
        cases q : keysD d2 with
        | none => simp only [q] at h2; exact h2.elim
        | some key =>
          simp only [q] at h2
          split at h2
          · rename_i hl
            obtain ⟨b, rfl, eb⟩ := keysD_out q r2
            rw [← c2.length] at hl
            refine .inr ⟨a, _, rfl, DPut.t (s2 _ _ c1) eb hl, ?_⟩
            refine h2 σ _ O (R2.write e g1 ⟨_, upd_same, ?_⟩)
            rw [off_upd oa]
            exact (c2.mono (off_mono s2)).put key rv
          · exact h2.elim
  · exact h1.elim
end
end FK
/-! enumerate(tuple) -/
namespace PySem
open Sem (wp)
open Builtin Builtin.Str
set_option maxHeartbeats 1000000 in
theorem fk_enum_newB {v : Value} {o : Obj} {H : Heap → Prop} (B : Begins v o H) :
    Meets (Builtin.«enumerate.__new__» ⟨[.type "enumerate", v], []⟩) (fun _ R s => H s.heap ∧
      R (.ok (.ret (.ref (s.heap.push o).objs.size))) { s with heap := (s.heap.push o).push { cls := .type "enumerate", data := .fields #[.none, .bool false, .ref s.heap.objs.size, rawInt 0, .none, .none] } }) :=
  .of_wp fun prog w A R s h => by
    obtain ⟨hp, g, d, tk, os⟩ := s; obtain ⟨h1, h⟩ := h
    have hsub := sub_enumerate
    have q1 : ∀ {A' : Around} {E : Value → Shared → Prop} {Q : Value → Shared → Prop}, Q (.ref hp.objs.size) ⟨hp.push o, g, d, tk, os⟩ → wpAny (model prog w) A' (pyIter v) Q E ⟨hp, g, d, tk, os⟩ :=
      fun q => B.iter prog w _ _ ⟨hp, g, d, tk, os⟩ _ h1 q
    wp_walk using q1
    refine wpAny_stack_any fun st => wpAny_pure ?_
    split
    · rename_i c _ _ _ _ _
      cases (c == Value.type "enumerate")
      · wp_walk using q1
        exact ⟨_, rfl, h⟩
      · wp_walk using q1
        exact ⟨_, rfl, h⟩
    · wp_walk using q1
      exact ⟨_, rfl, h⟩
end PySem
namespace FK
open PySem PySem.Spec L2
open PyProof.Rows hiding St
section
variable {prog : Program} {w : World} {A : Around} {E : Value → Shared → Prop} {s : Shared}
theorem enum_tuple {l : Addr} {items : Array Value} {Q : Value → Shared → Prop} (hL : s.heap.IsTuple l items)
    (h : ∀ h', IsEnum h' (s.heap.objs.size + 1) s.heap.objs.size 0 .none → h'.IsTupleIter s.heap.objs.size l 0 → h'.objs.size = s.heap.objs.size + 2 →
      (∀ b o, s.heap.get? b = some o → h'.get? b = some o) → Q (.ref (s.heap.objs.size + 1)) { s with heap := h' }) :
    wpAny (model prog w) A (call (.type "enumerate") [.ref l]) Q E s := by
  refine callType_new F.called_enumerate (by decide) (F.typeCall_enumerate_1 _) (F.newCall_enumerate_1 _) (fun obj => F.args_object_init_2 obj _) F.entry_enumerate_new
    (fk_enum_newB (begins_tuple l items)) ⟨hL, ?_⟩
  have hz : (s.heap.push { cls := .type "tuple_iterator", data := .fields #[.ref l, .int 0 0] }).objs.size = s.heap.objs.size + 1 := Heap.size_push ..
  show _ ∧ _
  rw [hz]
  have he : IsEnum ((s.heap.push { cls := .type "tuple_iterator", data := .fields #[.ref l, .int 0 0] }).push
      { cls := .type "enumerate", data := .fields #[.none, .bool false, .ref s.heap.objs.size, rawInt 0, .none, .none] }) (s.heap.objs.size + 1) s.heap.objs.size 0 .none := by
    have := Heap.get?_push_size (s.heap.push { cls := .type "tuple_iterator", data := .fields #[.ref l, .int 0 0] })
      (o := { cls := .type "enumerate", data := .fields #[.none, .bool false, .ref s.heap.objs.size, rawInt 0, .none, .none] }) rfl
    rw [hz] at this; exact this
  refine ⟨⟨_, he, rfl⟩, h _ he ⟨_, Heap.get?_push_of_some _ (Heap.get?_push_size _ rfl), rfl, rfl⟩ (by rw [Heap.size_push, hz]) fun b o x => Heap.get?_push_of_some _ (Heap.get?_push_of_some _ x)⟩
end
def IteT (K : PySem.W.Frag) (a : Addr) : It :=
  ⟨fun i H => ∃ (xs : List V) (x : V), SqT K H a xs ∧ xs[i]? = some x, fun i H v H' => ∃ T x, v = .ref T ∧ H T = none ∧ H' = upd H T (.tup [.int (i : Nat), x]) ∧ ∀ xs, SqT K H a xs → xs[i]? = some x, fun i H => ∃ xs : List V, SqT K H a xs ∧ xs.length ≤ i⟩
theorem turn_enumT {P : Program} {w : World} {K : PySem.W.Frag} {elts : List Expr} {kk : Nat} {tpos : Pos} (a e it : Addr) :
    Turn P w K (.Tuple elts kk tpos) (IteT K a) [e, it] e (fun i h => (∃ old, IsEnum h e it ((i : Nat) : Int) old) ∧ h.IsTupleIter it a i ∧ e ≠ it) where
  mem := by simp
  obj := fun i h st b hb => by
    obtain ⟨⟨old, he⟩, ⟨o, ho, hc, hd⟩, _⟩ := st
    have e' : b = e ∨ b = it := by simpa using hb
    rcases e' with z | z
    · rw [z]; exact ⟨_, he, fun v q => nomatch q⟩
    · rw [z]; exact ⟨o, ho, fun v q => by rw [hd] at q; cases q⟩
  keep := fun i h h' st k => let ⟨⟨old, he⟩, hi, hne⟩ := st; ⟨⟨old, k e (by simp) _ he⟩, hi.at fun o q => k it (by simp) o q, hne⟩
  item := by
    intro X hP hw hK hc i pins s σ H E I hf st hg
    subst hP hw hK
    obtain ⟨⟨old, he⟩, hit, hne⟩ := st
    obtain ⟨xs, x, hq, hx⟩ := hg
    obtain ⟨its, rv, p, hz⟩ := I.tuple hq
    obtain ⟨u, hu, ru⟩ := rv.get hx
    have hel : e < s.heap.objs.size := Heap.lt_size he
    have hil : it < s.heap.objs.size := by obtain ⟨_, q, _⟩ := hit; exact Heap.lt_size q
    have ptup : s.heap.IsTuple a its.toArray := p
    have hai : a ≠ it := by
      rintro rfl
      obtain ⟨o, ho, hc', _⟩ := id hit
      obtain ⟨o2, ho2, hc2, _⟩ := id ptup
      rw [ho] at ho2; cases ho2; rw [hc'] at hc2; simp at hc2
    have hae : a ≠ e := by
      rintro rfl
      obtain ⟨o2, ho2, hc2, _⟩ := id ptup
      rw [show s.heap.get? a = some _ from he] at ho2; cases ho2; simp at hc2
    refine wpAny_pyNext_enum_itemD (Draws.tuple (prog := X.prog) (w := X.w) (A := X.A.in1) (show X.A.in1.handled = none from I.ok.hd hc) it a hai its.toArray) he ⟨hit, ptup⟩ (i := i) (by
      have := (List.getElem?_eq_some_iff.mp hu).1
      simpa using this) hne (by simp; exact ⟨hne, hae.symm⟩) fun u' h' tk hu' ho st' hT hsz hk => ?_
    have hu'' : u' = u := by
      have h1 : its.toArray[i]? = some u := by simpa using hu
      rw [h1] at hu'
      exact (Option.some.inj hu').symm
    subst hu''
    refine ⟨_, rfl, wpAny_letOwnedTupleGo_enum (s := { s with heap := h', toks := tk + 1 }) ho fun h'' he' sb => ?_⟩
    have hT2 : h''.get? s.heap.objs.size = some { cls := .type "tuple", data := .seq #[.int i tk, u'] } := (sb.2 _ (Nat.ne_of_gt hel)).trans hT
    have new : ObjOk X.prog X.w (upd H s.heap.objs.size (.tup [.int (i : Nat), x])) h'' s.heap.objs.size (.tup [.int (i : Nat), x]) :=
      ⟨by show 2 ≤ sizeLine; decide, [.int i tk, u'], .cons ⟨_, rfl⟩ (.cons ru .nil), ⟨_, hT2, rfl, _, rfl⟩⟩
    have I1 : Inv X pins σ (upd H s.heap.objs.size (.tup [.int (i : Nat), x])) { s with heap := h'', toks := tk + 1 } :=
      I.turnedNew (ch := [e, it]) (fun b ob hb q => (sb.2 b (fun z => hb (by simp [z]))).trans (hk b ob (fun z => hb (by simp [z])) (fun z => hb (by simp [z])) q)) hf (Nat.le_refl _) new
    refine ⟨.ref s.heap.objs.size, _, I1, rfl, ⟨_, x, rfl, I.hok.fresh (Nat.le_refl _), rfl, fun ys hy => by rw [I.tuple_inj hy hq]; exact hx⟩, ⟨⟨u', ?_⟩, st'.1.at fun o q => (sb.2 it (Ne.symm hne)).trans q, hne⟩, fun b hb => ?_⟩
    · have e1 : ((i + 1 : Nat) : Int) = (i : Int) + 1 := by omega
      rw [e1]; exact he'
    · have hb' : b < s.heap.objs.size := by
        have e' : b = e ∨ b = it := by simpa using hb
        rcases e' with z | z
        · rw [z]; exact hel
        · rw [z]; exact hil
      rw [upd_ne (Nat.ne_of_lt hb')]
      exact (hf b hb).1
  done := by
    intro X hP hw hK hc i pins s σ H E I hf st hg
    subst hP hw hK
    obtain ⟨⟨old, he⟩, hit, hne⟩ := st
    obtain ⟨xs, hq, hx⟩ := hg
    obtain ⟨its, rv, p, hz⟩ := I.tuple hq
    obtain ⟨f0, f1, f2, f3, f4, f5⟩ := hf it (by simp)
    have hl := rv.length
    have ptup : s.heap.IsTuple a its.toArray := p
    have hT : s.TypeIs (.ref e) "enumerate" := ⟨_, he, rfl⟩
    unfold pyNext
    refine wpAny_bind (wpAny_attempt (wpAny_callSpecial?_slot (name := Str.ofString "__next__") hT F.slot_enumerate_next
      (wpAny_call_entry F.slot_enumerate_next hT F.entry_enumerate_next ?_ (F.args_enumerate_next_1 _))))
    show wpAny _ _ (field (.ref e) 2 >>= _) _ _ _
    refine wpAny_bind (wpAny_field he rfl (x := .ref it) rfl ?_)
    refine wpAny_bind (wpAny_nextOf_tuple_end (show X.A.in1.handled = none from I.ok.hd hc) hit ptup (by simp; omega) fun h' x he' hx' => ?_)
    obtain ⟨o, ho, hc⟩ := hx'
    refine wpAny_bind (wpAny_isInstance (T := "StopIteration") (b := true) ⟨o, ho, hc⟩ isSubtype_stop ?_)
    exact wpAny_pure ⟨rfl, I.turned (t' := s.toks) (fun b o hb q => he' b o hb q) f0 f1 f3 f4 f5⟩
  self := fun A i s Q E st h => let ⟨⟨_, he⟩, _⟩ := st; wpAny_pyIter_enum he h
def iEnumA (K : PySem.W.Frag) (ta : TA) : TI := fun σ H R => ta σ H fun vs H1 => ∃ a xs, vs = [.ref a] ∧ ((SqL K H1 a xs ∧ R (Ite K a) H1) ∨ (SqT K H1 a xs ∧ R (IteT K a) H1))
theorem pi_enumA {X : Cx} {e : Expr} {ta : TA} {p pos tpos : Pos} {elts : List Expr} {kk : Nat} (hg : Gl X "enumerate") (hm : X.mg "enumerate" = none) (ha : PA X [e] ta) (hs : starEach [e] X.env = [(false, eval e X.env)] := by rfl) :
    PI X (.Tuple elts kk tpos) (.Call (.Name "enumerate" p) [e] [] pos) (iEnumA X.K ta) := by
  refine ⟨fun pins s σ H R I h => ?_⟩
  refine Call_ (ld_blt I hg hm boot_enumerate (PyProof.Rows.callWith_type1 (thn (ha.run pos pins s σ H _ I h) fun us s1 ⟨vs, H1, I1, r1, q1⟩ => ?_) hs rfl))
  obtain ⟨a, xs, ex, hq⟩ := q1
  subst ex
  cases r1 with
  | cons r rr =>
    cases rr
    cases r
    have fp : ∀ b, b ∈ [s1.heap.objs.size + 1, s1.heap.objs.size] → FpOk X pins H1 b := fun b hb => by
      have e' : b = s1.heap.objs.size + 1 ∨ b = s1.heap.objs.size := by simpa using hb
      have hle : s1.heap.objs.size ≤ b := by
        rcases e' with z | z
        · rw [z]; exact Nat.le_add_right _ _
        · rw [z]; exact Nat.le_refl _
      exact I1.fpOk hle (I1.hok.fresh hle)
    rcases hq with ⟨hq, q⟩ | ⟨hq, q⟩
    · obtain ⟨its, rv, p', hz⟩ := I1.list hq
      refine call_enumerate_list p'.isList fun h' he hit hsz hk => wpAny_pyIter_enum he ?_
      have I2 : Inv X pins σ H1 { s1 with heap := h' } := I1.kept (t' := s1.toks) hk
      exact ⟨s1.heap.objs.size + 1, [s1.heap.objs.size + 1, s1.heap.objs.size], _, _, H1, rfl, I2, turn_enum a (s1.heap.objs.size + 1) s1.heap.objs.size, ⟨⟨.none, he⟩, hit, Nat.succ_ne_self _⟩, fp, q⟩
    · obtain ⟨its, rv, p', hz⟩ := I1.tuple hq
      refine enum_tuple (show s1.heap.IsTuple a its.toArray from p') fun h' he hit hsz hk => wpAny_pyIter_enum he ?_
      have I2 : Inv X pins σ H1 { s1 with heap := h' } := I1.kept (t' := s1.toks) hk
      exact ⟨s1.heap.objs.size + 1, [s1.heap.objs.size + 1, s1.heap.objs.size], _, _, H1, rfl, I2, turn_enumT a (s1.heap.objs.size + 1) s1.heap.objs.size, ⟨⟨.none, he⟩, hit, Nat.succ_ne_self _⟩, fp, q⟩
/-- a list, a tuple or a text, whichever it is -/
def iSeq (K : PySem.W.Frag) (tl : TE) : TI := fun σ H R => tl σ H fun x H1 => (∃ a, x = .ref a ∧ (∃ xs, SqL K H1 a xs) ∧ R (Itl K a) H1) ∨ (∃ a, x = .ref a ∧ (∃ xs, SqT K H1 a xs) ∧ R (Itt K a) H1) ∨ (∃ z, x = .str z ∧ R (Its z) H1)
/-- what stands behind the reading of a walked value -/
theorem pi_of {X : Cx} {tg l : Expr} {tl : TE} {w1 : V → Hp → (It → Hp → Prop) → Prop} (hl : PE X l tl)
    (h1 : ∀ (u : V) (pins : List (Addr × Obj)) (s : Shared) (σ : L2.St) (H : Hp) (R : It → Hp → Prop) (v : Value), Inv X pins σ H s → RelV u v → w1 u H R → wpAny (model X.prog X.w) X.A (pyIter v) (PIE X pins σ tg R) X.xe s) : PI X tg l (fun σ H R => tl σ H fun x H1 => w1 x H1 R) := by
  refine ⟨fun pins s σ H R I h => ?_⟩
  exact thn (hl.run pins s σ H _ I h) fun v s1 ⟨x, H1, I1, r1, q1⟩ => h1 x pins s1 σ H1 R v I1 r1 q1
theorem pi_seq {X : Cx} {tg l : Expr} {tl : TE} (hl : PE X l tl) : PI X tg l (iSeq X.K tl) := by
  refine pi_of (w1 := fun x H1 R => (∃ a, x = .ref a ∧ (∃ xs, SqL X.K H1 a xs) ∧ R (Itl X.K a) H1) ∨ (∃ a, x = .ref a ∧ (∃ xs, SqT X.K H1 a xs) ∧ R (Itt X.K a) H1) ∨ (∃ z, x = .str z ∧ R (Its z) H1)) hl fun x pins s1 σ H1 R v I1 r1 q1 => ?_
  rcases q1 with ⟨a, e, ⟨xs, hq⟩, q⟩ | ⟨a, e, ⟨xs, hq⟩, q⟩ | ⟨z, e, q⟩
  · subst e
    cases r1
    obtain ⟨its, rv, p, hz⟩ := I1.list hq
    refine wpAny_pyIter_list p.isList ?_
    refine ⟨s1.heap.objs.size, [s1.heap.objs.size], _, _, H1, rfl, I1.kept (t' := s1.toks) fun b o e => Heap.get?_push_of_some _ e, turn_list a _, ⟨_, Heap.get?_push_size _ rfl, rfl, rfl⟩, fun b hb => ?_, q⟩
    have e : b = s1.heap.objs.size := by simpa using hb
    subst e
    exact I1.fpOk (Nat.le_refl _) (I1.hok.fresh (Nat.le_refl _))
  · subst e
    cases r1
    obtain ⟨its, rv, p, hz⟩ := I1.tuple hq
    refine wpAny_pyIter_tuple (show s1.heap.IsTuple a its.toArray from p) ?_
    refine ⟨s1.heap.objs.size, [s1.heap.objs.size], _, _, H1, rfl, I1.kept (t' := s1.toks) fun b o e => Heap.get?_push_of_some _ e, turn_tuple a _, ⟨_, Heap.get?_push_size _ rfl, rfl, rfl⟩, fun b hb => ?_, q⟩
    have e : b = s1.heap.objs.size := by simpa using hb
    subst e
    exact I1.fpOk (Nat.le_refl _) (I1.hok.fresh (Nat.le_refl _))
  · subst e
    obtain ⟨t, rfl⟩ := r1
    cases ha : z.cps.all (· < 128)
    · exact wpAny_pyIter_wide ha (pi_one (tk := s1.toks) I1 _ (turn_str _ z t "str_iterator" (.inr rfl)) ⟨_, Heap.get?_push_size _ rfl, rfl, rfl⟩ q)
    · exact wpAny_pyIter_ascii ha (pi_one (tk := s1.toks) I1 _ (turn_str _ z t "str_ascii_iterator" (.inl rfl)) ⟨_, Heap.get?_push_size _ rfl, rfl, rfl⟩ q)
end FK
namespace FK
open PySem PySem.Spec L2
open PyProof.Rows hiding St

/-! ### what a loop walks -/
def ItOk (K : PySem.W.Frag) (S Src : Hp) (J : It) (ds : List D) : Prop := ∀ (i : Nat) (H3 : Hp), Same Src H3 →
  (i < ds.length → J.go i H3) ∧ (ds.length ≤ i → J.stop i H3) ∧
  ∀ (x : V) (H4 : Hp) (d : D), J.yld i H3 x H4 → ds[i]? = some d → Same H3 H4 ∧ ∀ O3 : Own, (∀ a, O3 a → H3 a ≠ none) → Same S (off O3 H3) → Rep K (off O3 H4) x d
noncomputable def srcH (B : Hp) (O : Own) (H : Hp) : Kd → Hp | .fz => off O H | .ow => off O H | .bo => B | .al => H
structure DI (X : Cx) (E : XK) (tg iter : Expr) (q : Env → R (List D × Kd)) : Prop where
  ex : ∃ wi, PI X tg iter wi ∧ ∀ (B F : Hp) (O0 : Own) (H : Hp) (O : Own) (σ : L2.St) (ρ : Env), SR X.K B F O0 H O σ ρ → EvG X.K X.mg O E H (q ρ) (fun x J H' => ItOk X.K (off O H') (srcH B O H' x.2) J x.1) (wi σ H)
theorem it_list {K : PySem.W.Frag} {S Src : Hp} {a : Addr} {vs : List V} {ds : List D} (h : SqL K Src a vs) (r : RepL K S vs ds) : ItOk K S Src (Itl K a) ds := fun i H3 s => by
  have hl := r.length
  refine ⟨fun hi => ?_, fun hi => ⟨vs, s.seq h, by omega⟩, fun x H4 d y e => ?_⟩
  · obtain ⟨u, h1, _⟩ := r.get (List.getElem?_eq_getElem hi)
    exact ⟨vs, u, s.seq h, h1⟩
  · obtain ⟨rfl, y⟩ := y
    obtain ⟨u, h1, h2⟩ := r.get e
    have := y vs (s.seq h)
    rw [h1] at this
    cases this
    exact ⟨Same.refl _, fun O3 _ s3 => h2.mono s3⟩
theorem it_tup {K : PySem.W.Frag} {S Src : Hp} {a : Addr} {vs : List V} {ds : List D} (h : SqT K Src a vs) (r : RepL K S vs ds) : ItOk K S Src (Itt K a) ds := fun i H3 s => by
  have hl := r.length
  refine ⟨fun hi => ?_, fun hi => ⟨vs, same_seqT s h, by omega⟩, fun x H4 d y e => ?_⟩
  · obtain ⟨u, h1, _⟩ := r.get (List.getElem?_eq_getElem hi)
    exact ⟨vs, u, same_seqT s h, h1⟩
  · obtain ⟨rfl, y⟩ := y
    obtain ⟨u, h1, h2⟩ := r.get e
    have := y vs (same_seqT s h)
    rw [h1] at this
    cases this
    exact ⟨Same.refl _, fun O3 _ s3 => h2.mono s3⟩
def enumL (n : Nat) : List D → List D | [] => [] | d :: r => .tup [.int n, d] :: enumL (n + 1) r
theorem enumL_length : ∀ (ds : List D) (n : Nat), (enumL n ds).length = ds.length
  | [], _ => rfl
  | d :: r, n => congrArg (· + 1) (enumL_length r (n + 1))
theorem enumL_get : ∀ (ds : List D) (n i : Nat), (enumL n ds)[i]? = ds[i]?.map fun d => .tup [.int ((n + i : Nat) : Int), d]
  | [], n, i => by simp [enumL]
  | d :: r, n, 0 => rfl
  | d :: r, n, i + 1 => by
    show (enumL (n + 1) r)[i]? = r[i]?.map _
    rw [enumL_get r (n + 1) i, show n + 1 + i = n + (i + 1) by omega]
theorem off_newU {O : Own} {H : Hp} {p : Addr} {o : HO} (dom : ∀ a, O a → H a ≠ none) (hp : H p = none) : off O (upd H p o) p = some o := off_of (fun z => dom p z hp) upd_same
theorem rep_pair {K : PySem.W.Frag} {S H3 : Hp} {O3 : Own} {T : Addr} {x y : V} {d e : D} (dom : ∀ a, O3 a → H3 a ≠ none) (s3 : Same S (off O3 H3)) (hT : H3 T = none) (h1 : Rep K S x d) (h2 : Rep K S y e) : Rep K (off O3 (upd H3 T (.tup [x, y]))) (.ref T) (.tup [d, e]) :=
  rep_tup (O := O3) dom hT (.cons (h1.mono s3) (.cons (h2.mono s3) .nil))
theorem it_enum {K : PySem.W.Frag} {S Src : Hp} {a : Addr} {vs : List V} {ds : List D} (h : SqL K Src a vs) (r : RepL K S vs ds) : ItOk K S Src (Ite K a) (enumL 0 ds) := fun i H3 s => by
  have hl := r.length
  rw [enumL_length]
  refine ⟨fun hi => ?_, fun hi => ⟨vs, s.seq h, by omega⟩, fun x H4 d y e => ?_⟩
  · obtain ⟨u, h1, _⟩ := r.get (List.getElem?_eq_getElem hi)
    exact ⟨vs, u, s.seq h, h1⟩
  · obtain ⟨T, z, rfl, hT, rfl, y⟩ := y
    rw [enumL_get] at e
    cases q : ds[i]? with
    | none => rw [q] at e; cases e
    | some d' =>
      rw [q] at e
      cases e
      obtain ⟨u, h1, h2⟩ := r.get q
      have := y vs (s.seq h)
      rw [h1] at this
      cases this
      refine ⟨same_upd hT, fun O3 dom s3 => ?_⟩
      rw [Nat.zero_add]
      exact rep_pair dom s3 hT (.int _) h2
theorem it_enumT {K : PySem.W.Frag} {S Src : Hp} {a : Addr} {vs : List V} {ds : List D} (h : SqT K Src a vs) (r : RepL K S vs ds) : ItOk K S Src (IteT K a) (enumL 0 ds) := fun i H3 s => by
  have hl := r.length
  rw [enumL_length]
  refine ⟨fun hi => ?_, fun hi => ⟨vs, same_seqT s h, by omega⟩, fun x H4 d y e => ?_⟩
  · obtain ⟨u, h1, _⟩ := r.get (List.getElem?_eq_getElem hi)
    exact ⟨vs, u, same_seqT s h, h1⟩
  · obtain ⟨T, z, rfl, hT, rfl, y⟩ := y
    rw [enumL_get] at e
    cases q : ds[i]? with
    | none => rw [q] at e; cases e
    | some d' =>
      rw [q] at e
      cases e
      obtain ⟨u, h1, h2⟩ := r.get q
      have := y vs (same_seqT s h)
      rw [h1] at this
      cases this
      refine ⟨same_upd hT, fun O3 dom s3 => ?_⟩
      rw [Nat.zero_add]
      exact rep_pair dom s3 hT (.int _) h2
def rangeL (lo c : Int) (n : Nat) : List D := (List.range n).map fun i => D.int (lo + (i : Nat) * c)
theorem it_range {K : PySem.W.Frag} {S Src : Hp} (lo c : Int) (n : Nat) : ItOk K S Src (Itc lo c n) (rangeL lo c n) := fun i H3 s => by
  have hl : (rangeL lo c n).length = n := by simp [rangeL]
  rw [hl]
  refine ⟨fun hi => hi, fun hi => hi, fun x H4 d y e => ?_⟩
  obtain ⟨rfl, rfl⟩ := y
  have hi : i < n := by
    have := (List.getElem?_eq_some_iff.mp e).1
    omega
  have : d = .int (lo + (i : Nat) * c) := by
    unfold rangeL at e
    rw [List.getElem?_map, List.getElem?_range hi] at e
    exact (Option.some.inj e).symm
  subst this
  exact ⟨Same.refl _, fun O3 _ _ => .int _⟩
theorem it_range1 {K : PySem.W.Frag} {S Src : Hp} (lo : Int) (n : Nat) : ItOk K S Src (Itr lo n) (rangeL lo 1 n) := fun i H3 s => by
  have hl : (rangeL lo 1 n).length = n := by simp [rangeL]
  rw [hl]
  refine ⟨fun hi => hi, fun hi => hi, fun x H4 d y e => ?_⟩
  obtain ⟨rfl, rfl⟩ := y
  have hi : i < n := by
    have := (List.getElem?_eq_some_iff.mp e).1
    omega
  have : d = .int (lo + (i : Nat) * 1) := by
    unfold rangeL at e
    rw [List.getElem?_map, List.getElem?_range hi] at e
    exact (Option.some.inj e).symm
  subst this
  rw [Int.mul_one]
  exact ⟨Same.refl _, fun O3 _ _ => .int _⟩
section
variable {X : Cx} {E : XK} {tg iter e a b c l elt : Expr} {es : List Expr} {p pa pb pc pe : Env → R DV} {pt : Env → R Bool} {pl : Env → R (List DV)} {pos : Pos} {k : Nat}
/-- a sequence's place and items, where they are known to stay -/
theorem Out.src {B H0 H : Hp} {O0 O : Own} {v : V} {x : DV} {ds : List D} (sb : Same B H) (fb : Same (off O0 B) (off O H)) (h : Out X.K B O0 H0 H O v x) (e : x.1 = .lst ds) : ∃ a vs, v = .ref a ∧ SqL X.K (srcH B O H x.2) a vs ∧ RepL X.K (off O H) vs ds ∧ SqL X.K H a vs := by
  obtain ⟨d, k⟩ := x
  cases (show d = .lst ds from e)
  cases k with
  | fz =>
    cases (show Rep _ _ _ _ from h) with
    | lst h1 h2 => exact ⟨_, _, rfl, h1, h2, Same.seq off_sub h1⟩
  | ow =>
    have hh := Out.fzD h
    obtain ⟨a, ea, na, oa, vs, c1, c2⟩ := h
    exact ⟨a, vs, ea, SqL.of (off_of oa c1), c2.mono (off_anti fun b z => .inl z), SqL.of c1⟩
  | bo =>
    obtain ⟨a, ea, ⟨vs, c1, c2⟩, ⟨ws, c3, c4⟩⟩ := h
    exact ⟨a, vs, ea, c1, c2.mono fb, sb.seq c1⟩
  | al =>
    obtain ⟨a, ea, vs, c1, c2⟩ := h
    exact ⟨a, vs, ea, c1, c2, c1⟩
theorem Out.srcT {B H0 H : Hp} {O0 O : Own} {v : V} {x : DV} {ds : List D} (sb : Same B H) (fb : Same (off O0 B) (off O H)) (h : Out X.K B O0 H0 H O v x) (e : x.1 = .tup ds) : ∃ a vs, v = .ref a ∧ SqT X.K (srcH B O H x.2) a vs ∧ RepL X.K (off O H) vs ds ∧ SqT X.K H a vs := by
  obtain ⟨d, k⟩ := x
  cases (show d = .tup ds from e)
  cases k with
  | fz =>
    cases (show Rep _ _ _ _ from h) with
    | tup h1 h2 => exact ⟨_, _, rfl, SqT.of h1, h2, SqT.of (off_sub _ _ h1)⟩
  | ow =>
    obtain ⟨a, ea, na, oa, c⟩ := h
    exact c.elim
  | bo =>
    obtain ⟨a, ea, ⟨vs, c1, c2⟩, _⟩ := h
    exact ⟨a, vs, ea, c1, c2.mono fb, same_seqT sb c1⟩
  | al =>
    obtain ⟨a, ea, vs, c1, c2⟩ := h
    exact ⟨a, vs, ea, c1, c2, c1⟩
def itemsD (x : DV) : R (List D × Kd) := match x.1 with
  | .lst xs => .ok (xs, x.2)
  | .tup xs => .ok (xs, x.2)
  | .str z => .ok (z.cps.toList.map fun c => .str ⟨#[c]⟩, .fz)
  | _ => .no
theorem it_str {K : PySem.W.Frag} {S Src : Hp} (z : Str) : ItOk K S Src (Its z) (z.cps.toList.map fun c => .str ⟨#[c]⟩) := fun i H3 s => by
  have hl : (z.cps.toList.map fun c => D.str ⟨#[c]⟩).length = z.cps.size := by simp
  rw [hl]
  refine ⟨fun hi => hi, fun hi => hi, fun x H4 d y e => ?_⟩
  obtain ⟨rfl, c, hc, rfl⟩ := y
  have : d = .str ⟨#[c]⟩ := by
    rw [List.getElem?_map, Array.getElem?_toList, hc] at e
    exact (Option.some.inj e).symm
  subst this
  exact ⟨Same.refl _, fun O3 _ _ => .str _⟩
theorem di_seq (hl : DE X E l p) : DI X E tg l (fun ρ => (p ρ).bind itemsD) := by
  obtain ⟨t, a1, a2⟩ := hl.ex
  refine ⟨_, pi_seq a1, fun B F O0 H O σ ρ R => ?_⟩
  refine EvG.bind (T1 := fun x H1 R => (∃ a, x = .ref a ∧ (∃ xs, SqL X.K H1 a xs) ∧ R (Itl X.K a) H1) ∨ (∃ a, x = .ref a ∧ (∃ xs, SqT X.K H1 a xs) ∧ R (Itt X.K a) H1) ∨ (∃ z, x = .str z ∧ R (Its z) H1)) (a2 B F O0 H O σ ρ R) fun x v H1 s1 r1 => ?_
  have R1 := R.more s1
  unfold itemsD
  obtain ⟨d, kk⟩ := x
  cases d <;> first | exact True.intro | skip
  · cases r1.str
    exact fun Q hQ => .inr (.inr ⟨_, rfl, hQ _ _ (Same.refl _) (it_str _)⟩)
  · obtain ⟨a, vs, rfl, h1, h2, h3⟩ := Out.src R1.base R1.fb r1 rfl
    exact fun Q hQ => .inl ⟨a, rfl, ⟨vs, h3⟩, hQ _ _ (Same.refl _) (it_list h1 h2)⟩
  · obtain ⟨a, vs, rfl, h1, h2, h3⟩ := Out.srcT R1.base R1.fb r1 rfl
    exact fun Q hQ => .inr (.inl ⟨a, rfl, ⟨vs, h3⟩, hQ _ _ (Same.refl _) (it_tup h1 h2)⟩)
def enumD (x : DV) : R (List D × Kd) := match x.1 with
  | .lst xs => .ok (enumL 0 xs, x.2)
  | .tup xs => .ok (enumL 0 xs, x.2)
  | _ => .no
theorem di_enum {elts : List Expr} {kk : Nat} {tpos pp : Pos} (hg : Gl X "enumerate") (hm : X.mg "enumerate" = none) (he : DE X E e p) (hs : starEach [e] X.env = [(false, eval e X.env)] := by rfl) (hs1 : starEach [e] X.env = (false, eval e X.env) :: starEach [] X.env := by rfl) :
    DI X E (.Tuple elts kk tpos) (.Call (.Name "enumerate" pp) [e] [] pos) (fun ρ => (p ρ).bind enumD) := by
  obtain ⟨t, a1, a2⟩ := he.ex
  refine ⟨_, pi_enumA hg hm (pa_cons a1 pa_nil hs1) hs, fun B F O0 H O σ ρ R => ?_⟩
  refine EvG.bind (T1 := fun x H1 R => ∃ a xs, [x] = [V.ref a] ∧ ((SqL X.K H1 a xs ∧ R (Ite X.K a) H1) ∨ (SqT X.K H1 a xs ∧ R (IteT X.K a) H1))) (a2 B F O0 H O σ ρ R) fun x v H1 s1 r1 => ?_
  have R1 := R.more s1
  unfold enumD
  obtain ⟨d, kk⟩ := x
  cases d <;> first | exact True.intro | skip
  · obtain ⟨a, vs, rfl, h1, h2, h3⟩ := Out.src R1.base R1.fb r1 rfl
    exact fun Q hQ => ⟨a, vs, rfl, .inl ⟨h3, hQ _ _ (Same.refl _) (it_enum h1 h2)⟩⟩
  · obtain ⟨a, vs, rfl, h1, h2, h3⟩ := Out.srcT R1.base R1.fb r1 rfl
    exact fun Q hQ => ⟨a, vs, rfl, .inr ⟨h3, hQ _ _ (Same.refl _) (it_enumT h1 h2)⟩⟩
def rg1 (x : DV) : R (List D × Kd) := match x.1 with | .int j => if -(2 ^ 62) ≤ j ∧ j < 2 ^ 62 then .ok (rangeL 0 1 j.toNat, .fz) else .no | _ => .no
def rg2 (x y : DV) : R (List D × Kd) := match x.1, y.1 with | .int i, .int j => if -(2 ^ 62) ≤ i ∧ i < 2 ^ 62 ∧ -(2 ^ 62) ≤ j ∧ j < 2 ^ 62 then .ok (rangeL i 1 (j - i).toNat, .fz) else .no | _, _ => .no
theorem di_range1 {pp : Pos} (hg : Gl X "range") (hm : X.mg "range" = none) (he : DE X E e p) (hs : starEach [e] X.env = [(false, eval e X.env)] := by rfl) (hs1 : starEach [e] X.env = (false, eval e X.env) :: starEach [] X.env := by rfl) :
    DI X E tg (.Call (.Name "range" pp) [e] [] pos) (fun ρ => (p ρ).bind rg1) := by
  obtain ⟨t, a1, a2⟩ := he.ex
  refine ⟨_, pi_range1 hg hm (pa_cons a1 pa_nil hs1) hs, fun B F O0 H O σ ρ R => ?_⟩
  refine EvG.bind (T1 := fun x H1 R => ∃ j : Int, [x] = [V.int j] ∧ -(2 ^ 62) ≤ j ∧ j < 2 ^ 62 ∧ R (Itr 0 j.toNat) H1) (a2 B F O0 H O σ ρ R) fun x v H1 s1 r1 => ?_
  unfold rg1
  obtain ⟨d, kk⟩ := x
  cases d <;> first | exact True.intro | skip
  cases Out.int r1
  dsimp only
  split
  · rename_i c
    exact fun Q hQ => ⟨_, rfl, c.1, c.2, hQ _ _ (Same.refl _) (it_range1 0 _)⟩
  · trivial
theorem di_range2 {e' : Expr} {p' : Env → R DV} {pp : Pos} (hg : Gl X "range") (hm : X.mg "range" = none) (he : DE X E e p) (he' : DE X E e' p') (hs : starEach [e, e'] X.env = [(false, eval e X.env), (false, eval e' X.env)] := by rfl) (hs2 : starEach [e'] X.env = [(false, eval e' X.env)] := by rfl)
    (hs1 : starEach [e, e'] X.env = (false, eval e X.env) :: starEach [e'] X.env := by rfl) (hs3 : starEach [e'] X.env = (false, eval e' X.env) :: starEach [] X.env := by rfl) :
    DI X E tg (.Call (.Name "range" pp) [e, e'] [] pos) (fun ρ => (p ρ).bind fun x => (p' ρ).bind fun y => rg2 x y) := by
  obtain ⟨t, a1, a2⟩ := he.ex
  obtain ⟨u, b1, b2⟩ := he'.ex
  refine ⟨_, pi_range2 hg hm (pa_cons a1 (pa_cons b1 pa_nil hs3) hs1) hs hs2, fun B F O0 H O σ ρ R => ?_⟩
  refine EvG.bind (T1 := fun x H1 R => u σ H1 fun y H2 => ∃ i j : Int, [x, y] = [V.int i, V.int j] ∧ (-(2 ^ 62) ≤ i ∧ i < 2 ^ 62 ∧ -(2 ^ 62) ≤ j ∧ j < 2 ^ 62) ∧ R (Itr i (j - i).toNat) H2) (a2 B F O0 H O σ ρ R) fun x v H1 s1 r1 => ?_
  refine EvG.bind (T1 := fun y H2 R => ∃ i j : Int, [v, y] = [V.int i, V.int j] ∧ (-(2 ^ 62) ≤ i ∧ i < 2 ^ 62 ∧ -(2 ^ 62) ≤ j ∧ j < 2 ^ 62) ∧ R (Itr i (j - i).toNat) H2) (b2 B F O0 H1 O σ ρ (R.more s1)) fun y w H2 s2 r2 => ?_
  unfold rg2
  obtain ⟨d, kk⟩ := x
  obtain ⟨d', kk'⟩ := y
  cases d <;> cases d' <;> first | exact True.intro | skip
  cases Out.int r1
  cases Out.int r2
  dsimp only
  split
  · rename_i c
    exact fun Q hQ => ⟨_, _, rfl, c, hQ _ _ (Same.refl _) (it_range1 _ _)⟩
  · trivial

/-! ### targets -/
structure DG (X : Cx) (tg : Expr) (is : List Nat) (f : D → Env → Option Env) : Prop where
  ex : ∃ g, PG X tg g ∧ ∀ (B F : Hp) (O0 : Own) (H : Hp) (O : Own) (σ : L2.St) (ρ ρ' : Env) (v : V) (d : D) (Q : L2.St → Hp → Prop), SR X.K B F O0 H O σ ρ → Rep X.K (off O H) v d → f d ρ = some ρ' →
    (∀ σ', SR X.K B F O0 H O σ' ρ' → (∀ vs : List Nat, (∀ i ∈ is, i ∈ vs) → wipe σ' vs = wipe σ vs) → Q σ' H) → g v σ H Q
theorem wipe_set {α : Option V} (i : Nat) : ∀ (vs : List Nat) (σ : L2.St), i ∈ vs → wipe (σ.set i α) vs = wipe σ vs
  | [], _, h => nomatch h
  | v :: vs, σ, h => by
    unfold wipe
    by_cases c : i ∈ vs
    · rw [wipe_set i vs σ c]
    · have e : i = v := by
        rcases List.mem_cons.mp h with e | e
        · exact e
        · exact absurd e c
      subst e
      have comm : ∀ (vs : List Nat), i ∉ vs → wipe (σ.set i α) vs = (wipe σ vs).set i α := by
        intro vs
        induction vs with
        | nil => intro _; rfl
        | cons w r ih =>
          intro h
          have h1 : i ≠ w := fun e => h (by rw [e]; exact List.mem_cons_self)
          have h2 : i ∉ r := fun e => h (List.mem_cons_of_mem _ e)
          show (wipe (σ.set i α) r).set w none = ((wipe σ r).set w none).set i α
          rw [ih h2, List.set_comm _ _ h1]
      rw [comm vs c, List.set_set]
theorem dg_name (i : Nat) {x : Str} (hN : X.N.Nodup) (hi : X.N[i]? = some x) (hx : Loc X.env.scope x) (hf : X.fn x = true ∨ X.env.scope.names.lookup x = some .local := by first | exact .inl rfl | exact .inr rfl | assumption) :
    DG X (.Name x pos) [i] (fun d ρ => some (ρ.set i (some (d, .fz)))) := ⟨_, pg_name hN hi hx hf, fun B F O0 H O σ ρ ρ' v d Q R r e h => by
  cases e
  exact h _ (R.set (x := (d, .fz)) r fun z => nomatch z) fun vs hv => wipe_set i vs σ (hv i List.mem_cons_self)⟩
structure DGs (X : Cx) (tgs : List Expr) (is : List Nat) (f : List D → Env → Option Env) : Prop where
  ex : ∃ g, PGs X tgs g ∧ ∀ (B F : Hp) (O0 : Own) (H : Hp) (O : Own) (σ : L2.St) (ρ ρ' : Env) (vs : List V) (ds : List D) (Q : L2.St → Hp → Prop), SR X.K B F O0 H O σ ρ → RepL X.K (off O H) vs ds → f ds ρ = some ρ' →
    (∀ σ', SR X.K B F O0 H O σ' ρ' → (∀ vs : List Nat, (∀ i ∈ is, i ∈ vs) → wipe σ' vs = wipe σ vs) → Q σ' H) → g vs σ H Q
def gsNil (ds : List D) (ρ : Env) : Option Env := match ds with | [] => some ρ | _ => none
def gsCons (f : D → Env → Option Env) (g : List D → Env → Option Env) (ds : List D) (ρ : Env) : Option Env := match ds with | d :: r => (f d ρ).bind (g r) | [] => none
theorem dgs_nil : DGs X [] [] gsNil := ⟨_, pgs_nil, fun B F O0 H O σ ρ ρ' vs ds Q R r e h => by
  cases r with
  | nil =>
    cases e
    exact ⟨rfl, h σ R fun _ _ => rfl⟩
  | cons _ _ => cases e⟩
theorem dgs_cons {is is' : List Nat} {tgs : List Expr} {f : D → Env → Option Env} {g : List D → Env → Option Env} (h1 : DG X tg is f) (h2 : DGs X tgs is' g)
    (hs : (assignEach (tg :: tgs) X.env).map (·.2) = assign tg X.env :: (assignEach tgs X.env).map (·.2) := by rfl) : DGs X (tg :: tgs) (is ++ is') (gsCons f g) := by
  obtain ⟨u, a1, a2⟩ := h1.ex
  obtain ⟨w, b1, b2⟩ := h2.ex
  refine ⟨_, pgs_cons a1 b1 hs, fun B F O0 H O σ ρ ρ' vs ds Q R r e h => ?_⟩
  cases r with
  | nil => cases e
  | cons r rr =>
    unfold gsCons at e
    dsimp only at e
    rename_i v vs' d ds'
    cases q : f d ρ with
    | none => rw [q] at e; cases e
    | some ρ1 =>
      rw [q] at e
      refine ⟨_, _, rfl, a2 B F O0 H O σ ρ ρ1 _ d _ R r q fun σ1 R1 w1 => ?_⟩
      refine b2 B F O0 H O σ1 ρ1 ρ' _ ds' Q R1 rr e fun σ2 R2 w2 => h σ2 R2 fun vs hv => ?_
      rw [w2 vs fun i hi => hv i (List.mem_append_right _ hi), w1 vs fun i hi => hv i (List.mem_append_left _ hi)]
theorem dg_tup {is : List Nat} {es : List Expr} {f : List D → Env → Option Env} {kk n : Nat} (hc : X.calm = true) (h : DGs X es is f) (hn : (assignEach es X.env).length = n := by rfl) (hst : (assignEach es X.env).findIdx? (·.1) = none := by rfl) :
    DG X (.Tuple es kk pos) is (fun d ρ => match d with | .tup ds => if ds.length = n then f ds ρ else none | _ => none) := by
  obtain ⟨u, a1, a2⟩ := h.ex
  refine ⟨_, pg_tup hc a1 hn hst, fun B F O0 H O σ ρ ρ' v d Q R r e h => ?_⟩
  cases r <;> first | (cases e; done) | skip
  rename_i a vs ds h1 h2
  dsimp only at e
  split at e
  · rename_i hl
    exact ⟨a, vs, rfl, SqT.of (off_sub _ _ h1), by rw [h2.length]; exact hl, a2 B F O0 H O σ ρ ρ' vs ds Q R h2 e h⟩
  · cases e

/-! ### for, while -/
def forM (f : D → Env → Option Env) (body : Env → SO) : List D → Env → SO
  | [], ρ => .nx ρ
  | d :: ds, ρ => match f d ρ with
    | none => .no
    | some ρ1 => match body ρ1 with
      | .nx ρ2 => forM f body ds ρ2
      | .ct ρ2 => forM f body ds ρ2
      | .bk ρ2 => .nx ρ2
      | r => r
abbrev sFor (q : Env → R (List D × Kd)) (f : D → Env → Option Env) (body : Env → SO) : Env → SO := fun ρ => (q ρ).st fun x => if x.2 = .al then .no else forM f body x.1 ρ
theorem EndsOk.frame {K : PySem.W.Frag} {mg : Str → Option Value} {B F F' : Hp} {O0 : Own} {D : Ends} {E : XK} {r : SO} (s : Same F F') (h : EndsOk K mg B F O0 D E r) : EndsOk K mg B F' O0 D E r := by
  cases r with
  | nx ρ => exact fun σ H O R => h σ H O (R.weaken s)
  | rt x => exact h
  | bk ρ => exact fun σ H O R => h σ H O (R.weaken s)
  | ct ρ => exact fun σ H O R => h σ H O (R.weaken s)
  | ex e => exact h
  | no => exact h
theorem ds_for {is : List Nat} {q : Env → R (List D × Kd)} {f : D → Env → Option Env} {body : List Stmt} {m : Env → SO} (hp : PassesOwn (model X.prog X.w) X.A X.env X.xe) (hc : X.calm = true) (hi : DI X E tg iter q) (hg : DG X tg is f) (hb : DSs X E body m)
    (hs : ∀ x, foldedSetIterable iter X.env x = pure x := by intro _; rfl) : DS X E (.For tg iter body [] pos) (sFor q f m) := by
  obtain ⟨wi, a1, a2⟩ := hi.ex
  obtain ⟨g, b1, b2⟩ := hg.ex
  obtain ⟨t, c1, c2⟩ := hb.ex
  refine ⟨_, ps_for hp hc a1 b1 c1 hs, fun B F O0 H O σ ρ D R h => ?_⟩
  refine ev_st (Q := fun J H1 => ∃ W : Nat → Nat → L2.St → Hp → Prop, (∃ m, W 0 m σ H1) ∧ ∀ i m σ H, W i m σ H →
    (J.stop i H ∧ D.nx σ H) ∨ (J.go i H ∧ ∃ N : L2.St → Hp → Prop, (∀ σ' H', N σ' H' → ∃ m', m' < m ∧ W (i + 1) m' σ' H') ∧ ∀ x H', J.yld i H x H' → g x σ H' fun σ2 H2 => t { D with nx := N, ct := N, bk := D.nx } σ2 H2)) R.base R.sub (a2 B F O0 H O σ ρ R) h fun x J H1 ex s1 it h1 => ?_
  obtain ⟨ds, kk⟩ := x
  dsimp only at h1 it ex
  have R1 := R.more s1
  have hF : Same F (off O H1) := R1.frz
  split at h1
  · exact h1.elim
  · rename_i nk
    have src : ∀ {H' : Hp} {O' : Own} {σ' : L2.St} {ρ' : Env}, SR X.K B (off O H1) O0 H' O' σ' ρ' → Same (srcH B O H1 kk) H' := fun {H' O' σ' ρ'} R' => by
      cases kk with
      | fz => exact R'.frz.trans off_sub
      | ow => exact R'.frz.trans off_sub
      | bo => exact R'.base
      | al => exact absurd rfl nk
    refine ⟨fun i mm σ' H' => mm = ds.length - i ∧ i ≤ ds.length ∧ ∃ O' ρ', SR X.K B (off O H1) O0 H' O' σ' ρ' ∧ EndsOk X.K X.mg B F O0 D E (forM f m (ds.drop i) ρ'), ⟨ds.length, by omega, Nat.zero_le _, O, ρ, R1.reframe (Same.refl _), h1⟩, ?_⟩
    rintro i mm σ' H' ⟨rfl, hi, O', ρ', R', ends⟩
    obtain ⟨i1, i2, i3⟩ := it i H' (src R')
    by_cases hlt : i < ds.length
    · refine .inr ⟨i1 hlt, fun σ2 H2 => ∃ O2 ρ2, SR X.K B (off O H1) O0 H2 O2 σ2 ρ2 ∧ EndsOk X.K X.mg B F O0 D E (forM f m (ds.drop (i + 1)) ρ2), fun σ2 H2 ⟨O2, ρ2, R2, e2⟩ => ⟨ds.length - (i + 1), by omega, rfl, hlt, O2, ρ2, R2, e2⟩, fun v H4 y => ?_⟩
      rw [List.drop_eq_getElem_cons hlt] at ends
      unfold forM at ends
      obtain ⟨s4, r4⟩ := i3 v H4 ds[i] y (List.getElem?_eq_getElem hlt)
      have R4 := R'.more s4
      cases q1 : f ds[i] ρ' with
      | none => simp only [q1] at ends; exact ends.elim
      | some ρ1 =>
        simp only [q1] at ends
        refine b2 B _ O0 H4 O' σ' ρ' ρ1 v ds[i] _ R4 (r4 O' R'.dom R'.frz) q1 fun σ5 R5 _ => ?_
        refine c2 B _ O0 H4 O' σ5 ρ1 _ R5 ?_
        cases q2 : m ρ1 with
        | nx ρ2 => simp only [q2] at ends; exact fun σ6 H6 O6 R6 => ⟨O6, ρ2, R6, ends⟩
        | ct ρ2 => simp only [q2] at ends; exact fun σ6 H6 O6 R6 => ⟨O6, ρ2, R6, ends⟩
        | bk ρ2 => simp only [q2] at ends; exact fun σ6 H6 O6 R6 => ends σ6 H6 O6 (R6.weaken hF)
        | rt x => simp only [q2] at ends; exact ends
        | ex x => simp only [q2] at ends; exact ends
        | no => simp only [q2] at ends; exact ends
    · have e : i = ds.length := by omega
      subst e
      rw [List.drop_length] at ends
      exact .inl ⟨i2 (Nat.le_refl _), ends σ' H' O' (R'.weaken hF)⟩
def whileM (pt : Env → R Bool) (body : Env → SO) : Nat → Env → SO
  | 0, _ => .no
  | n + 1, ρ => (pt ρ).st fun b => if b then (match body ρ with
      | .nx ρ2 => whileM pt body n ρ2
      | .ct ρ2 => whileM pt body n ρ2
      | .bk ρ2 => .nx ρ2
      | r => r) else .nx ρ
theorem ds_while {pt : Env → R Bool} {m : Env → SO} {body : List Stmt} (n : Nat) (hp : PassesOwn (model X.prog X.w) X.A X.env X.xe) (hc : DT X E c pt) (hb : DSs X E body m) : DS X E (.While c body [] pos) (whileM pt m n) := by
  obtain ⟨t, a1, a2⟩ := hc.ex
  obtain ⟨u, b1, b2⟩ := hb.ex
  refine ⟨_, ps_while hp a1 b1, fun B F O0 H O σ ρ D R h => ?_⟩
  refine ⟨fun n σ H => ∃ O ρ, SR X.K B F O0 H O σ ρ ∧ EndsOk X.K X.mg B F O0 D E (whileM pt m n ρ), ⟨n, O, ρ, R, h⟩, ?_⟩
  rintro n σ' H' ⟨O', ρ', R', h'⟩
  cases n with
  | zero => exact h'.elim
  | succ n =>
    unfold whileM at h'
    refine ev_st (Q := fun b H1 => if b = true then ∃ N : L2.St → Hp → Prop, (∀ σ2 H2, N σ2 H2 → ∃ m', m' < n + 1 ∧ ∃ O ρ, SR X.K B F O0 H2 O σ2 ρ ∧ EndsOk X.K X.mg B F O0 D E (whileM pt m m' ρ)) ∧ u { D with nx := N, ct := N, bk := D.nx } σ' H1 else D.nx σ' H1) R'.base R'.sub (a2 B F O0 H' O' σ' ρ' R') h' fun b c H1 ex s1 e h1 => ?_
    subst e
    have R1 := R'.more s1
    cases c with
    | false => exact h1 σ' H1 O' R1
    | true =>
      refine ⟨fun σ2 H2 => ∃ O ρ, SR X.K B F O0 H2 O σ2 ρ ∧ EndsOk X.K X.mg B F O0 D E (whileM pt m n ρ), fun σ2 H2 q => ⟨n, Nat.lt_succ_self _, q⟩, ?_⟩
      refine b2 B F O0 H1 O' σ' ρ' _ R1 ?_
      cases q : m ρ' with
      | nx ρ2 => rw [q] at h1; exact fun σ2 H2 O2 R2 => ⟨O2, ρ2, R2, h1⟩
      | ct ρ2 => rw [q] at h1; exact fun σ2 H2 O2 R2 => ⟨O2, ρ2, R2, h1⟩
      | bk ρ2 => rw [q] at h1; exact h1
      | rt x => rw [q] at h1; exact h1
      | ex x => rw [q] at h1; exact h1
      | no => rw [q] at h1; exact h1
end
end FK
namespace FK
open PySem PySem.Spec L2
open PyProof.Rows hiding St

/-! ### readings by the mirror alone (the same for every context) -/
abbrev E0 : XK := fun _ _ _ => False
def cT (K : PySem.W.Frag) (p : Env → R DV) : TE := fun σ H Q => ∃ (B F : Hp) (O0 O : Own) (ρ : Env) (x : DV), SR K B F O0 H O σ ρ ∧ p ρ = .ok x ∧ ∀ v H', Same H H' → Out K B O0 H H' O v x → Q v H'
def cTT (K : PySem.W.Frag) (p : Env → R Bool) : TT := fun σ H Q => ∃ (B F : Hp) (O0 O : Own) (ρ : Env) (x : Bool), SR K B F O0 H O σ ρ ∧ p ρ = .ok x ∧ ∀ H', Same H H' → Q x H'
def cG (K : PySem.W.Frag) (is : List Nat) (f : D → Env → Option Env) : TG := fun v σ H Q => ∃ (B F : Hp) (O0 O : Own) (ρ ρ' : Env) (d : D), SR K B F O0 H O σ ρ ∧ Rep K (off O H) v d ∧ f d ρ = some ρ' ∧
  ∀ σ', SR K B F O0 H O σ' ρ' → (∀ vs : List Nat, (∀ i ∈ is, i ∈ vs) → wipe σ' vs = wipe σ vs) → Q σ' H
section
variable {X : Cx} {E : XK} {tg iter e a b c l elt : Expr} {es : List Expr} {p pa pb pc pe : Env → R DV} {pt : Env → R Bool} {pl : Env → R (List DV)} {pos : Pos} {k : Nat} {is : List Nat} {f : D → Env → Option Env}
theorem DE.canon (h : DE X E e p) : PE X e (cT X.K p) := by
  obtain ⟨t, h1, h2⟩ := h.ex
  refine ⟨fun pins s σ H Q I q => ?_⟩
  obtain ⟨B, F, O0, O, ρ, x, R, ex, hQ⟩ := q
  have := h2 B F O0 H O σ ρ R
  rw [ex] at this
  exact h1.run pins s σ H Q I (this Q hQ)
theorem DT.canon (h : DT X E e pt) : PT X e (cTT X.K pt) := by
  obtain ⟨t, h1, h2⟩ := h.ex
  refine ⟨fun pins s σ H Q I q => ?_⟩
  obtain ⟨B, F, O0, O, ρ, x, R, ex, hQ⟩ := q
  have := h2 B F O0 H O σ ρ R
  rw [ex] at this
  exact h1.run pins s σ H Q I (this Q fun v H' s' e => by cases e; exact hQ H' s')
theorem DG.canon (h : DG X tg is f) : PG X tg (cG X.K is f) := by
  obtain ⟨t, h1, h2⟩ := h.ex
  refine ⟨fun pins s σ H v u Q I r q => ?_⟩
  obtain ⟨B, F, O0, O, ρ, ρ', d, R, rr, ef, hQ⟩ := q
  exact h1.run pins s σ H v u Q I r (h2 B F O0 H O σ ρ ρ' v d Q R rr ef hQ)
/-- tests of a comprehension -/
structure DTs (X : Cx) (E : XK) (ifs : List Expr) (p : Env → R Bool) : Prop where
  ex : PTs X ifs (cTT X.K p)
theorem dts_nil : DTs X E [] (fun _ => .ok true) := ⟨⟨fun pins s σ H Q I h => by
  obtain ⟨B, F, O0, O, ρ, x, R, ex, hQ⟩ := h
  cases ex
  exact pts_nil.run pins s σ H Q I (hQ H (Same.refl _))⟩⟩
theorem dts_one (h : DT X E c pt) : DTs X E [c] pt := ⟨pts_one h.canon⟩

/-! ### comprehensions -/
def R.quiet {α : Type} : R α → R α | .ex _ => .no | r => r
def wipeD (ρ : Env) : List Nat → Env
  | [] => ρ
  | v :: vs => (wipeD ρ vs).set v none
def lcM (f : D → Env → Option Env) (pt : Env → R Bool) (pe : Env → R DV) : List D → Env → R (List D)
  | [], _ => .ok []
  | d :: ds, ρ => match f d ρ with
    | none => .no
    | some ρ1 => (pt ρ1).quiet.bind fun b => if b then (pe ρ1).quiet.bind fun x => (match keep1 x with
        | none => .no
        | some y => (lcM f pt pe ds ρ).bind fun r => .ok (y :: r))
      else lcM f pt pe ds ρ
abbrev mLc (q : Env → R (List D × Kd)) (f : D → Env → Option Env) (pt : Env → R Bool) (pe : Env → R DV) (vs : List Nat) : Env → R DV := fun ρ => (q ρ).bind fun x => if x.1.length ≤ sizeLine then (lcM f pt pe x.1 (wipeD ρ vs)).bind fun r => .ok (.lst r, .ow) else .no
theorem SR.unset {K : PySem.W.Frag} {B F H : Hp} {O0 O : Own} {σ : L2.St} {ρ : Env} (R : SR K B F O0 H O σ ρ) (i : Nat) : SR K B F O0 H O (σ.set i none) (ρ.set i none) where
  nt := R.nt
  len := by rw [List.length_set, List.length_set]; exact R.len
  base := R.base
  frz := R.frz
  fb := R.fb
  dom := R.dom
  dom0 := R.dom0
  sub := R.sub
  slot := fun j y e => by
    by_cases c : j = i
    · subst c
      by_cases hl : j < ρ.length
      · rw [List.getElem?_set_self hl] at e; cases e
      · rw [List.getElem?_eq_none (by rw [List.length_set]; omega)] at e; cases e
    · rw [List.getElem?_set_ne (Ne.symm c)] at e ⊢
      exact R.slot j y e
  sep := fun j l y z a hjl e1 k1 e2 k2 g1 g2 => by
    have c1 : j ≠ i := fun c => by
      subst c
      by_cases hl : j < ρ.length
      · rw [List.getElem?_set_self hl] at e1; cases e1
      · rw [List.getElem?_eq_none (by rw [List.length_set]; omega)] at e1; cases e1
    have c2 : l ≠ i := fun c => by
      subst c
      by_cases hl : l < ρ.length
      · rw [List.getElem?_set_self hl] at e2; cases e2
      · rw [List.getElem?_eq_none (by rw [List.length_set]; omega)] at e2; cases e2
    rw [List.getElem?_set_ne (Ne.symm c1)] at e1 g1
    rw [List.getElem?_set_ne (Ne.symm c2)] at e2 g2
    exact R.sep j l y z a hjl e1 k1 e2 k2 g1 g2
theorem SR.wipe {K : PySem.W.Frag} {B F H : Hp} {O0 O : Own} {σ : L2.St} {ρ : Env} (R : SR K B F O0 H O σ ρ) : ∀ vs : List Nat, SR K B F O0 H O (wipe σ vs) (wipeD ρ vs)
  | [] => R
  | v :: vs => (SR.wipe R vs).unset v
/-- an owned object that no slot holds is written -/
theorem SR.writeT {K : PySem.W.Frag} {B F H : Hp} {O0 O : Own} {σ : L2.St} {ρ : Env} {a : Addr} {o : HO} (R : SR K B F O0 H O σ ρ) (oa : O a) (na : B a = none) (ns : ∀ (j : Nat) (y : DV), ρ[j]? = some (some y) → y.2 = .ow → σ[j]? ≠ some (some (.ref a))) (no : ∀ xs, o ≠ .tup xs) : SR K B F O0 (upd H a o) O σ ρ where
  nt := fun b xs ob => by
    by_cases q : b = a
    · subst q; rw [upd_same]; exact fun z => no xs (Option.some.inj z)
    · rw [upd_ne q]; exact R.nt b xs ob
  len := R.len
  base := fun b x h => by rw [upd_ne (ne_of_none h na)]; exact R.base b x h
  frz := by rw [off_upd oa]; exact R.frz
  fb := by rw [off_upd oa]; exact R.fb
  dom := fun b z => by
    by_cases q : b = a
    · subst q; rw [upd_same]; exact fun z => nomatch z
    · rw [upd_ne q]; exact R.dom b z
  dom0 := R.dom0
  sub := R.sub
  slot := fun j y ej => by
    obtain ⟨v, h1, h2⟩ := R.slot j y ej
    refine ⟨v, h1, ?_⟩
    have hn := ns j y ej
    obtain ⟨d2, k2⟩ := y
    cases k2 with
    | fz => show Rep _ _ _ _; rw [off_upd oa]; exact h2
    | ow =>
      obtain ⟨b, eb, ob2, nb2, c2⟩ := h2
      subst eb
      have hne : b ≠ a := fun z => by subst z; exact hn rfl h1
      exact ⟨b, rfl, ob2, nb2, c2.mono (fun o' h => by rw [upd_ne hne]; exact h) (by rw [off_upd oa]; exact Same.refl _)⟩
    | bo => exact h2
    | al => exact h2
  sep := R.sep
/-- the reading of a comprehension by the mirror's -/
theorem ev_lc {wi : TI} {own : List (Str × Nat)} {q : Env → R (List D × Kd)} {B F H : Hp} {O0 O : Own} {σ : L2.St} {ρ : Env} (R : SR X.K B F O0 H O σ ρ) (hi : EvG X.K X.mg O E H (q ρ) (fun x J H' => ItOk X.K (off O H') (srcH B O H' x.2) J x.1) (wi σ H)) (his : ∀ i ∈ is, i ∈ own.map (·.2)) :
    EvG X.K X.mg O E H (mLc q f pt pe (own.map (·.2)) ρ) (ORel X.K B O0 H O) (tLc wi (cG X.K is f) (cTT X.K pt) (cT X.K pe) (own.map (·.2)) σ H) := by
  generalize hvs : own.map (·.2) = vs at *
  refine EvG.bind (T1 := fun J H1 Q => ∀ D, H1 D = none → ∃ W : Nat → Nat → Hp → Prop, (∃ m, W 0 m (upd H1 D (.lst []))) ∧ ∀ i m H, W i m H →
    (J.stop i H ∧ Q (V.ref D) H) ∨ (J.go i H ∧ ∃ Nx : Hp → Prop, (∀ H', Nx H' → ∃ m', m' < m ∧ W (i + 1) m' H') ∧ ∀ x H', J.yld i H x H' → cG X.K is f x (wipe σ vs) H' fun σ2 H2 => wipe σ2 vs = wipe σ vs ∧ cTT X.K pt σ2 H2 fun b H3 =>
      if b = true then cT X.K pe σ2 H3 fun y H4 => ∃ acc, H4 D = some (.lst acc) ∧ acc.length < sizeLine ∧ Nx (upd H4 D (.lst (acc ++ [y]))) else Nx H3)) hi fun x J H1 s1 it => ?_
  obtain ⟨ds, kk⟩ := x
  dsimp only at it ⊢
  split
  · rename_i hsz
    cases qr : lcM f pt pe ds (wipeD ρ vs) with
    | no => trivial
    | ex z =>
      exfalso
      have : ∀ (ds : List D) (ρ : Env) (z : Exn), lcM f pt pe ds ρ ≠ .ex z := by
        intro ds
        induction ds with
        | nil => intro ρ z h; cases h
        | cons d ds ih =>
          intro ρ z h
          unfold lcM at h
          split at h
          · cases h
          · rename_i ρ1 _
            cases q1 : pt ρ1 with
            | no => rw [q1] at h; cases h
            | ex _ => rw [q1] at h; cases h
            | ok b =>
              rw [q1] at h
              cases b with
              | false => exact ih ρ z h
              | true =>
                have h : ((pe ρ1).quiet.bind fun x => (match keep1 x with
                  | none => FK.R.no
                  | some y => (lcM f pt pe ds ρ).bind fun r => .ok (y :: r))) = .ex z := h
                cases q2 : pe ρ1 with
                | no => rw [q2] at h; cases h
                | ex _ => rw [q2] at h; cases h
                | ok x =>
                  rw [q2] at h
                  have h : (match keep1 x with
                    | none => FK.R.no
                    | some y => (lcM f pt pe ds ρ).bind fun r => .ok (y :: r)) = .ex z := h
                  split at h
                  · cases h
                  · cases q3 : lcM f pt pe ds ρ with
                    | no => rw [q3] at h; cases h
                    | ok _ => rw [q3] at h; cases h
                    | ex z' => exact ih ρ z' q3
      exact this _ _ _ qr
    | ok r =>
      refine fun Q hQ D hD => ?_
      have R1 := R.more s1
      have nD : ¬ O D := fun z => R1.dom D z hD
      have oD : plus O D D := .inr rfl
      have bD : B D = none := R1.base.free hD
      have hw := R1.wipe vs
      have noslot : ∀ (j : Nat) (y : DV), (wipeD ρ vs)[j]? = some (some y) → y.2 = .ow → (wipe σ vs)[j]? ≠ some (some (.ref D)) := fun j y e1 e2 e3 => by
        obtain ⟨v, g1, g2⟩ := hw.slot j y e1
        rw [e3] at g1
        cases g1
        obtain ⟨d2, k2⟩ := y
        cases (show k2 = .ow from e2)
        obtain ⟨b, eb, ob, _, _⟩ := g2
        cases eb
        exact nD ob
      have srcS : Same (srcH B O H1 kk) H1 := by
        cases kk with
        | fz => exact off_sub
        | ow => exact off_sub
        | bo => exact R1.base
        | al => exact Same.refl _
      refine ⟨fun i m H' => m = ds.length - i ∧ i ≤ ds.length ∧ Same H1 H' ∧ ∃ acc done rr, H' D = some (.lst acc) ∧ RepL X.K (off (plus O D) H') acc done ∧ done.length ≤ i ∧ lcM f pt pe (ds.drop i) (wipeD ρ vs) = .ok rr ∧ done ++ rr = r ∧ SR X.K B F O0 H' (plus O D) (wipe σ vs) (wipeD ρ vs),
        ⟨ds.length, by omega, Nat.zero_le _, same_upd hD, [], [], r, upd_same, .nil, Nat.le_refl _, qr, rfl, hw.grow (same_upd hD) hD (by rw [upd_same]; exact fun z => nomatch z) (by rw [upd_same]; exact fun _ z => nomatch z)⟩, ?_⟩
      rintro i m H' ⟨rfl, hi, sH, acc, done, rr, hacc, hdone, hlen, hrr, htot, R'⟩
      obtain ⟨i1, i2, i3⟩ := it i H' (srcS.trans sH)
      by_cases hlt : i < ds.length
      · rw [List.drop_eq_getElem_cons hlt] at hrr
        unfold lcM at hrr
        cases q1 : f ds[i] (wipeD ρ vs) with
        | none => simp only [q1] at hrr; cases hrr
        | some ρ1 =>
          simp only [q1] at hrr
          refine .inr ⟨i1 hlt, fun H' => Same H1 H' ∧ ∃ acc done rr, H' D = some (.lst acc) ∧ RepL X.K (off (plus O D) H') acc done ∧ done.length ≤ i + 1 ∧ lcM f pt pe (ds.drop (i + 1)) (wipeD ρ vs) = .ok rr ∧ done ++ rr = r ∧ SR X.K B F O0 H' (plus O D) (wipe σ vs) (wipeD ρ vs),
            fun H' h => ⟨ds.length - (i + 1), by omega, rfl, hlt, h⟩, fun v H4 y => ?_⟩
          obtain ⟨s4, r4⟩ := i3 v H4 ds[i] y (List.getElem?_eq_getElem hlt)
          have R4 := R'.more s4
          have fS : Same (off O H1) (off (plus O D) H') := fun b o h => by
            obtain ⟨h1, h2⟩ := off_some h
            exact off_of (fun z => z.elim h1 fun e => by subst e; rw [hD] at h2; cases h2) (sH _ _ h2)
          refine ⟨B, F, O0, plus O D, wipeD ρ vs, ρ1, ds[i], R4, r4 _ R'.dom fS, q1, fun σ5 R5 w5 => ?_⟩
          have w5' : wipe σ5 vs = wipe (wipe σ vs) vs := w5 vs fun i hi => by exact his i hi
          have ww : ∀ (vs : List Nat) (σ : L2.St), wipe (wipe σ vs) vs = wipe σ vs := by
            intro vs
            induction vs with
            | nil => intro σ; rfl
            | cons v r ih =>
              intro σ
              show (wipe ((wipe σ r).set v none) r).set v none = (wipe σ r).set v none
              by_cases c : v ∈ r
              · rw [wipe_set v r _ c, ih]
              · have comm : ∀ (r : List Nat) (τ : L2.St), v ∉ r → wipe (τ.set v none) r = (wipe τ r).set v none := by
                  intro r
                  induction r with
                  | nil => intro _ _; rfl
                  | cons w r ih2 =>
                    intro τ h
                    have h1 : v ≠ w := fun e => h (by rw [e]; exact List.mem_cons_self)
                    have h2 : v ∉ r := fun e => h (List.mem_cons_of_mem _ e)
                    show (wipe (τ.set v none) r).set w none = ((wipe τ r).set w none).set v none
                    rw [ih2 τ h2, List.set_comm _ _ h1]
                rw [comm r _ c, ih, List.set_set]
          refine ⟨w5'.trans (ww vs σ), ?_⟩
          have nslot5 : True := trivial
          cases q2 : pt ρ1 with
          | no => rw [q2] at hrr; cases hrr
          | ex _ => rw [q2] at hrr; cases hrr
          | ok b =>
            rw [q2] at hrr
            refine ⟨B, F, O0, plus O D, ρ1, b, R5, q2, fun H6 s6 => ?_⟩
            have s46 := s4.trans s6
            cases b with
            | false =>
              have hrr : lcM f pt pe (ds.drop (i + 1)) (wipeD ρ vs) = .ok rr := hrr
              exact ⟨sH.trans s46, acc, done, rr, s46 _ _ hacc, hdone.mono (off_mono s46), by omega, hrr, htot, R'.more s46⟩
            | true =>
              have hrr : ((pe ρ1).quiet.bind fun x => (match keep1 x with
                  | none => FK.R.no
                  | some y => (lcM f pt pe (ds.drop (i + 1)) (wipeD ρ vs)).bind fun r => .ok (y :: r))) = .ok rr := hrr
              cases q3 : pe ρ1 with
              | no => rw [q3] at hrr; cases hrr
              | ex _ => rw [q3] at hrr; cases hrr
              | ok x =>
                rw [q3] at hrr
                have hrr : (match keep1 x with
                  | none => FK.R.no
                  | some y => (lcM f pt pe (ds.drop (i + 1)) (wipeD ρ vs)).bind fun r => .ok (y :: r)) = .ok rr := hrr
                show cT X.K pe σ5 H6 _
                refine ⟨B, F, O0, plus O D, ρ1, x, R5.more s6, q3, fun y H7 s7 o7 => ?_⟩
                have s47 := s46.trans s7
                cases q4 : keep1 x with
                | none => rw [q4] at hrr; cases hrr
                | some yd =>
                  rw [q4] at hrr
                  have hrr : ((lcM f pt pe (ds.drop (i + 1)) (wipeD ρ vs)).bind fun r => FK.R.ok (yd :: r)) = .ok rr := hrr
                  cases q5 : lcM f pt pe (ds.drop (i + 1)) (wipeD ρ vs) with
                  | no => rw [q5] at hrr; cases hrr
                  | ex _ => rw [q5] at hrr; cases hrr
                  | ok rr2 =>
                    rw [q5] at hrr
                    cases hrr
                    refine ⟨acc, s47 _ _ hacc, ?_, ?_⟩
                    · have := hdone.length
                      omega
                    · have hk : Rep X.K (off (plus O D) H7) y yd := Out.keep o7 q4
                      refine ⟨fun b o h => by rw [upd_ne (ne_of_none h hD)]; exact s47 _ _ (sH _ _ h), acc ++ [y], done ++ [yd], rr2, upd_same, ?_, ?_, rfl, ?_, (R'.more s47).writeT oD bD noslot (fun _ z => nomatch z)⟩
                      · rw [off_upd oD]
                        exact (hdone.mono (off_mono s47)).append (.cons hk .nil)
                      · rw [List.length_append, List.length_singleton]; omega
                      · rw [List.append_assoc]; exact htot
      · have e : i = ds.length := by omega
        subst e
        rw [List.drop_length] at hrr
        cases hrr
        rw [List.append_nil] at htot
        subst htot
        refine .inl ⟨i2 (Nat.le_refl _), hQ _ _ sH ⟨D, rfl, s1.free hD, nD, acc, hacc, hdone⟩⟩
  · trivial
theorem de_lc {ifs : List Expr} {scope : Scope} {own : List (Str × Nat)} {q : Env → R (List D × Kd)} (hc : X.calm = true) (hN : X.N.Nodup) (hi : DI X E tg iter q) (ok : BlkOk X.N X.env.scope scope own) (his : ∀ i ∈ is, i ∈ own.map (·.2))
    (hg : ∀ (s : Shared) (H : Hp) (C : Addr) (cl : List (Str × Addr)) (fp : List Addr), DG (X.blk s H scope (compEnvC scope cl C X.env) fp) tg is f)
    (ht : ∀ (s : Shared) (H : Hp) (C : Addr) (cl : List (Str × Addr)) (fp : List Addr), DTs (X.blk s H scope (compEnvC scope cl C X.env) fp) E0 ifs pt)
    (he : ∀ (s : Shared) (H : Hp) (C : Addr) (cl : List (Str × Addr)) (fp : List Addr), DE (X.blk s H scope (compEnvC scope cl C X.env) fp) E0 elt pe) (hs : ∀ x, foldedSetIterable iter X.env x = pure x := by intro _; rfl) :
    DE X E (.ListComp elt [⟨tg, iter, ifs, 0⟩] scope pos) (mLc q f pt pe (own.map (·.2))) := by
  obtain ⟨wi, a1, a2⟩ := hi.ex
  refine ⟨_, pe_lc hc hN a1 ok (g := cG X.K is f) (tt := cTT X.K pt) (te := cT X.K pe) (fun s H C cl fp => (hg s H C cl fp).canon) (fun s H C cl fp => (ht s H C cl fp).ex) (fun s H C cl fp => (he s H C cl fp).canon) hs, fun B F O0 H O σ ρ R => ?_⟩
  exact ev_lc R (a2 B F O0 H O σ ρ R) his
/-- name = [..] -/
theorem ds_setLc (i : Nat) {y : Str} {py : Pos} {spos : Pos} {ifs : List Expr} {scope : Scope} {own : List (Str × Nat)} {q : Env → R (List D × Kd)} (hc : X.calm = true) (hN : X.N.Nodup) (hy : X.N[i]? = some y) (hyl : X.env.scope.names.lookup y = some .local)
    (hsw : swapsWith (.ListComp elt [⟨tg, iter, ifs, 0⟩] scope pos) (some (.Name y py)) spos.line X.env = pure true) (hi : DI X E tg iter q) (ok : BlkOk X.N X.env.scope scope own) (his : ∀ i ∈ is, i ∈ own.map (·.2))
    (hg : ∀ (s : Shared) (H : Hp) (C : Addr) (cl : List (Str × Addr)) (fp : List Addr), DG (X.blk s H scope (compEnvC scope cl C X.env) fp) tg is f)
    (ht : ∀ (s : Shared) (H : Hp) (C : Addr) (cl : List (Str × Addr)) (fp : List Addr), DTs (X.blk s H scope (compEnvC scope cl C X.env) fp) E0 ifs pt)
    (he : ∀ (s : Shared) (H : Hp) (C : Addr) (cl : List (Str × Addr)) (fp : List Addr), DE (X.blk s H scope (compEnvC scope cl C X.env) fp) E0 elt pe) (hs : ∀ x, foldedSetIterable iter X.env x = pure x := by intro _; rfl) :
    DS X E (.Assign [.Name y py] (.ListComp elt [⟨tg, iter, ifs, 0⟩] scope pos) spos) (sSet i (mLc q f pt pe (own.map (·.2)))) := by
  obtain ⟨wi, a1, a2⟩ := hi.ex
  refine ⟨_, ps_setLc hc hN hy hyl hsw a1 ok (g := cG X.K is f) (tt := cTT X.K pt) (te := cT X.K pe) (fun s H C cl fp => (hg s H C cl fp).canon) (fun s H C cl fp => (ht s H C cl fp).ex) (fun s H C cl fp => (he s H C cl fp).canon) hs, fun B F O0 H O σ ρ D R h => ?_⟩
  exact ev_st (Q := fun v H1 => D.nx (σ.set i (some v)) H1) R.base R.sub (ev_lc R (a2 B F O0 H O σ ρ R) his) h fun x v H1 ex s1 r1 h1 => setS_nx R s1 r1 h1
end

/-! ### a def -/
def runD (n : Nat) (m : Env → SO) (as : List DV) : R DV := match m (as.map some ++ List.replicate (n - as.length) none) with
  | .nx _ => .ok (.non, .fz)
  | .rt x => .ok x
  | .ex e => .ex e
  | _ => .no
section
variable {P : Program} {w : World} {K : PySem.W.Frag} {mg : Str → Option Value} {base : Heap}
theorem args_slot {H : Hp} {O : Own} : ∀ {vs : List V} {as : List DV} {i : Nat} {x : DV}, ArgsOk K H O vs as → as[i]? = some x → ∃ v, vs[i]? = some v ∧ ArgOk K H O v x
  | _, _, _, _, .nil, e => by simp at e
  | _, _, 0, _, .cons a b, e => by simp at e; subst e; exact ⟨_, rfl, a⟩
  | _, _, i + 1, x, .cons a b, e => by
    obtain ⟨u, h1, h2⟩ := args_slot (i := i) b (by simpa using e)
    exact ⟨u, by simpa using h1, h2⟩
theorem start_sr {N : List Str} {H : Hp} {O : Own} {vs : List V} {as : List DV} (dom2 : ∀ a, O a → H a ≠ none ∧ ∀ xs, H a ≠ some (.tup xs)) (h : ArgsOk K H O vs as) : SR K H (off O H) O H O (L2.start N vs) (as.map some ++ List.replicate (N.length - as.length) none) := by
  have hl := h.length
  have dom : ∀ a, O a → H a ≠ none := fun a z => (dom2 a z).1
  have own : ∀ (i : Nat) (x : DV), (as.map some ++ List.replicate (N.length - as.length) none)[i]? = some (some x) → as[i]? = some x := fun i x e => by
    by_cases c : i < as.length
    · rw [List.getElem?_append_left (by simpa using c), List.getElem?_map] at e
      cases q : as[i]? with
      | none => rw [q] at e; cases e
      | some y => rw [q] at e; cases e; rfl
    · rw [List.getElem?_append_right (by simpa using c), List.getElem?_replicate] at e
      split at e <;> cases e
  refine ⟨by unfold L2.start; simp [hl], Same.refl _, Same.refl _, Same.refl _, dom, dom, fun _ z => z, fun i x e => ?_, fun i j x y a hij e1 k1 _ _ _ _ => ?_, fun a xs z => (dom2 a z).2 xs⟩
  · have e' := own i x e
    obtain ⟨v, h1, h2⟩ := args_slot h e'
    refine ⟨v, ?_, ?_⟩
    · unfold L2.start
      have c : i < vs.length := (List.getElem?_eq_some_iff.mp h1).1
      rw [List.getElem?_append_left (by simpa using c), List.getElem?_map, h1]
      rfl
    · obtain ⟨d, k⟩ := x
      cases k with
      | fz => exact h2
      | bo => exact h2
      | ow => exact h2.elim
      | al => exact h2.elim
  · obtain ⟨v, h1, h2⟩ := args_slot h (own i x e1)
    obtain ⟨d, k⟩ := x
    cases (show k = .ow from k1)
    exact h2.elim
/-- the context of a def's body -/
abbrev bodyX (P : Program) (w : World) (K : PySem.W.Frag) (mg : Str → Option Value) (base : Heap) (N : List Str) (qual : Str) (st : Stmt) (f : Addr) (cdv : Value) (A : Around) (outer : List PySem.Env) (s : Shared) (H : Hp) (E : XK) : Cx :=
  cxOf (L2.CX P w) P w K mg base N qual (defScope st) f cdv A outer s H E
theorem body_passes {N : List Str} {qual : Str} {st : Stmt} {f : Addr} {cdv : Value} {A : Around} {outer : List PySem.Env} {s : Shared} {H : Hp} {E : XK} : Passes (L2.CX P w) (bodyX P w K mg base N qual st f cdv A outer s H E) E :=
  passes_call (takes_of rfl rfl rfl rfl) fun _ _ _ _ h => h
theorem body_own {N : List Str} {qual : Str} {st : Stmt} {f : Addr} {cdv : Value} {A : Around} {outer : List PySem.Env} {s : Shared} {H : Hp} {E : XK} :
    PassesOwn (model (bodyX P w K mg base N qual st f cdv A outer s H E).prog (bodyX P w K mg base N qual st f cdv A outer s H E).w) (bodyX P w K mg base N qual st f cdv A outer s H E).A (bodyX P w K mg base N qual st f cdv A outer s H E).env (bodyX P w K mg base N qual st f cdv A outer s H E).xe := passes_of rfl
/-- THE RULE for a def by its mirror -/
theorem fn_rule {x qual : Str} {st : Stmt} {f : Addr} {fd : FuncData} {N ps : List Str} {k n : Nat} {m : Env → SO} (F : Fun K x qual st f fd) (S : FnScope N ps (defScope st)) (hn : ps.length = n) (hm : mg x = some (.ref f)) (hb : Binds K fd ps [])
    (body : ∀ (cdv : Value) (A : Around) (outer : List PySem.Env) (s : Shared) (H : Hp) (E : XK), Room k (bodyX P w K mg base N qual st f cdv A outer s H E).A → DSs (bodyX P w K mg base N qual st f cdv A outer s H E) E (defBody st) m) :
    CallOk P w K mg base x (k + 1) n (runD N.length m) := by
  refine ⟨f, fd, ps, hm, F.okX S (fun vs H Q E h => by rw [hn]; exact h.1) fun cdv A outer s H vs Q E hr h => ?_, F.kp, hb⟩
  obtain ⟨hl, O, as, dom, ha, hend⟩ := h
  obtain ⟨t, h1, h2⟩ := (body cdv A outer s H E hr).ex
  refine ⟨t, h1, h2 H (off O H) O H O _ _ _ (start_sr dom ha) ?_⟩
  unfold runD at hend
  show EndsOk K mg H (off O H) O { nx := fun _ H' => Q .non H', rt := Q } E (m (as.map some ++ List.replicate (N.length - as.length) none))
  cases q : m (as.map some ++ List.replicate (N.length - as.length) none) with
  | nx ρ => rw [q] at hend; exact fun σ' H' O' R => hend .non H' R.base (show Rep _ _ _ _ from .non)
  | rt y => rw [q] at hend; exact fun v H' s' r => hend v H' s' r
  | bk ρ => rw [q] at hend; exact hend.elim
  | ct ρ => rw [q] at hend; exact hend.elim
  | ex e => rw [q] at hend; exact hend
  | no => rw [q] at hend; exact hend.elim
end
end FK
namespace FK
open PySem PySem.Spec L2
open PyProof.Rows hiding St

def FUEL : Nat := 1000000

/-! ### repr -/
section
variable {X : Cx} {E : XK} {k : Nat}
def rReprF (K : PySem.W.Frag) : List V → Hp → VK → Prop := fun vs H Q => ∃ v d, vs = [v] ∧ Dp K H v d ∧ d.showable = true ∧ d.hasDict = false ∧ d.depth ≤ 100 ∧ d.shown.length ≤ sizeLine ∧ (∃ a, v = .ref a) ∧ Q (.str d.shown) H
def rRepr (K : PySem.W.Frag) : List V → Hp → VK → Prop := fun vs H Q => rReprF K vs H Q ∨ ∃ i, vs = [V.int i] ∧ i.natAbs.log2 < 1920 ∧ Q (.str (toString i)) H
theorem cr_repr (hgd : X.A.guards = some []) (hr : Room k X.A) : CallR X (.builtin "repr") (rRepr X.K) := by
  intro pins s σ H vs us Q I rv hq
  rcases hq.symm with hq | hq
  · exact SkE.call_repr_int pins s σ H vs us Q I rv hq
  obtain ⟨v, d, rfl, hd, h1, h2, h3, h4, ⟨a, rfl⟩, q⟩ := hq
  obtain ⟨u, rfl, ru⟩ := vals1 rv
  obtain ⟨as, rd⟩ := Dp.reads I d _ u hd ru
  cases ru
  have hu := hr.un
  exact repr_of_reads' rd h1 (fun z => by rw [h2] at z; cases z) hgd (by omega) (fun _ _ e => e) (fun h' u tk hk => ⟨.str _, H, I.kept hk, ⟨_, rfl⟩, q⟩) h4
def reprD (d : D) : R Str := if d.py.plain = true ∧ d.py.showable = true ∧ d.py.hasDict = false ∧ d.py.depth ≤ 100 ∧ d.py.shown.length ≤ sizeLine then .ok d.py.shown else .no
def D.isRf : D → Bool | .lst _ => true | .tup _ => true | _ => false
def reprI (d : D) : R DV := match d with | .int i => if i.natAbs.log2 < 1920 then .ok (.str (toString i), .fz) else .no | _ => .no
def gRepr (x : DV) : R DV := if x.1.isRf = true then (reprD x.1).bind fun s => .ok (.str s, .fz) else reprI x.1
theorem cb_repr (hgd : X.A.guards = some []) (hr : Room k X.A) : CB X E (.builtin "repr") (one gRepr) := cb1 (cr_repr hgd hr) fun B O0 H0 H O x v s dom hx => by
  unfold gRepr reprD
  by_cases c : x.1.isRf = true
  · rw [if_pos c]
    split
    · rename_i z
      obtain ⟨z1, z2, z3, z4, z5⟩ := z
      have hd := hx.dp z1
      refine fun Q hQ => .inl ⟨v, _, rfl, hd, z2, z3, z4, z5, ?_, hQ _ _ (Same.refl _) (show Rep _ _ _ _ from .str _)⟩
      obtain ⟨d, kk⟩ := x
      cases d <;> first | (cases c; done) | skip
      · obtain ⟨a, vs, rfl, _⟩ := hx.lst
        exact ⟨a, rfl⟩
      · simp only [D.py] at hd
        cases hd
        exact ⟨_, rfl⟩
    · trivial
  · rw [if_neg c]
    obtain ⟨d, kk⟩ := x
    cases d <;> first | exact True.intro | skip
    unfold reprI
    dsimp only
    split
    · rename_i z
      cases hx.int
      exact fun Q hQ => .inr ⟨_, rfl, z, hQ _ _ (Same.refl _) (show Rep _ _ _ _ from .str _)⟩
    · trivial
end

/-! ### sorted -/
def sortD (ds : List D) : List D := ds.mergeSort fun a b => !PySem.W.dataLt b.py a.py
def D.nonTup : D → Bool | .non => false | .tup _ => false | _ => true
def D.tup1 : D → Bool | .tup (_ :: _) => true | _ => false
def sortOk (ds : List D) : Bool := decide (ds.length ≤ sizeLine) && PyData.plainAll (D.pyL ds) && (ds.all fun a => ds.all fun b => PySem.W.alike a.py b.py) && (ds.all D.nonTup || ds.all D.tup1) && ds.all fun a => decide (a.py.depth ≤ 100)
section
variable {X : Cx} {E : XK} {k : Nat}
def rSortG (K : PySem.W.Frag) : List V → Hp → VK → Prop := fun vs H Q => ∃ a xs ds, vs = [V.ref a] ∧ SqL K H a xs ∧ DpAll K H xs (D.pyL ds) ∧ sortOk ds = true ∧ ∀ (ps : List (V × D)) (p : Addr), ps.map (·.2) = sortD ds → (∀ q ∈ ps, q ∈ xs.zip ds) → ps.length = ds.length → H p = none → Q (.ref p) (upd H p (.lst (ps.map (·.1))))
theorem DpAll.len {K : PySem.W.Frag} {H : Hp} : ∀ {vs : List V} {ds : List D}, DpAll K H vs (D.pyL ds) → vs.length = ds.length
  | _, [], .nil => rfl
  | _, _ :: _, .cons _ b => congrArg (· + 1) (DpAll.len b)
theorem each_zip {K : PySem.W.Frag} {σ : L2.St} {pins : List (Addr × Obj)} {H : Hp} {s : Shared} (I : Inv X pins σ H s) : ∀ {xs : List V} {ds : List D} {us : List Value}, DpAll X.K H xs (D.pyL ds) → Vals xs us →
    PySem.W.EachIs (fun u (b : V × D) => RelV b.1 u) us (xs.zip ds) ∧ PySem.W.EachIs (fun u (b : V × D) => ∃ as, Reads s.heap u b.2.py as) us (xs.zip ds)
  | _, [], _, .nil, .nil => ⟨.nil, .nil⟩
  | _, d :: ds, _, .cons a b, .cons r rs => by
    obtain ⟨h1, h2⟩ := each_zip (K := K) I b rs
    exact ⟨.cons r h1, .cons (Dp.reads I _ _ _ a r) h2⟩
theorem each_vals : ∀ {us : List Value} {ps : List (V × D)}, PySem.W.EachIs (fun u (b : V × D) => RelV b.1 u) us ps → Vals (ps.map (·.1)) us
  | _, _, .nil => .nil
  | _, _, .cons a b => .cons a (each_vals b)
theorem zip_snd {α β : Type} : ∀ {xs : List α} {ys : List β}, xs.length = ys.length → (xs.zip ys).map (·.2) = ys
  | [], [], _ => rfl
  | [], _ :: _, h => by cases h
  | _ :: _, [], h => by cases h
  | x :: xs, y :: ys, h => by
    show y :: (xs.zip ys).map (·.2) = _
    rw [zip_snd (by simpa using h)]
theorem cr_sortG (hr : Room k X.A) : CallR X (.builtin "sorted") (rSortG X.K) := by
  intro pins s σ H vs us Q I rv hq
  obtain ⟨a, xs, ds, rfl, hs, hd, ok, q⟩ := hq
  obtain ⟨its, ri, hl, hz⟩ := I.list hs
  rw [Vals.ref1 rv]
  obtain ⟨e1, e2⟩ := each_zip (K := X.K) I hd ri
  have hlen := DpAll.len hd
  have hsnd : (xs.zip ds).map (·.2) = ds := zip_snd hlen
  have hmem : ∀ b ∈ xs.zip ds, b.2 ∈ ds := fun b hb => by rw [← hsnd]; exact List.mem_map_of_mem hb
  simp only [sortOk, Bool.and_eq_true, Bool.or_eq_true, decide_eq_true_eq] at ok
  obtain ⟨⟨⟨⟨k1, k2⟩, k3⟩, k4⟩, k5⟩ := ok
  have hlz : (xs.zip ds).length = ds.length := by rw [List.length_zip]; omega
  have hu := hr.un
  refine PySem.W.sorted_data (enc := fun b : V × D => b.2.py) hl.isList e1 e2 ?_ ?_ (by omega) (fun b hb => ?_) fun out ho eo => ?_
  · intro d h1 d' h2
    obtain ⟨b, hb, rfl⟩ := List.mem_map.mp h1
    obtain ⟨b', hb', rfl⟩ := List.mem_map.mp h2
    have := List.all_eq_true.mp k3 _ (hmem b hb)
    exact List.all_eq_true.mp this _ (hmem b' hb')
  · rcases k4 with c | c
    · refine .inr fun d h1 => ?_
      obtain ⟨b, hb, rfl⟩ := List.mem_map.mp h1
      have := List.all_eq_true.mp c _ (hmem b hb)
      cases e : b.2 <;> rw [e] at this <;> first | (cases this; done) | exact ⟨(fun z => by simp only [D.py] at z; cases z), (fun ys z => by simp only [D.py] at z; cases z)⟩
    · refine .inl fun d h1 => ?_
      obtain ⟨b, hb, rfl⟩ := List.mem_map.mp h1
      have := List.all_eq_true.mp c _ (hmem b hb)
      cases e : b.2 <;> rw [e] at this <;> first | (cases this; done) | skip
      rename_i ys
      cases ys with
      | nil => cases this
      | cons y r => exact ⟨y.py, D.pyL r, by simp only [D.py, D.pyL]⟩
  · have := List.all_eq_true.mp k5 _ (hmem b hb)
    have : b.2.py.depth ≤ 100 := of_decide_eq_true this
    omega
  · obtain ⟨ep, he'⟩ := PyProof.Rows.sortedAll_at s.heap its out.toArray
    have hp : ((xs.zip ds).mergeSort (PySem.W.dataLe false fun b => b.2.py)).length = ds.length := by rw [List.length_mergeSort]; exact hlz
    refine ⟨.ref _, upd H (s.heap.objs.size + 1) (.lst (((xs.zip ds).mergeSort (PySem.W.dataLe false fun b => b.2.py)).map (·.1))), I.laid (t' := s.toks) (fun _ _ => PyProof.Rows.sortedAll_old) (Nat.le_succ _) ⟨by rw [List.length_map]; omega, out, ep, each_vals eo, he'⟩, rfl, q _ _ ?_ ?_ hp (I.hok.fresh (Nat.le_succ _))⟩
    · unfold sortD
      rw [List.map_mergeSort (s := fun a b : D => !PySem.W.dataLt b.py a.py), hsnd]
      intro a _ b _
      rfl
    · exact fun z hz => (List.mergeSort_perm _ _).mem_iff.mp hz
def gSorted (x : DV) : R DV := match x.1 with
  | .lst ds => if sortOk ds = true then .ok (.lst (sortD ds), .ow) else .no
  | _ => .no
theorem repl_zip {K : PySem.W.Frag} {H : Hp} : ∀ {vs : List V} {ds : List D}, RepL K H vs ds → ∀ q ∈ vs.zip ds, Rep K H q.1 q.2
  | _, _, .nil, q, h => nomatch h
  | _, _, .cons a b, q, h => by
    rcases List.mem_cons.mp h with e | e
    · subst e; exact a
    · exact repl_zip b q e
theorem repl_of {K : PySem.W.Frag} {H : Hp} : ∀ {ps : List (V × D)}, (∀ q ∈ ps, Rep K H q.1 q.2) → RepL K H (ps.map (·.1)) (ps.map (·.2))
  | [], _ => .nil
  | p :: r, h => .cons (h p List.mem_cons_self) (repl_of fun q hq => h q (List.mem_cons_of_mem _ hq))
theorem cb_sorted (hr : Room k X.A) : CB X E (.builtin "sorted") (one gSorted) := cb1 (cr_sortG hr) fun B O0 H0 H O x v s dom hx => by
  obtain ⟨d, kk⟩ := x
  cases d <;> first | exact True.intro | skip
  rename_i ds
  obtain ⟨a, vs, rfl, h1, h2⟩ := hx.lst
  unfold gSorted
  dsimp only
  split
  · rename_i c
    have pl : PyData.plainAll (D.pyL ds) = true := by
      simp only [sortOk, Bool.and_eq_true] at c
      exact c.1.1.1.2
    refine fun Q hQ => ⟨a, vs, ds, rfl, h1, (h2.mono off_sub).dp pl, c, fun ps p e1 e2 e3 hp => ?_⟩
    have rr : RepL X.K (off O H) (ps.map (·.1)) (ps.map (·.2)) := repl_of fun q hq => repl_zip h2 q (e2 q hq)
    rw [e1] at rr
    have hz : (ps.map (·.1)).length ≤ sizeLine := by
      rw [List.length_map, e3]
      simp only [sortOk, Bool.and_eq_true, decide_eq_true_eq] at c
      exact c.1.1.1.1
    exact (ev_lst (mg := X.mg) (E := E) (B := B) (O0 := O0) dom rr Q fun v' H' s' o => hQ v' H' s' o) p hp
  · trivial
end
end FK
namespace FK
open PySem PySem.Spec L2
open PyProof.Rows hiding St

/-! ### list(range(n)) -/
def lrg1 (x : DV) : R DV := match x.1 with
  | .int j => if 0 ≤ j ∧ j ≤ 16777216 then .ok (.lst (rangeL 0 1 j.toNat), .ow) else .no
  | _ => .no
theorem repl_rg {K : PySem.W.Frag} {H : Hp} (j : Int) : RepL K H (rgV 0 j) (rangeL 0 1 j.toNat) := by
  unfold rgV rangeL
  rw [Int.sub_zero]
  generalize List.range j.toNat = l
  induction l with
  | nil => exact .nil
  | cons i r ih => exact .cons (show Rep K H (V.int (0 + (i : Nat))) (D.int (0 + (i : Nat) * 1)) by rw [Int.mul_one]; exact .int _) ih
section
variable {X : Cx} {E : XK} {e : Expr} {p : Env → R DV} {pos pp : Pos}
theorem de_listRg1 {pos2 : Pos} {pp2 : Pos} (hc : X.calm = true) (hg2 : Gl X "list") (hm2 : X.mg "list" = none) (hg : Gl X "range") (hm : X.mg "range" = none) (ha : DE X E e p)
    (na : starEach [e] X.env = (false, eval e X.env) :: starEach [] X.env := by rfl) (na2 : starEach [.Call (.Name "range" pp) [e] [] pos] X.env = (false, eval (.Call (.Name "range" pp) [e] [] pos) X.env) :: starEach [] X.env := by rfl) :
    DE X E (.Call (.Name "list" pp2) [.Call (.Name "range" pp) [e] [] pos] [] pos2) (fun ρ => (p ρ).bind lrg1) := by
  obtain ⟨t, h1, h2⟩ := ha.ex
  refine ⟨_, pe_listRg hc hg2 hm2 (prg_1 hg hm h1 na) na2, fun B F O0 H O σ ρ R => ?_⟩
  refine EvG.bind (T1 := fun x H1 Q => ∃ n, x = .int n ∧ RgOk 0 n ∧ ∀ q, H1 q = none → Q (V.ref q) (upd H1 q (.lst (rgV 0 n)))) (h2 B F O0 H O σ ρ R) fun x v H1 s1 r1 => ?_
  obtain ⟨d, kk⟩ := x
  cases d <;> first | exact True.intro | skip
  rename_i j
  obtain rfl := r1.int
  unfold lrg1
  dsimp only
  split
  · rename_i c
    refine fun Q hQ => ⟨j, rfl, RgOk.of_le (Int.le_refl _) c.2 (by omega) c.1, ?_⟩
    exact ev_lst (mg := X.mg) (E := E) (B := B) (O0 := O0) (R.more s1).dom (repl_rg j) Q fun v' H' s' o => hQ v' H' s' (Out.mono o s1 (Same.refl _))
  · trivial
end

/-! ### the law's own def: called once, by the claim's caller, where no guard stands -/
section
variable {P : Program} {w : World} {K : PySem.W.Frag} {mg : Str → Option Value} {base : Heap}
/-- what the law's def keeps when it is called from a place without guards -/
def GRun (P : Program) (w : World) (K : PySem.W.Frag) (mg : Str → Option Value) (base : Heap) (k : Nat) (f : Addr) (fd : FuncData) (ps : List Str) (sp : Sp) : Prop :=
  ∀ (A : Around) (s : Shared) (H : Hp) (args : Args) (us : List Value) (vs : List V) (Q : VK) (E : XK), A.guards = some [] → Room k A → Env0 P w K mg base A [] s H →
    BindsTo s fd args (ps.zip us) → Vals vs us → sp vs H Q E → codeAny (model P w) A (.call (.ref f) args) (CR (L2.CX P w) [] P w H s Q E) s
theorem grun_of {x qual : Str} {st : Stmt} {f : Addr} {fd : FuncData} {N ps : List Str} {k : Nat} {sp : Sp} (F : Fun K x qual st f fd) (S : FnScope N ps (defScope st)) (len : ∀ vs H Q E, sp vs H Q E → vs.length = ps.length)
    (body : ∀ (cdv : Value) (A : Around) (s : Shared) (H : Hp) (vs : List V) (Q : VK) (E : XK), A.guards = some [] → Room k (A.deeper (envOfC qual (defScope st) s.heap.objs.size f cdv)) → sp vs H Q E →
      ∃ t, PSs (bodyX P w K mg base N qual st f cdv A [] s H E) (defBody st) t ∧ t { nx := fun _ H' => Q .non H', rt := Q } (L2.start N vs) H) : GRun P w K mg base (k + 1) f fd ps sp := by
  obtain ⟨oc, od, kV, doc, pm, an, cdv, ct, osl, rfl, lk, hcd⟩ := F.ex
  intro A s H args us vs Q E hg hr e0 hb r hsp
  have hl := len _ _ _ _ hsp
  have old := fun b o e => (e0.bs b o e).1
  have inK : K.In s.heap := e0.mod.kin.keeps old
  have slots : ∀ y ∈ ps.zip us, (defScope st).names.lookup y.1 = some .local ∨ ((defScope st).names.lookup y.1 = some .cell ∧ ((cellsFrom (s.heap.objs.size + 1) (defScope st).names []).lookup y.1).isSome = true) := by
    rintro ⟨n, v⟩ hy
    exact (S.par n (List.of_mem_zip hy).1).imp id fun q => ⟨q, PySem.W.cellsFrom_some _ _ _ (.inl q)⟩
  refine codeAny_call_function hr.depth (inK _ _ lk) rfl S.co S.gen rfl (PySem.W.codeRec_of inK hcd) (hb _ _ _ _ (wpAny_newFunctionEnv_cells S.kind slots ?_))
  rintro env rfl s1 x
  refine ⟨(e0.mod.nolimit.keeps old).keeps x.toInCall.keep, codeAny_func ?_⟩
  obtain ⟨t, ht, hq⟩ := body cdv A s H vs Q E hg (hr.deeper _) hsp
  refine wpAny_mono (ht.run [] s1 (L2.start N vs) H _ (inv_start S hr.hd e0 hl r x) hq) ?_ fun _ _ z => z
  rintro (_ | _ | _ | u) s' hs
  all_goals first
    | (obtain ⟨v, σ', H', J, rv, q⟩ := hs; exact ⟨v, H', J.os, J.bare, J.base, J.hok, rv, q⟩)
    | (obtain ⟨σ', H', J, q⟩ := hs; exact ⟨V.non, H', J.os, J.bare, J.base, J.hok, rfl, q⟩)
    | (obtain ⟨_, _, _, q⟩ := hs; exact q.elim)
/-- the law's def by its mirror -/
theorem law_rule {x qual : Str} {st : Stmt} {f : Addr} {fd : FuncData} {N ps : List Str} {k n : Nat} {m : Env → SO} (F : Fun K x qual st f fd) (S : FnScope N ps (defScope st)) (hn : ps.length = n)
    (body : ∀ (cdv : Value) (A : Around) (s : Shared) (H : Hp) (E : XK), (bodyX P w K mg base N qual st f cdv A [] s H E).A.guards = some [] → Room k (bodyX P w K mg base N qual st f cdv A [] s H E).A → DSs (bodyX P w K mg base N qual st f cdv A [] s H E) E (defBody st) m) :
    GRun P w K mg base (k + 1) f fd ps (spD K mg n (runD N.length m)) := by
  refine grun_of F S (fun vs H Q E h => by rw [hn]; exact h.1) fun cdv A s H vs Q E hg hr h => ?_
  obtain ⟨hl, O, as, dom, ha, hend⟩ := h
  obtain ⟨t, h1, h2⟩ := (body cdv A s H E hg hr).ex
  refine ⟨t, h1, h2 H (off O H) O H O _ _ _ (start_sr dom ha) ?_⟩
  unfold runD at hend
  show EndsOk K mg H (off O H) O { nx := fun _ H' => Q .non H', rt := Q } E (m (as.map some ++ List.replicate (N.length - as.length) none))
  cases q : m (as.map some ++ List.replicate (N.length - as.length) none) with
  | nx ρ => rw [q] at hend; exact fun σ' H' O' R => hend .non H' R.base (show Rep _ _ _ _ from .non)
  | rt y => rw [q] at hend; exact fun v H' s' r => hend v H' s' r
  | bk ρ => rw [q] at hend; exact hend.elim
  | ct ρ => rw [q] at hend; exact hend.elim
  | ex e => rw [q] at hend; exact hend
  | no => rw [q] at hend; exact hend.elim
end

/-! ### the end of a row -/
theorem walk_fk {l : PySem.W.OpenLaw} {n k : Nat} {q : Program} {loose : List Str} {XP : (Str → Option Value) → Heap → Prop} {YP : World → Heap → Prop} {d : DefRec} {K : Params → PySem.W.Frag} {x : Str} {m : List DV → R DV}
    (hn : l.most = some n) (hn2 : n ≤ sizeLine) (hdf : d.params.defaults = []) (hr : Room k callerA) (hY : ∀ (w : World) (h : Heap), YP w h → (K w.params).In h)
    (F : ∀ (w : World) (mg : Str → Option Value) (fa : Addr) (h : Heap), (K w.params).In h → h.Ns mainGlobals mg → mg d.name = some (.ref fa) →
      ∃ fd : FuncData, (∀ (s : Shared) (u : Value), BindsTo s fd ⟨[u], []⟩ [(x, u)]) ∧ ∀ base : Heap, (K w.params).In base → base.Ns mainGlobals mg → GRun l.prog w (K w.params) mg base k fa fd [x] (spD (K w.params) mg 1 m))
    (hm : ∀ ns : List Int, ns.length ≤ n → m [(.lst (ns.map .int), .fz)] = .ok (.bl true, .fz)) :
    PySem.W.WalkO q loose XP YP l.row.toRowW d [] (fun f vs => PySem.call f vs) := by
  refine Att.attach_call hn hdf ?_
  intro w s₀ s₁ mg mb fa o pm cd doc a vs ns G Y ho hd hcd hmg hobj hints hlen hg
  have KX := hY w _ Y
  obtain ⟨fd, hb, hF⟩ := F w mg fa _ KX G.T.g hmg
  have rv := vals_ints hints
  have hz : ns.length ≤ sizeLine := Nat.le_trans hlen hn2
  -- the heap as it is tracked: the script alone, or nothing where the script is one of the module's objects
  obtain ⟨H, hA, hS, hok, hK⟩ : ∃ H : Hp, (∀ b, H b = none ∨ (b = a ∧ ∃ ob u, H b = some (.frz ob u))) ∧ SqL (K w.params) H a (ns.map V.int) ∧ HOk l.prog w H s₁.heap ∧ (∀ b o, (K w.params).lookup b = some o → H b = none) := by
    cases hk : (K w.params).lookup a with
    | some ob =>
      have e := KX a ob hk
      rw [hobj] at e
      cases e
      exact ⟨fun _ => none, fun _ => .inl rfl, .inr ⟨_, vs.toArray, _, hk, rfl, rfl, rfl, by rw [List.size_toArray, hints.length]; exact hz, by simpa using rv⟩, (fun b u z => by cases z), fun _ _ _ => rfl⟩
    | none =>
      refine ⟨upd (fun _ => none) a (.frz { cls := .type "list", data := .seq vs.toArray } (.lst (ns.map V.int))), fun b => ?_, .inl (.inr ⟨_, upd_same⟩), fun b u z => ?_, fun b o hb => ?_⟩
      · by_cases c : b = a
        · subst c; exact .inr ⟨rfl, _, _, upd_same⟩
        · rw [upd_ne c]; exact .inl rfl
      · by_cases c : b = a
        · subst c
          rw [upd_same] at z
          cases z
          exact ⟨hobj, by rw [List.length_map]; exact hz, vs, _, rv, hobj⟩
        · rw [upd_ne c] at z; cases z
      · by_cases c : b = a
        · subst c; rw [hk] at hb; cases hb
        · rw [upd_ne c]
  have free : ∀ {b : Addr} {ob : Obj} {es : Array DictEntry} {ep : Nat}, s₁.heap.get? b = some ob → ob.data = .dict es ep → H b = none := by
    intro b ob es ep e ed
    rcases hA b with z | ⟨rfl, _⟩
    · exact z
    · rw [hobj] at e
      cases e
      exact absurd (show Data.seq vs.toArray _ = Data.dict es ep from ed) (fun z => nomatch z)
  have nsH : ∀ {b : Addr} {mm : Str → Option Value}, s₁.heap.Ns b mm → (hidT s₁.heap H).Ns b mm := by
    rintro b mm ⟨ob, es, ep, e, ed, r⟩
    exact ⟨ob, es, ep, hidT_get e (free e ed), ed, r⟩
  have kH : (K w.params).In (hidT s₁.heap H) := fun b ob e => hidT_get (KX b ob e) (hK b ob e)
  have hM : Mod (K w.params) mg (hidT s₁.heap H) := by
    obtain ⟨mc, z1, z2⟩ := G.T.nolimit
    exact ⟨kH, nsH G.T.g, ⟨mb, nsH G.T.b, G.T.builtins⟩, mc, nsH z1, z2⟩
  have e0 : Env0 l.prog w (K w.params) mg (hidT s₁.heap H) callerA [] s₁ H := by
    refine ⟨rfl, hM, fun b ob e => of_hidT e, Nat.le_of_eq (hidT_size _ _), trivial, fun b z => ?_, hok, .of_eq hg⟩
    cases z
  have hsp : spD (K w.params) mg 1 m [.ref a] H (fun v _ => v = .bl true) fun _ _ _ => False := by
    refine ⟨rfl, fun _ => False, [(.lst (ns.map .int), .fz)], fun _ z => False.elim z, .cons ?_ .nil, ?_⟩
    · refine show Rep _ _ _ _ from .lst (vs := ns.map V.int) ?_ ?_
      · have : off (fun _ => False) H = H := by
          funext b
          unfold off
          simp
        rw [this]; exact hS
      · generalize ns = l
        induction l with
        | nil => exact .nil
        | cons z r ih => exact .cons (.int _) ih
    · rw [hm ns hlen]
      intro v H' _ r
      cases (show Rep _ _ v (.bl true) from r)
      rfl
  refine codeAny_mono (hF _ kH (nsH G.T.g) callerA s₁ H ⟨[.ref a], []⟩ [.ref a] [.ref a] _ _ rfl hr e0 (hb s₁ (.ref a)) (.cons rfl .nil) hsp) ?_
  intro r s' h
  rcases r with e | (_ | _ | _ | u)
  all_goals first
    | (obtain ⟨v, H', os, bare, un, hok', r', q⟩ := h
       cases (show v = .bl true from q)
       obtain rfl : u = Value.bool true := r'
       refine ⟨rfl, OldK.of_keep fun b ob e => ?_, os, bare⟩
       rcases hA b with z | ⟨_, ob', uu, z⟩
       · exact un.keep b ob e z (fun zz => nomatch zz) (fun zz => nomatch zz)
       · have e1 := (hok b _ z).1
         rw [e] at e1
         cases e1
         exact (hok' b _ (un.frzs b _ _ z)).1)
    | exact h.elim
    | (obtain ⟨_, _, _, _, _, _, _, _, _, _, _, _, z⟩ := h; exact z.elim)
end FK
namespace FK
open PySem PySem.Spec L2
open PyProof.Rows hiding St
/-! ### the mirror's words -/
abbrev kNon : Env → R DV := fun _ => .ok (.non, .fz)
abbrev kBl (b : Bool) : Env → R DV := fun _ => .ok (.bl b, .fz)
abbrev kInt (i : Int) : Env → R DV := fun _ => .ok (.int i, .fz)
abbrev kStr (s : Str) : Env → R DV := fun _ => .ok (.str s, .fz)
abbrev kDk : Env → R DV := fun _ => .ok (.dk [], .ow)
abbrev kDt : Env → R DV := fun _ => .ok (.dt [], .ow)
abbrev kTrue : Env → R Bool := fun _ => .ok true
abbrev aNil : Env → R (List DV) := fun _ => .ok []
abbrev aCons (p : Env → R DV) (q : Env → R (List DV)) : Env → R (List DV) := fun ρ => (p ρ).bind fun x => (q ρ).bind fun xs => .ok (x :: xs)
abbrev oNone : Env → R (Option Int) := fun _ => .ok none
abbrev oSome (p : Env → R DV) : Env → R (Option Int) := fun ρ => (p ρ).bind intD
abbrev mTup (q : Env → R (List DV)) : Env → R DV := fun ρ => (q ρ).bind mkTup
abbrev mLst (q : Env → R (List DV)) : Env → R DV := fun ρ => (q ρ).bind mkLst
abbrev mSlice (p : Env → R DV) (a b : Env → R (Option Int)) : Env → R DV := fun ρ => (p ρ).bind fun x => (a ρ).bind fun l => (b ρ).bind fun u => slD x l u
abbrev mLrg1 (p : Env → R DV) : Env → R DV := fun ρ => (p ρ).bind lrg1
abbrev mIs (p : Env → R DV) (T : String) : Env → R DV := fun ρ => (p ρ).bind fun d => isTy T d.1
abbrev mNeg (p : Env → R DV) : Env → R DV := fun ρ => (p ρ).bind negD
abbrev mItems (p : Env → R DV) : Env → R (List D × Kd) := fun ρ => (p ρ).bind itemsD
abbrev mRg1 (p : Env → R DV) : Env → R (List D × Kd) := fun ρ => (p ρ).bind rg1
abbrev mRg2 (p q : Env → R DV) : Env → R (List D × Kd) := fun ρ => (p ρ).bind fun x => (q ρ).bind fun y => rg2 x y
abbrev mEnum (p : Env → R DV) : Env → R (List D × Kd) := fun ρ => (p ρ).bind enumD
abbrev gName (i : Nat) : D → Env → Option Env := fun d ρ => some (ρ.set i (some (d, .fz)))
abbrev gTup (n : Nat) (f : List D → Env → Option Env) : D → Env → Option Env := fun d ρ => match d with | .tup ds => if ds.length = n then f ds ρ else none | _ => none
abbrev mPass : Env → SO := fun ρ => .nx ρ
abbrev mBreak : Env → SO := fun ρ => .bk ρ
abbrev mCont : Env → SO := fun ρ => .ct ρ
abbrev mRetN : Env → SO := fun _ => .rt (.non, .fz)
abbrev mNever : Env → SO := fun _ => .no
abbrev mRet (p : Env → R DV) : Env → SO := fun ρ => (p ρ).st retD
abbrev mExpr (p : Env → R DV) : Env → SO := fun ρ => (p ρ).st fun _ => .nx ρ
abbrev mIf (t : Env → R Bool) (a b : Env → SO) : Env → SO := fun ρ => (t ρ).st fun c => if c then a ρ else b ρ
abbrev mSeq (a b : Env → SO) : Env → SO := fun ρ => (a ρ).seq b
abbrev mFrz (i : Nat) (m : Env → SO) : Env → SO := fun ρ => m (frzS i ρ)
end FK
namespace FK
open PySem PySem.Spec L2
open PyProof.Rows hiding St

/-! ### min, max of three -/
def gI3 (f : Int → Int → Int → Int) (x y z : DV) : R DV := match x.1, y.1, z.1 with | .int i, .int j, .int k => .ok (.int (f i j k), .fz) | _, _, _ => .no
def mn2 (i j : Int) : Int := if j < i then j else i
def mx2 (i j : Int) : Int := if i < j then j else i
section
variable {X : Cx} {E : XK}
theorem cb3 {f : Value} {r : List V → Hp → VK → Prop} {g : DV → DV → DV → R DV} (hc : CallR X f r)
    (h : ∀ (B : Hp) (O0 : Own) (H0 H : Hp) (O : Own) (x y z : DV) (v w u : V), Same H0 H → (∀ a, O a → H a ≠ none) → Out X.K B O0 H0 H O v x → Out X.K B O0 H0 H O w y → Out X.K B O0 H0 H O u z → EvG X.K X.mg O E H (g x y z) (ORel X.K B O0 H O) (fun Q => r [v, w, u] H Q)) : CB X E f (three g) :=
  ⟨r, hc, fun B O0 H0 H O xs vs s d o => match xs, vs, o with
    | [], _, _ => True.intro
    | [_], _, _ => True.intro
    | [_, _], _, _ => True.intro
    | [x, y, z], _, .cons a (.cons b (.cons c .nil)) => h B O0 H0 H O x y z _ _ _ s d a b c
    | _ :: _ :: _ :: _ :: _, _, _ => True.intro⟩
theorem ev_i3 {f : Int → Int → Int → Int} {r : List V → Hp → VK → Prop} (hr : ∀ H i j k (Q : VK), Q (.int (f i j k)) H → r [.int i, .int j, .int k] H Q) (B : Hp) (O0 : Own) (H0 H : Hp) (O : Own) (x y z : DV) (v w u : V) (s : Same H0 H) (dom : ∀ a, O a → H a ≠ none) (hx : Out X.K B O0 H0 H O v x) (hy : Out X.K B O0 H0 H O w y) (hz : Out X.K B O0 H0 H O u z) :
    EvG X.K X.mg O E H (gI3 f x y z) (ORel X.K B O0 H O) (fun Q => r [v, w, u] H Q) := by
  obtain ⟨d, kk⟩ := x
  obtain ⟨d2, k2⟩ := y
  obtain ⟨d3, k3⟩ := z
  cases d <;> first | exact True.intro | skip
  cases d2 <;> first | exact True.intro | skip
  cases d3 <;> first | exact True.intro | skip
  cases hx.int
  cases hy.int
  cases hz.int
  exact fun Q hQ => hr _ _ _ _ _ (hQ _ _ (Same.refl _) (show Rep _ _ _ _ from .int _))
theorem cb_min3 (hc : X.calm = true) : CB X E (.builtin "min") (three (gI3 fun i j k => mn2 (mn2 i j) k)) := cb3 (call_min3Nu hc) (ev_i3 fun H i j k Q q => ⟨_, _, _, _, rfl, (by
  show nuMin3 (.int i) (.int j) (.int k) = some (.int (mn2 (mn2 i j) k))
  unfold nuMin3 nuMin2 nuLt nuCB mn2
  by_cases h : j < i
  · simp [h]
    by_cases h2 : k < j <;> simp [h2]
  · simp [h]
    by_cases h2 : k < i <;> simp [h2]), q⟩)
theorem cb_max3 (hc : X.calm = true) : CB X E (.builtin "max") (three (gI3 fun i j k => mx2 (mx2 i j) k)) := cb3 (call_max3Nu hc) (ev_i3 fun H i j k Q q => ⟨_, _, _, _, rfl, (by
  show nuMax3 (.int i) (.int j) (.int k) = some (.int (mx2 (mx2 i j) k))
  unfold nuMax3 nuMax2 nuLt nuCB mx2
  by_cases h : i < j
  · simp [h]
    by_cases h2 : j < k <;> simp [h2]
  · simp [h]
    by_cases h2 : i < k <;> simp [h2]), q⟩)
end
/-! ### is True, is False -/
def isBoolD (g : Bool → Bool) (x y : DV) : R DV := match x, y with
  | (.bl a, .fz), (.bl b, .fz) => .ok (.bl (g (decide (a = b))), .fz)
  | _, _ => .no
section
variable {X : Cx} {E : XK}
theorem co_isB : CO X E .Is (isBoolD id) := ⟨_, op_isBl, fun B O0 H0 H O x y v w s dom hx hy => by
  obtain ⟨d, kk⟩ := x
  obtain ⟨d2, k2⟩ := y
  cases d <;> first | exact True.intro | skip
  cases kk <;> first | exact True.intro | skip
  cases d2 <;> first | exact True.intro | skip
  cases k2 <;> first | exact True.intro | skip
  cases hx.bl
  cases hy.bl
  exact fun Q hQ => ⟨_, _, rfl, rfl, hQ _ _ (Same.refl _) (show Rep _ _ _ _ from .bl _)⟩⟩
theorem co_isnB : CO X E .IsNot (isBoolD (!·)) := ⟨_, op_notBl, fun B O0 H0 H O x y v w s dom hx hy => by
  obtain ⟨d, kk⟩ := x
  obtain ⟨d2, k2⟩ := y
  cases d <;> first | exact True.intro | skip
  cases kk <;> first | exact True.intro | skip
  cases d2 <;> first | exact True.intro | skip
  cases k2 <;> first | exact True.intro | skip
  cases hx.bl
  cases hy.bl
  exact fun Q hQ => ⟨_, _, rfl, rfl, hQ _ _ (Same.refl _) (show Rep _ _ _ _ from .bl _)⟩⟩
end
end FK
namespace FK
open PySem PySem.Spec L2
open PyProof.Rows hiding St

/-! ### comprehensions of two fors -/
def cI (K : PySem.W.Frag) (q : Env → R (List D × Kd)) : TI := fun σ H Q => ∃ (B F : Hp) (O0 O : Own) (ρ : Env) (x : List D × Kd), SR K B F O0 H O σ ρ ∧ q ρ = .ok x ∧ ∀ J H', Same H H' → ItOk K (off O H') (srcH B O H' x.2) J x.1 → Q J H'
theorem DI.canon {X : Cx} {E : XK} {tg iter : Expr} {q : Env → R (List D × Kd)} (h : DI X E tg iter q) : PI X tg iter (cI X.K q) := by
  obtain ⟨t, h1, h2⟩ := h.ex
  refine ⟨fun pins s σ H Q I z => ?_⟩
  obtain ⟨B, F, O0, O, ρ, x, R, ex, hQ⟩ := z
  have := h2 B F O0 H O σ ρ R
  rw [ex] at this
  exact h1.run pins s σ H Q I (this Q hQ)
def lcM2 (f : D → Env → Option Env) (pt : Env → R Bool) (q1 : Env → R (List D × Kd)) (f1 : D → Env → Option Env) (pt1 : Env → R Bool) (pe : Env → R DV) (vs1 : List Nat) : List D → Env → R (List D)
  | [], _ => .ok []
  | d :: ds, ρ => match f d ρ with
    | none => .no
    | some ρ1 => (pt ρ1).quiet.bind fun b => if b then (q1 ρ1).quiet.bind fun x => if x.2 = .al then .no else (lcM f1 pt1 pe x.1 (wipeD ρ1 vs1)).bind fun r1 => (lcM2 f pt q1 f1 pt1 pe vs1 ds ρ).bind fun r => .ok (r1 ++ r)
      else lcM2 f pt q1 f1 pt1 pe vs1 ds ρ
abbrev mLc2 (q : Env → R (List D × Kd)) (f : D → Env → Option Env) (pt : Env → R Bool) (q1 : Env → R (List D × Kd)) (f1 : D → Env → Option Env) (pt1 : Env → R Bool) (pe : Env → R DV) (vs vs1 : List Nat) : Env → R DV := fun ρ =>
  (q ρ).bind fun x => (lcM2 f pt q1 f1 pt1 pe vs1 x.1 (wipeD ρ vs)).quiet.bind fun r => if r.length ≤ sizeLine then .ok (.lst r, .ow) else .no
theorem wipe_wipe (vs : List Nat) (σ : L2.St) : wipe (wipe σ vs) vs = wipe σ vs := by
  induction vs generalizing σ with
  | nil => rfl
  | cons v r ih =>
    show (wipe ((wipe σ r).set v none) r).set v none = (wipe σ r).set v none
    by_cases c : v ∈ r
    · rw [wipe_set v r _ c, ih]
    · have comm : ∀ (r : List Nat) (τ : L2.St), v ∉ r → wipe (τ.set v none) r = (wipe τ r).set v none := by
        intro r
        induction r with
        | nil => intro _ _; rfl
        | cons w r ih2 =>
          intro τ h
          have h1 : v ≠ w := fun e => h (by rw [e]; exact List.mem_cons_self)
          have h2 : v ∉ r := fun e => h (List.mem_cons_of_mem _ e)
          show (wipe (τ.set v none) r).set w none = ((wipe τ r).set w none).set v none
          rw [ih2 τ h2, List.set_comm _ _ h1]
      rw [comm r _ c, ih, List.set_set]
/-- targets store frozen values, at their own names alone -/
def TgOk (is : List Nat) (f : D → Env → Option Env) : Prop := ∀ d ρ ρ', f d ρ = some ρ' → ∀ j, (j ∈ is → ∀ y, ρ'[j]? = some (some y) → y.2 = .fz ∨ ρ[j]? = some (some y)) ∧ (j ∉ is → ρ'[j]? = ρ[j]?)
def TgsOk (is : List Nat) (f : List D → Env → Option Env) : Prop := ∀ ds ρ ρ', f ds ρ = some ρ' → ∀ j, (j ∈ is → ∀ y, ρ'[j]? = some (some y) → y.2 = .fz ∨ ρ[j]? = some (some y)) ∧ (j ∉ is → ρ'[j]? = ρ[j]?)
theorem tk_name (i : Nat) : TgOk [i] (fun d ρ => some (ρ.set i (some (d, .fz)))) := fun d ρ ρ' e j => by
  cases e
  refine ⟨fun h y z => ?_, fun h => ?_⟩
  · cases List.mem_singleton.mp h
    by_cases c : i < ρ.length
    · rw [List.getElem?_set_self c] at z
      cases z
      exact .inl rfl
    · rw [List.getElem?_eq_none (by rw [List.length_set]; omega)] at z; cases z
  · have : i ≠ j := fun z => h (by rw [z]; exact List.mem_singleton.mpr rfl)
    exact List.getElem?_set_ne this
theorem tks_nil : TgsOk [] gsNil := fun ds ρ ρ' e j => by
  cases ds with
  | nil => cases e; exact ⟨(fun h => nomatch h), fun _ => rfl⟩
  | cons => cases e
theorem tks_cons {is js : List Nat} {f : D → Env → Option Env} {g : List D → Env → Option Env} (h : TgOk is f) (k : TgsOk js g) : TgsOk (is ++ js) (gsCons f g) := fun ds ρ ρ' e j => by
  cases ds with
  | nil => cases e
  | cons d r =>
    have e : (f d ρ).bind (g r) = some ρ' := e
    cases q : f d ρ with
    | none => rw [q] at e; cases e
    | some ρ1 =>
      rw [q] at e
      obtain ⟨a1, a2⟩ := h d ρ ρ1 q j
      obtain ⟨b1, b2⟩ := k r ρ1 ρ' e j
      refine ⟨fun hj y z => ?_, fun hj => ?_⟩
      · by_cases c : j ∈ js
        · rcases b1 c y z with w | w
          · exact .inl w
          · by_cases c2 : j ∈ is
            · exact a1 c2 y w
            · rw [a2 c2] at w; exact .inr w
        · rw [b2 c] at z
          exact a1 ((List.mem_append.mp hj).resolve_right c) y z
      · rw [b2 fun z => hj (List.mem_append_right _ z), a2 fun z => hj (List.mem_append_left _ z)]
theorem tk_tup {is : List Nat} {n : Nat} {f : List D → Env → Option Env} (h : TgsOk is f) : TgOk is (fun d ρ => match d with | .tup ds => if ds.length = n then f ds ρ else none | _ => none) := fun d ρ ρ' e j => by
  cases d <;> first | (cases e; done) | skip
  dsimp only at e
  split at e
  · exact h _ _ _ e j
  · cases e
theorem wipeD_get : ∀ (vs : List Nat) (ρ : Env) (j : Nat) (y : DV), (wipeD ρ vs)[j]? = some (some y) → j ∉ vs ∧ ρ[j]? = some (some y)
  | [], ρ, j, y, h => ⟨(fun z => nomatch z), h⟩
  | v :: vs, ρ, j, y, h => by
    by_cases c : v = j
    · subst c
      have h : ((wipeD ρ vs).set v none)[v]? = some (some y) := h
      by_cases l : v < (wipeD ρ vs).length
      · rw [List.getElem?_set_self l] at h; cases h
      · rw [List.getElem?_eq_none (by rw [List.length_set]; omega)] at h; cases h
    · have h : ((wipeD ρ vs).set v none)[j]? = some (some y) := h
      rw [List.getElem?_set_ne c] at h
      obtain ⟨h1, h2⟩ := wipeD_get vs ρ j y h
      exact ⟨fun z => (List.mem_cons.mp z).elim (fun e => c e.symm) h1, h2⟩
theorem wipe_at : ∀ (vs : List Nat) (σ : L2.St) (j : Nat), j ∉ vs → (wipe σ vs)[j]? = σ[j]?
  | [], _, _, _ => rfl
  | v :: vs, σ, j, h => by
    show ((wipe σ vs).set v none)[j]? = _
    rw [List.getElem?_set_ne fun z => h (by rw [z]; exact List.mem_cons_self)]
    exact wipe_at vs σ j fun z => h (List.mem_cons_of_mem _ z)
section
variable {X : Cx} {E : XK} {tg iter tg1 iter1 elt : Expr} {pe : Env → R DV} {pt pt1 : Env → R Bool} {pos : Pos} {is is1 : List Nat} {f f1 : D → Env → Option Env} {q1 : Env → R (List D × Kd)}
theorem bind_ok_inv {α β : Type} {r : R α} {f : α → R β} {y : β} (h : r.bind f = .ok y) : ∃ x, r = .ok x ∧ f x = .ok y := by
  cases r with
  | ok x => exact ⟨x, rfl, h⟩
  | ex e => cases h
  | no => cases h
theorem quiet_ok {α : Type} {r : R α} {y : α} (h : r.quiet = .ok y) : r = .ok y := by
  cases r with
  | ok x => exact h
  | ex e => cases h
  | no => cases h
theorem ev_lc2 {wi : TI} {own : List (Str × Nat)} {vs1 : List Nat} {q : Env → R (List D × Kd)} {B F H : Hp} {O0 O : Own} {σ : L2.St} {ρ : Env} (R : SR X.K B F O0 H O σ ρ) (hi : EvG X.K X.mg O E H (q ρ) (fun x J H' => ItOk X.K (off O H') (srcH B O H' x.2) J x.1) (wi σ H)) (his : ∀ i ∈ is, i ∈ own.map (·.2)) (his1 : ∀ i ∈ is1, i ∈ vs1) (tk : TgOk is f) :
    EvG X.K X.mg O E H (mLc2 q f pt q1 f1 pt1 pe (own.map (·.2)) vs1 ρ) (ORel X.K B O0 H O) (tLc2 wi (cG X.K is f) (cTT X.K pt) (cI X.K q1) (cG X.K is1 f1) (cTT X.K pt1) (cT X.K pe) (own.map (·.2)) vs1 σ H) := by
  generalize hvs : own.map (·.2) = vs at *
  refine EvG.bind (T1 := fun J H1 Q => ∀ D, H1 D = none → ∃ W : Nat → Nat → Hp → Prop, (∃ m, W 0 m (upd H1 D (.lst []))) ∧ ∀ i m H, W i m H →
    (J.stop i H ∧ Q (V.ref D) H) ∨ (J.go i H ∧ ∃ Nx : Hp → Prop, (∀ H', Nx H' → ∃ m', m' < m ∧ W (i + 1) m' H') ∧ ∀ x H', J.yld i H x H' → cG X.K is f x (wipe σ vs) H' fun σ2 H2 => wipe σ2 vs = wipe σ vs ∧ cTT X.K pt σ2 H2 fun b H3 =>
      if b = true then cI X.K q1 σ2 H3 fun J1 H4 => ∃ W1 : Nat → Nat → Hp → Prop, (∃ m, W1 0 m H4) ∧ ∀ j k H, W1 j k H →
        (J1.stop j H ∧ Nx H) ∨ (J1.go j H ∧ ∃ Nx1 : Hp → Prop, (∀ H', Nx1 H' → ∃ k', k' < k ∧ W1 (j + 1) k' H') ∧ ∀ x H', J1.yld j H x H' → cG X.K is1 f1 x (wipe σ2 vs1) H' fun σ3 H5 => wipe σ3 vs1 = wipe σ2 vs1 ∧ cTT X.K pt1 σ3 H5 fun b H6 =>
          if b = true then cT X.K pe σ3 H6 fun y H7 => ∃ acc, H7 D = some (.lst acc) ∧ acc.length < sizeLine ∧ Nx1 (upd H7 D (.lst (acc ++ [y]))) else Nx1 H6)
      else Nx H3)) hi fun x J H1 s1 it => ?_
  obtain ⟨ds, kk⟩ := x
  dsimp only at it ⊢
  cases qr : (lcM2 f pt q1 f1 pt1 pe vs1 ds (wipeD ρ vs)).quiet with
  | no => trivial
  | ex z => cases h : lcM2 f pt q1 f1 pt1 pe vs1 ds (wipeD ρ vs) <;> rw [h] at qr <;> cases qr
  | ok r =>
    have qr := quiet_ok qr
    rw [FK.R.bind_ok]
    split
    · rename_i hsz
      refine fun Q hQ D hD => ?_
      have R1 := R.more s1
      have nD : ¬ O D := fun z => R1.dom D z hD
      have oD : plus O D D := .inr rfl
      have bD : B D = none := R1.base.free hD
      have hw := R1.wipe vs
      have noslot : ∀ (j : Nat) (y : DV), (wipeD ρ vs)[j]? = some (some y) → y.2 = .ow → (wipe σ vs)[j]? ≠ some (some (.ref D)) := fun j y e1 e2 e3 => by
        obtain ⟨v, g1, g2⟩ := hw.slot j y e1
        rw [e3] at g1
        cases g1
        obtain ⟨d2, k2⟩ := y
        cases (show k2 = .ow from e2)
        obtain ⟨b, eb, ob, _, _⟩ := g2
        cases eb
        exact nD ob
      have srcS : Same (srcH B O H1 kk) H1 := by
        cases kk with
        | fz => exact off_sub
        | ow => exact off_sub
        | bo => exact R1.base
        | al => exact Same.refl _
      refine ⟨fun i m H' => m = ds.length - i ∧ i ≤ ds.length ∧ Same H1 H' ∧ ∃ acc done rr, H' D = some (.lst acc) ∧ RepL X.K (off (plus O D) H') acc done ∧ lcM2 f pt q1 f1 pt1 pe vs1 (ds.drop i) (wipeD ρ vs) = .ok rr ∧ done ++ rr = r ∧ SR X.K B F O0 H' (plus O D) (wipe σ vs) (wipeD ρ vs),
        ⟨ds.length, by omega, Nat.zero_le _, same_upd hD, [], [], r, upd_same, .nil, qr, rfl, hw.grow (same_upd hD) hD (by rw [upd_same]; exact fun z => nomatch z) (by rw [upd_same]; exact fun _ z => nomatch z)⟩, ?_⟩
      rintro i m H' ⟨rfl, hi, sH, acc, done, rr, hacc, hdone, hrr, htot, R'⟩
      obtain ⟨i1, i2, i3⟩ := it i H' (srcS.trans sH)
      by_cases hlt : i < ds.length
      · rw [List.drop_eq_getElem_cons hlt] at hrr
        unfold lcM2 at hrr
        cases e1 : f ds[i] (wipeD ρ vs) with
        | none => simp only [e1] at hrr; cases hrr
        | some ρ1 =>
          simp only [e1] at hrr
          refine .inr ⟨i1 hlt, fun H' => Same H1 H' ∧ ∃ acc done rr, H' D = some (.lst acc) ∧ RepL X.K (off (plus O D) H') acc done ∧ lcM2 f pt q1 f1 pt1 pe vs1 (ds.drop (i + 1)) (wipeD ρ vs) = .ok rr ∧ done ++ rr = r ∧ SR X.K B F O0 H' (plus O D) (wipe σ vs) (wipeD ρ vs),
            fun H' h => ⟨ds.length - (i + 1), by omega, rfl, hlt, h⟩, fun v H4 y => ?_⟩
          obtain ⟨s4, r4⟩ := i3 v H4 ds[i] y (List.getElem?_eq_getElem hlt)
          have R4 := R'.more s4
          have fS : Same (off O H1) (off (plus O D) H') := fun b o h => by
            obtain ⟨h1, h2⟩ := off_some h
            exact off_of (fun z => z.elim h1 fun e => by subst e; rw [hD] at h2; cases h2) (sH _ _ h2)
          refine ⟨B, F, O0, plus O D, wipeD ρ vs, ρ1, ds[i], R4, r4 _ R'.dom fS, e1, fun σ5 R5 w5 => ?_⟩
          refine ⟨(w5 vs fun i hi => by exact his i hi).trans (wipe_wipe vs σ), ?_⟩
          obtain ⟨b, e2, hrr⟩ := bind_ok_inv hrr
          have e2 := quiet_ok e2
          refine ⟨B, F, O0, plus O D, ρ1, b, R5, e2, fun H6 s6 => ?_⟩
          have s46 := s4.trans s6
          cases b with
          | false => exact ⟨sH.trans s46, acc, done, rr, s46 _ _ hacc, hdone.mono (off_mono s46), hrr, htot, R'.more s46⟩
          | true =>
            obtain ⟨⟨ds1, k1⟩, e3, hrr⟩ := bind_ok_inv hrr
            have e3 := quiet_ok e3
            dsimp only at hrr
            by_cases hal : k1 = .al
            · rw [if_pos hal] at hrr; cases hrr
            rw [if_neg hal] at hrr
            obtain ⟨r1, e4, hrr⟩ := bind_ok_inv hrr
            obtain ⟨r2, e5, hrr⟩ := bind_ok_inv hrr
            cases hrr
            show cI X.K q1 σ5 H6 _
            refine ⟨B, F, O0, plus O D, ρ1, (ds1, k1), R5.more s6, e3, fun J1 H7 s7 it1 => ?_⟩
            dsimp only at it1
            have s47 := s46.trans s7
            have R7 := (R5.more s6).more s7
            have sD7 : H7 D = some (.lst acc) := s47 _ _ hacc
            have noslot1 : ∀ (j : Nat) (y : DV), (wipeD ρ1 vs1)[j]? = some (some y) → y.2 = .ow → (wipe σ5 vs1)[j]? ≠ some (some (.ref D)) := fun j y h1 h2 => by
              obtain ⟨n1, h1⟩ := wipeD_get vs1 ρ1 j y h1
              rw [wipe_at vs1 σ5 j n1]
              obtain ⟨t1, t2⟩ := tk _ _ _ e1 j
              by_cases c : j ∈ is
              · rcases t1 c y h1 with z | z
                · rw [h2] at z; cases z
                · exact absurd (his j c) (wipeD_get vs ρ j y z).1
              · rw [t2 c] at h1
                have := w5 is fun _ z => z
                have h3 : (wipe σ5 is)[j]? = (wipe (wipe σ vs) is)[j]? := by rw [this]
                rw [wipe_at is σ5 j c, wipe_at is _ j c] at h3
                rw [h3]
                exact noslot j y h1 h2
            refine ⟨fun j k H' => k = ds1.length - j ∧ j ≤ ds1.length ∧ Same H1 H' ∧ Same (srcH B (plus O D) H7 k1) H' ∧ Same (off (plus O D) H7) (off (plus O D) H') ∧ ∃ acc done rr1, H' D = some (.lst acc) ∧ RepL X.K (off (plus O D) H') acc done ∧ lcM f1 pt1 pe (ds1.drop j) (wipeD ρ1 vs1) = .ok rr1 ∧ done ++ (rr1 ++ r2) = done ++ (rr1 ++ r2) ∧ done ++ (rr1 ++ r2) = r ∧ SR X.K B F O0 H' (plus O D) (wipe σ5 vs1) (wipeD ρ1 vs1) ∧ SR X.K B F O0 H' (plus O D) (wipe σ vs) (wipeD ρ vs),
              ⟨ds1.length, by omega, Nat.zero_le _, sH.trans s47, ?_, Same.refl _, acc, done, r1, sD7, hdone.mono (off_mono s47), e4, rfl, htot, R7.wipe vs1, R'.more s47⟩, ?_⟩
            · cases k1 with
              | fz => exact off_sub
              | ow => exact off_sub
              | bo => exact R7.base
              | al => exact absurd rfl hal
            rintro j k H8 ⟨rfl, hj, sH8, sS8, sO8, acc, done, rr1, hacc, hdone, hrr1, _, htot, R8, R8'⟩
            obtain ⟨j1, j2, j3⟩ := it1 j H8 sS8
            by_cases hlt1 : j < ds1.length
            · rw [List.drop_eq_getElem_cons hlt1] at hrr1
              unfold lcM at hrr1
              cases g1 : f1 ds1[j] (wipeD ρ1 vs1) with
              | none => simp only [g1] at hrr1; cases hrr1
              | some ρ2 =>
                simp only [g1] at hrr1
                refine .inr ⟨j1 hlt1, fun H' => Same H1 H' ∧ Same (srcH B (plus O D) H7 k1) H' ∧ Same (off (plus O D) H7) (off (plus O D) H') ∧ ∃ acc done rr1, H' D = some (.lst acc) ∧ RepL X.K (off (plus O D) H') acc done ∧ lcM f1 pt1 pe (ds1.drop (j + 1)) (wipeD ρ1 vs1) = .ok rr1 ∧ done ++ (rr1 ++ r2) = done ++ (rr1 ++ r2) ∧ done ++ (rr1 ++ r2) = r ∧ SR X.K B F O0 H' (plus O D) (wipe σ5 vs1) (wipeD ρ1 vs1) ∧ SR X.K B F O0 H' (plus O D) (wipe σ vs) (wipeD ρ vs),
                  fun H' h => ⟨ds1.length - (j + 1), by omega, rfl, hlt1, h⟩, fun v H9 y => ?_⟩
                obtain ⟨s9, r9⟩ := j3 v H9 ds1[j] y (List.getElem?_eq_getElem hlt1)
                have R9 := R8.more s9
                refine ⟨B, F, O0, plus O D, wipeD ρ1 vs1, ρ2, ds1[j], R9, r9 _ R8.dom sO8, g1, fun σ10 R10 w10 => ?_⟩
                refine ⟨(w10 vs1 fun i hi => by exact his1 i hi).trans (wipe_wipe vs1 σ5), ?_⟩
                obtain ⟨b1, g2, hrr1⟩ := bind_ok_inv hrr1
                have g2 := quiet_ok g2
                refine ⟨B, F, O0, plus O D, ρ2, b1, R10, g2, fun H11 s11 => ?_⟩
                have s911 := s9.trans s11
                cases b1 with
                | false => exact ⟨sH8.trans s911, sS8.trans s911, sO8.trans (off_mono s911), acc, done, rr1, s911 _ _ hacc, hdone.mono (off_mono s911), hrr1, rfl, htot, R8.more s911, R8'.more s911⟩
                | true =>
                  obtain ⟨x, g3, hrr1⟩ := bind_ok_inv hrr1
                  have g3 := quiet_ok g3
                  show cT X.K pe σ10 H11 _
                  refine ⟨B, F, O0, plus O D, ρ2, x, R10.more s11, g3, fun y H12 s12 o12 => ?_⟩
                  have s912 := s911.trans s12
                  cases g4 : keep1 x with
                  | none => rw [g4] at hrr1; cases hrr1
                  | some yd =>
                    rw [g4] at hrr1
                    obtain ⟨rr3, g5, hrr1⟩ := bind_ok_inv hrr1
                    cases hrr1
                    refine ⟨acc, s912 _ _ hacc, ?_, ?_⟩
                    · have h1 := hdone.length
                      have h2 := congrArg List.length htot
                      simp only [List.length_append, List.length_cons] at h2
                      omega
                    · have hk : Rep X.K (off (plus O D) H12) y yd := Out.keep o12 g4
                      have hne : ∀ {b : Addr} {o : HO} {Hs : Hp}, Hs b = some o → Hs D = none → b ≠ D := fun h z e => by subst e; rw [z] at h; cases h
                      refine ⟨fun b o h => by rw [upd_ne (hne h hD)]; exact s912 _ _ (sH8 _ _ h), fun b o h => ?_, fun b o h => ?_, acc ++ [y], done ++ [yd], rr3, upd_same, ?_, g5, rfl, ?_, (R8.more s912).writeT oD bD noslot1 (fun _ z => nomatch z), (R8'.more s912).writeT oD bD noslot (fun _ z => nomatch z)⟩
                      · have sd : srcH B (plus O D) H7 k1 D = none := by
                          cases k1 with
                          | fz => show off (plus O D) H7 D = none; unfold off; rw [if_pos oD]
                          | ow => show off (plus O D) H7 D = none; unfold off; rw [if_pos oD]
                          | bo => exact bD
                          | al => exact absurd rfl hal
                        rw [upd_ne (hne h sd)]
                        exact s912 _ _ (sS8 _ _ h)
                      · rw [off_upd oD]
                        exact off_mono s912 _ _ (sO8 _ _ h)
                      · rw [off_upd oD]
                        exact (hdone.mono (off_mono s912)).append (.cons hk .nil)
                      · rw [List.append_assoc]; exact htot
            · have e : j = ds1.length := by omega
              subst e
              rw [List.drop_length] at hrr1
              cases hrr1
              exact .inl ⟨j2 (Nat.le_refl _), sH8, acc, done, r2, hacc, hdone, e5, htot, R8'⟩
      · have e : i = ds.length := by omega
        subst e
        rw [List.drop_length] at hrr
        cases hrr
        rw [List.append_nil] at htot
        subst htot
        exact .inl ⟨i2 (Nat.le_refl _), hQ _ _ sH ⟨D, rfl, s1.free hD, nD, acc, hacc, hdone⟩⟩
    · trivial
theorem de_lc2 {ifs ifs1 : List Expr} {scope : Scope} {own : List (Str × Nat)} {vs1 : List Nat} {q : Env → R (List D × Kd)} (hc : X.calm = true) (hN : X.N.Nodup) (hi : DI X E tg iter q) (ok : BlkOk X.N X.env.scope scope own) (his : ∀ i ∈ is, i ∈ own.map (·.2)) (his1 : ∀ i ∈ is1, i ∈ vs1) (hv : ∀ i ∈ vs1, i ∈ own.map (·.2)) (tk : TgOk is f)
    (hg : ∀ (s : Shared) (H : Hp) (C : Addr) (cl : List (Str × Addr)) (fp : List Addr), DG (X.blk s H scope (compEnvC scope cl C X.env) fp) tg is f)
    (ht : ∀ (s : Shared) (H : Hp) (C : Addr) (cl : List (Str × Addr)) (fp : List Addr), DTs (X.blk s H scope (compEnvC scope cl C X.env) fp) E0 ifs pt)
    (hi1 : ∀ (s : Shared) (H : Hp) (C : Addr) (cl : List (Str × Addr)) (fp : List Addr), DI (X.blk s H scope (compEnvC scope cl C X.env) fp) E0 tg1 iter1 q1)
    (hg1 : ∀ (s : Shared) (H : Hp) (C : Addr) (cl : List (Str × Addr)) (fp : List Addr), DG (X.blk s H scope (compEnvC scope cl C X.env) fp) tg1 is1 f1)
    (ht1 : ∀ (s : Shared) (H : Hp) (C : Addr) (cl : List (Str × Addr)) (fp : List Addr), DTs (X.blk s H scope (compEnvC scope cl C X.env) fp) E0 ifs1 pt1)
    (he : ∀ (s : Shared) (H : Hp) (C : Addr) (cl : List (Str × Addr)) (fp : List Addr), DE (X.blk s H scope (compEnvC scope cl C X.env) fp) E0 elt pe) (hs : ∀ x, foldedSetIterable iter X.env x = pure x := by intro _; rfl) (hs1 : ∀ env x, foldedSetIterable iter1 env x = pure x := by intro _ _; rfl) :
    DE X E (.ListComp elt [⟨tg, iter, ifs, 0⟩, ⟨tg1, iter1, ifs1, 0⟩] scope pos) (mLc2 q f pt q1 f1 pt1 pe (own.map (·.2)) vs1) := by
  obtain ⟨wi, a1, a2⟩ := hi.ex
  refine ⟨_, pe_lc2 hc hN a1 ok hv (g := cG X.K is f) (tt := cTT X.K pt) (wi1 := cI X.K q1) (g1 := cG X.K is1 f1) (tt1 := cTT X.K pt1) (te := cT X.K pe) (fun s H C cl fp => (hg s H C cl fp).canon) (fun s H C cl fp => (ht s H C cl fp).ex) (fun s H C cl fp => (hi1 s H C cl fp).canon) (fun s H C cl fp => (hg1 s H C cl fp).canon) (fun s H C cl fp => (ht1 s H C cl fp).ex) (fun s H C cl fp => (he s H C cl fp).canon) hs hs1, fun B F O0 H O σ ρ R => ?_⟩
  exact ev_lc2 R (a2 B F O0 H O σ ρ R) his his1 tk
end
end FK
namespace FK
open PySem PySem.Spec L2
open PyProof.Rows hiding St

/-! ### max(xs, default=d) -/
theorem dpAll_ints {K : PySem.W.Frag} {H : Hp} : ∀ ns : List Int, DpAll K H (ns.map V.int) (ns.map PyData.int)
  | [] => .nil
  | n :: r => .cons (.int n) (dpAll_ints r)
def gMaxDef (x y : DV) : R DV := match x.1, y.1 with
  | .lst xs, .int d => (match intsD xs with | some ns => .ok (.int (if ns = [] then d else maxI ns), .fz) | none => .no)
  | _, _ => .no
section
variable {X : Cx} {E : XK} {k : Nat}
def rMaxDef (K : PySem.W.Frag) : List V → List V → Hp → VK → Prop := fun vs zs H Q => ∃ a ns d, vs = [V.ref a] ∧ SqL K H a (ns.map V.int) ∧ zs = [V.int d] ∧ Q (.int (if ns = [] then d else maxI ns)) H
theorem cr_maxDef (hc : X.calm = true) (hr : Room k X.A) : CallRK X (.builtin "max") [Str.ofString "default"] (rMaxDef X.K) := by
  intro pins s σ H xs zs us ws Q I r rz h
  obtain ⟨a, ns, d, rfl, hs, rfl, q⟩ := h
  obtain ⟨its, ri, hl, hz⟩ := I.list hs
  rw [Vals.ref1 r]
  obtain ⟨w1, rfl, t0, rfl⟩ := vals1 rz
  obtain ⟨as, ra⟩ := Dp.readsAll I _ _ _ (dpAll_ints ns) ri
  have hdep : PyData.depthAll (ns.map PyData.int) = 0 := PySem.W.depth_ints ns
  have hu := hr.un
  refine PySem.W.max_list_default (vs := its.toArray) (xs := ns.map PyData.int) (I.ok.hd hc) hl.isList (by simpa using ra) ⟨?_, ?_⟩ (by rw [hdep]; omega) (fun e h' tk hk => ?_) fun y ys i v h' tk bs e hv rv hk => ?_
  · intro x hx y hy
    obtain ⟨i, _, rfl⟩ := List.mem_map.mp hx
    obtain ⟨j, _, rfl⟩ := List.mem_map.mp hy
    simp [PySem.W.alike]
  · intro x hx
    obtain ⟨i, _, rfl⟩ := List.mem_map.mp hx
    exact fun z => by cases z
  · have : ns = [] := List.map_eq_nil_iff.mp e
    rw [if_pos this] at q
    exact ⟨.int d, H, I.kept hk, ⟨_, rfl⟩, q⟩
  · cases ns with
    | nil => cases e
    | cons n r =>
      cases e
      rw [PySem.W.maxD_ints] at rv
      cases rv
      rw [if_neg (by simp)] at q
      exact ⟨.int _, H, I.kept hk, ⟨_, rfl⟩, q⟩
theorem de_maxDef {x : Str} {e d : Expr} {kpos pos pp : Pos} {p pd : Env → R DV} (hc : X.calm = true) (hg : Gl X x) (hm : X.mg x = none) (hv : bootBuiltins x = some (.builtin "max")) (hr : Room k X.A) (ha : DE X E e p) (hd : DE X E d pd) (hn : x ≠ "__name__" := by decide) (hdb : (x == ("__debug__" : Str)) = false := by decide)
    (hs : starEach [e] X.env = (false, eval e X.env) :: starEach [] X.env := by rfl)
    (he : backTo pos (starEach [e] X.env) = (false, eval e X.env) :: backTo pos (starEach [] X.env) := by rfl) (hpl : (backTo pos (starEach [e] X.env)).any (·.1) = false := by rfl)
    (hall : (backToKw pos (keywordEach [⟨some "default", d, kpos⟩] X.env)).all (·.1.isSome) = true := by rfl) (hnone : (backToKw pos (keywordEach [⟨some "default", d, kpos⟩] X.env)).any (·.1.isNone) = false := by rfl) (hks : (backToKw pos (keywordEach [⟨some "default", d, kpos⟩] X.env)).filterMap (·.1) = [Str.ofString "default"] := by rfl) :
    DE X E (.Call (.Name x pp) [e] [⟨some "default", d, kpos⟩] pos) (fun ρ => (p ρ).bind fun x => (pd ρ).bind fun y => gMaxDef x y) := by
  obtain ⟨t, h1, h2⟩ := ha.ex
  obtain ⟨u, g1, g2⟩ := hd.ex
  refine ⟨_, pe_callBK (cr_maxDef hc hr) hg hm hv (pa_cons h1 pa_nil hs) (pk_cons g1 pk_nil) hn hdb he hpl hall hnone hks, fun B F O0 H O σ ρ R => ?_⟩
  refine EvG.bind (T1 := fun x H1 Q => u σ H1 fun y H2 => rMaxDef X.K [x] [y] H2 Q) (h2 B F O0 H O σ ρ R) fun x v H1 s1 r1 => ?_
  refine EvG.bind (T1 := fun y H2 Q => rMaxDef X.K [v] [y] H2 Q) (g2 B F O0 H1 O σ ρ (R.more s1)) fun y w H2 s2 r2 => ?_
  obtain ⟨d1, k1⟩ := x
  obtain ⟨d2, k2⟩ := y
  cases d1 <;> first | exact True.intro | skip
  cases d2 <;> first | exact True.intro | skip
  rename_i ds n
  unfold gMaxDef
  dsimp only
  have r1' := Out.mono r1 (Same.refl _) s2
  obtain ⟨a, vs, rfl, q1, q2⟩ := r1'.lst
  cases r2.int
  cases q : intsD ds with
  | none => trivial
  | some ns =>
    cases intsD_eq q
    rw [RepL.of_ints q2] at q1
    exact fun Q hQ => ⟨a, ns, n, rfl, q1, rfl, hQ _ _ (Same.refl _) (show Rep _ _ _ _ from .int _)⟩
end
end FK
namespace FK
open PySem PySem.Spec L2
open PyProof.Rows hiding St

/-! FX: try with several clauses, each with a name or without; raise of own errors; calls by keywords; defs that call themselves. -/
section
variable {X : Cx} {pins : List (Addr × Obj)} {σ : L2.St} {H : Hp} {s : Shared}
structure Cl where
  c : Value
  i : Option Nat
  ts : Addr → Value → Option Addr → TS
def clD (i : Option Nat) (D : Ends) : Ends := match i with
  | none => D
  | some i => { nx := fun σ' H' => D.nx (σ'.set i none) H', rt := D.rt, bk := fun σ' H' => D.bk (σ'.set i none) H', ct := fun σ' H' => D.ct (σ'.set i none) H' }
def clS (i : Option Nat) (a : Addr) (σ : L2.St) : L2.St := match i with
  | none => σ
  | some i => σ.set i (some (.ref a))
def wCl (K : PySem.W.Frag) (Wout : WX) (D : Ends) : List Cl → WX
  | [] => Wout
  | x :: r => fun cls d σ H => ∃ b, PySem.W.exmOne K cls x.c = some b ∧ (b = true → ∀ a, H a = none → x.ts a cls d (clD x.i D) (clS x.i a σ) H) ∧ (b = false → wCl K Wout D r cls d σ H)
inductive HdsA (X : Cx) : List ExceptHandler → List Cl → Prop
  | nil : HdsA X [] []
  | no {x : Str} {c : Value} {ts : Addr → Value → Option Addr → TS} {b₀ : Stmt} {suite : List Stmt} {np pos' : Pos} {hds : List ExceptHandler} {l : List Cl} (hc : Names X x c)
      (hsu : ∀ (a : Addr) (oe : Obj) (cls : Value) (d : Option Addr) (pn : List (Addr × Obj)), Zc cls d oe → (∃ vs, oe.data = .fields vs) → PSs (X.suite a ((a, oe) :: pn)) (b₀ :: suite) (ts a cls d)) (r : HdsA X hds l) :
      HdsA X (.ExceptHandler (some (.Name x np)) none (b₀ :: suite) pos' :: hds) (⟨c, none, ts⟩ :: l)
  | as {x n : Str} {i : Nat} {c : Value} {ts : Addr → Value → Option Addr → TS} {b₀ : Stmt} {suite : List Stmt} {np pos' : Pos} {hds : List ExceptHandler} {l : List Cl} (hc : Names X x c) (hi : X.N[i]? = some n) (hln : X.env.kindOf n = some .local)
      (hsu : ∀ (a : Addr) (oe : Obj) (cls : Value) (d : Option Addr) (pn : List (Addr × Obj)), Zc cls d oe → (∃ vs, oe.data = .fields vs) → PSs (X.suite a ((a, oe) :: pn)) (b₀ :: suite) (ts a cls d)) (r : HdsA X hds l) :
      HdsA X (.ExceptHandler (some (.Name x np)) (some n) (b₀ :: suite) pos' :: hds) (⟨c, some i, ts⟩ :: l)
end
section
variable {X : Cx} {body : List Stmt} {h₀ : ExceptHandler} {hds : List ExceptHandler} {l : List Cl} {pos : Pos} {tb : WX → TS} {Wout : WX}
theorem ps_tryA (hs : X.stack = X.env :: X.outer) (hf : X.env.frame = some X.env.locals) (hN : X.N.Nodup) (tk : Takes X Wout)
    (hb : ∀ (W : WX) (pn : List (Addr × Obj)) (xe : Value → Shared → Prop), Takes (X.tr pn xe) W → PassesOwn (model X.prog X.w) X.A X.env xe → PSs (X.tr pn xe) body (tb W))
    (hh : HdsA X (h₀ :: hds) l) : PS X (.Try body (h₀ :: hds) [] [] pos) (fun D σ H => tb (wCl X.K Wout D l) D σ H) := by
  refine ⟨fun pins s σ H D I h => ?_⟩
  have ok := I.ok
  have hfr : X.A.frames = some (X.env :: X.outer) := by rw [ok.frames, hs]
  refine wpAny_Try_except ?_
  refine wpAny_mono ((hb (wCl X.K Wout D l) (X.pn ++ pins) (fun e s₁ => wpAny (model X.prog X.w) X.A (noteFrame e X.env) (fun _ s₂ => wpAny (model X.prog X.w) X.A (setFlight e none) (fun _ s₃ =>
    wpAny (model X.prog X.w) X.A (handleBy e X.env (h₀ :: hds)) (SP X pins D) X.xe s₃) X.xe s₂) X.xe s₁) (fun u s' xx => ?_) PassesOwn.looking).run [] s σ H D (I.toTry _) h) (fun f s1 hsp => ?_) (fun e s1 he => he)
  · obtain ⟨a, B, sI, pins', σ', H', cls, d, rfl, J', nb, up, sky, na, os, ag, w⟩ := xx
    have J : Inv X pins σ' H' sI := J'.ofTry ok
    have sky' : Sky B (X.env :: X.outer) a (Zc cls d) X.env.locals s'.heap := by rw [← hs]; exact sky
    show wpAny (model X.prog X.w) X.A (noteFrame (.ref a) X.env) _ _ _
    refine Sky.land Zc.steady hfr hf sky' fun h3 fl3 up3 => ?_
    have J3 : Inv X pins σ' H' { s' with heap := h3 } := J.landed nb fl3.1 (up.trans up3) os ag
    obtain ⟨oe3, vs3, he3, hz3, hd3⟩ := fl3.there
    have notFr : ∀ {h : Heap} {o : Obj} {vs : Array Value}, h.FunFrames B (X.env :: X.outer) → h.get? a = some o → o.data = .fields vs → a ∉ frs (X.env :: X.outer) := fun {h o vs} ff e dd hm => by
      obtain ⟨_, o', e', hnf⟩ := ff.mem hm
      rw [e] at e'; cases e'
      exact hnf _ dd
    have nfr := notFr fl3.2.2.1 he3 hd3
    have nL : a ≠ X.env.locals := fun z => nfr (List.mem_filterMap.mpr ⟨X.env, List.mem_cons_self, by rw [hf, z]⟩)
    have nF : a ∉ X.fs := fun hm => by
      obtain ⟨e, he, q⟩ := List.mem_filterMap.mp hm
      exact nfr (List.mem_filterMap.mpr ⟨e, List.mem_cons_of_mem _ he, q⟩)
    have S3 := J3.suite he3 hd3 na nL nF
    have go : ∀ {hds' : List ExceptHandler} {l' : List Cl}, HdsA X hds' l' → wCl X.K Wout D l' cls d σ' H' →
        wpAny (model X.prog X.w) X.A (handleBy (.ref a) X.env hds') (SP X pins D) X.xe { s' with heap := h3 } := by
      intro hds' l' hk
      induction hk with
      | nil =>
        intro w
        refine wpAny_handleBy_nil ?_
        obtain ⟨k1, k2, k3, oe, vs, T, oT, ts', he, hz, hd, h1, hr⟩ := id fl3
        unfold PySem.passOn
        refine wpAny_bind (wpAny_field he hd h1 ?_)
        rw [if_neg (show ¬ ((Value.ref T == Value.none) = true) from by simp)]
        have fin : wpAny (model X.prog X.w) X.A (setFlight (.ref a) X.env.frame) (fun _ s4 => wpAny (model X.prog X.w) X.A (throw (.ref a) : Sem Flow) (SP X pins D) X.xe s4) X.xe { s' with heap := h3 } := by
          rw [hf]
          refine HandSPX.setFlight_upZ fl3 fun h4 hh4 up4 => wpAny_throw (tk _ _ ?_)
          exact ⟨a, B, sI, pins, σ', H', cls, d, rfl, J, nb, (up.trans up3).trans up4, .inr (.inr (by rw [hs]; exact hh4)), na, os, ag, w⟩
        first
          | exact wpAny_bind (wpAny_pure (wpAny_bind fin))
          | exact wpAny_bind fin
      | @no x c ts b₀ suite np pos' hds2 l2 hc hsu r ih =>
        intro w
        obtain ⟨b, hb1, hyes, hno⟩ := w
        refine wpAny_handleBy_cons (codeAny_handlers_test ?_) (by intro q; cases q)
        have LT : PySem.W.Looks (model X.prog X.w) h3 (typeOf (.ref a)) cls := fun A Q E s k q => wpAny_typeOf_ref (k _ _ he3) (by rw [hz3.1]; exact q)
        have LM := PySem.W.exm_one (M := model X.prog X.w) (J3.kIn) LT hb1
        have test : ∀ {Q : Value → Shared → Prop} {E : Value → Shared → Prop}, Q c { s' with heap := h3 } → wpAny (model X.prog X.w) (X.A.mark (some (.ref a))) (eval (.Name x np) X.env) Q E { s' with heap := h3 } := fun {Q E} q => by
          obtain ⟨hg, hdbg, hm | ⟨hm, hv, hnn⟩⟩ := hc
          · exact ld_glob (X := X.suite a ((a, oe3) :: (X.pn ++ pins))) S3 hg hm q hdbg
          · exact ld_blt (X := X.suite a ((a, oe3) :: (X.pn ++ pins))) S3 hg hm hv q hnn hdbg
        refine test (LM.here ?_)
        cases b with
        | true =>
          refine codeAny_handlers_suite ?_
          refine HandSPX.lands_againZ fl3 fun h4 fl4 up4 => ?_
          have J4 : Inv X pins σ' H' { s' with heap := h4 } := J.landed nb fl4.1 ((up.trans up3).trans up4) os ag
          obtain ⟨oe4, vs4, he4, hz4, hd4⟩ := fl4.there
          have S4 := J4.suite he4 hd4 na nL nF
          refine wpAny_mono ((hsu a oe4 cls d (X.pn ++ pins) hz4 ⟨_, hd4⟩).run [] _ _ H' _ S4 (hyes rfl a na)) (fun f s6 hsp => ?_) (fun _ _ z => False.elim z)
          cases f with
          | next =>
            obtain ⟨σ6, H6, S6, q6⟩ := hsp
            exact ⟨_, _, S6.unsuite ok, q6⟩
          | brk =>
            obtain ⟨σ6, H6, S6, q6⟩ := hsp
            exact ⟨_, _, S6.unsuite ok, q6⟩
          | cont =>
            obtain ⟨σ6, H6, S6, q6⟩ := hsp
            exact ⟨_, _, S6.unsuite ok, q6⟩
          | ret u =>
            obtain ⟨v6, σ6, H6, S6, r6, q6⟩ := hsp
            exact ⟨_, _, _, S6.unsuite ok, r6, q6⟩
        | false =>
          show wpAny _ X.A (handleBy (.ref a) X.env hds2) _ _ _
          exact ih (hno rfl)
      | @as x n i c ts b₀ suite np pos' hds2 l2 hc hi hln hsu r ih =>
        intro w
        obtain ⟨b, hb1, hyes, hno⟩ := w
        have hloc : Loc X.env.scope n := .inl hln
        refine wpAny_handleBy_cons (codeAny_handlers_test ?_) (by intro q; cases q)
        have LT : PySem.W.Looks (model X.prog X.w) h3 (typeOf (.ref a)) cls := fun A Q E s k q => wpAny_typeOf_ref (k _ _ he3) (by rw [hz3.1]; exact q)
        have LM := PySem.W.exm_one (M := model X.prog X.w) (J3.kIn) LT hb1
        have test : ∀ {Q : Value → Shared → Prop} {E : Value → Shared → Prop}, Q c { s' with heap := h3 } → wpAny (model X.prog X.w) (X.A.mark (some (.ref a))) (eval (.Name x np) X.env) Q E { s' with heap := h3 } := fun {Q E} q => by
          obtain ⟨hg, hdbg, hm | ⟨hm, hv, hnn⟩⟩ := hc
          · exact ld_glob (X := X.suite a ((a, oe3) :: (X.pn ++ pins))) S3 hg hm q hdbg
          · exact ld_blt (X := X.suite a ((a, oe3) :: (X.pn ++ pins))) S3 hg hm hv q hnn hdbg
        refine test (LM.here ?_)
        cases b with
        | true =>
          refine codeAny_handlers_suite_as ?_
          refine HandSPX.lands_againZ fl3 fun h4 fl4 up4 => ?_
          have J4 : Inv X pins σ' H' { s' with heap := h4 } := J.landed nb fl4.1 ((up.trans up3).trans up4) os ag
          obtain ⟨oe4, vs4, he4, hz4, hd4⟩ := fl4.there
          have S4 := J4.suite he4 hd4 na nL nF
          refine store_ok (X := X.suite a ((a, oe4) :: (X.pn ++ pins))) (v := .ref a) S4 hN hi hloc rfl (fun s5 S5 => ?_) (.inr hln)
          refine wpAny_mono ((hsu a oe4 cls d (X.pn ++ pins) hz4 ⟨_, hd4⟩).run [] s5 _ H' _ S5 (hyes rfl a na)) (fun f s6 hsp => ?_) (fun _ _ z => False.elim z)
          have end_ : ∀ {σ6 : L2.St} {H6 : Hp} {Q : Shared → Prop}, Inv (X.suite a ((a, oe4) :: (X.pn ++ pins))) [] σ6 H6 s6 → (∀ s7, Inv X pins (σ6.set i none) H6 s7 → Q s7) →
              wpAny (model X.prog X.w) X.A (do bindName X.env n .none; unbindBehindTheSuite X.env n pos') (fun _ s7 => Q s7) X.xe s6 := fun {σ6 H6 Q} S6 hq => gone_ok (S6.unsuite ok) hN hi hln hq
          cases f with
          | next =>
            obtain ⟨σ6, H6, S6, q6⟩ := hsp
            exact end_ S6 fun s7 J7 => ⟨_, _, J7, q6⟩
          | brk =>
            obtain ⟨σ6, H6, S6, q6⟩ := hsp
            exact end_ S6 fun s7 J7 => ⟨_, _, J7, q6⟩
          | cont =>
            obtain ⟨σ6, H6, S6, q6⟩ := hsp
            exact end_ S6 fun s7 J7 => ⟨_, _, J7, q6⟩
          | ret u =>
            obtain ⟨v6, σ6, H6, S6, r6, q6⟩ := hsp
            exact end_ S6 fun s7 J7 => ⟨_, _, _, J7, r6, q6⟩
        | false =>
          show wpAny _ X.A (handleBy (.ref a) X.env hds2) _ _ _
          exact ih (hno rfl)
    exact go hh w
  · cases f with
    | next =>
      obtain ⟨σ', H', J', q⟩ := hsp
      exact wpAny_execs_nil ⟨σ', H', J'.ofTry ok, q⟩
    | brk =>
      obtain ⟨σ', H', J', q⟩ := hsp
      exact ⟨σ', H', J'.ofTry ok, q⟩
    | cont =>
      obtain ⟨σ', H', J', q⟩ := hsp
      exact ⟨σ', H', J'.ofTry ok, q⟩
    | ret u =>
      obtain ⟨v, σ', H', J', r, q⟩ := hsp
      exact ⟨v, σ', H', J'.ofTry ok, r, q⟩
end
end FK
namespace FK
open PySem PySem.Spec L2
open PyProof.Rows hiding St

/-! ### except suites: what they give back -/
def cS (K : PySem.W.Frag) (mg : Str → Option Value) (E : XK) (m : Env → SO) : TS := fun D σ H => ∃ (B F : Hp) (O0 O : Own) (ρ : Env), SR K B F O0 H O σ ρ ∧ EndsOk K mg B F O0 D E (m ρ)
theorem DSs.canon {X : Cx} {E : XK} {b : List Stmt} {m : Env → SO} (h : DSs X E b m) : PSs X b (cS X.K X.mg E m) := by
  obtain ⟨t, h1, h2⟩ := h.ex
  exact ⟨fun pins s σ H D I z => by
    obtain ⟨B, F, O0, O, ρ, R, e⟩ := z
    exact h1.run pins s σ H D I (h2 B F O0 H O σ ρ D R e)⟩
structure DQ (X : Cx) (i : Nat) (e : Expr) (p : Exn → R D) : Prop where
  run : ∀ (a : Addr) (oe : Obj) (cls : Value) (d : Option Addr) (pn : List (Addr × Obj)), Zc cls d oe → (∃ vs, oe.data = .fields vs) → ∃ t, PE (X.suite a ((a, oe) :: pn)) e t ∧
    ∀ (σ : L2.St) (H : Hp) (O : Own) (ex : Exn) (r : D), (∀ b, O b → H b ≠ none) → ExRep X.K X.mg O H cls d ex → σ[i]? = some (some (.ref a)) → p ex = .ok r → ∀ Q : VK, (∀ v H', Same H H' → Rep X.K (off O H') v r → Q v H') → t σ H Q
structure DQs (X : Cx) (i : Nat) (es : List Expr) (p : Exn → R (List D)) : Prop where
  run : ∀ (a : Addr) (oe : Obj) (cls : Value) (d : Option Addr) (pn : List (Addr × Obj)), Zc cls d oe → (∃ vs, oe.data = .fields vs) → ∃ t, PA (X.suite a ((a, oe) :: pn)) es t ∧
    ∀ (σ : L2.St) (H : Hp) (O : Own) (ex : Exn) (r : List D), (∀ b, O b → H b ≠ none) → ExRep X.K X.mg O H cls d ex → σ[i]? = some (some (.ref a)) → p ex = .ok r → ∀ Q : List V → Hp → Prop, (∀ v H', Same H H' → RepL X.K (off O H') v r → Q v H') → t σ H Q
theorem ExRep.mono {K : PySem.W.Frag} {mg : Str → Option Value} {O : Own} {H H' : Hp} {cls : Value} {d : Option Addr} {e : Exn} (h : ExRep K mg O H cls d e) (s : Same H H') : ExRep K mg O H' cls d e := by
  obtain ⟨C, d', fs, h1, h2, h3, h4, h5⟩ := h
  exact ⟨C, d', fs, h1, h2, h3, s _ _ h4, h5.mono (off_mono s)⟩
section
variable {X : Cx} {i : Nat} {e : Expr} {es : List Expr} {p : Exn → R D} {pl : Exn → R (List D)} {pos : Pos}
theorem dom_mono {O : Own} {H H' : Hp} (h : ∀ b, O b → H b ≠ none) (s : Same H H') : ∀ b, O b → H' b ≠ none := fun b ob z => h b ob (s.free z)
theorem dq_str {s j} : DQ X i (.Constant (.str s) j pos) (fun _ => .ok (.str s)) := ⟨fun a oe cls d pn _ _ => ⟨_, pe_str, fun σ H O ex r _ _ _ e Q hQ => by cases e; exact hQ _ _ (Same.refl _) (.str _)⟩⟩
theorem dq_int {s j} : DQ X i (.Constant (.int s) j pos) (fun _ => .ok (.int s)) := ⟨fun a oe cls d pn _ _ => ⟨_, pe_int, fun σ H O ex r _ _ _ e Q hQ => by cases e; exact hQ _ _ (Same.refl _) (.int _)⟩⟩
theorem dq_bl {s j} : DQ X i (.Constant (.bool s) j pos) (fun _ => .ok (.bl s)) := ⟨fun a oe cls d pn _ _ => ⟨_, pe_bl, fun σ H O ex r _ _ _ e Q hQ => by cases e; exact hQ _ _ (Same.refl _) (.bl _)⟩⟩
theorem dq_non {j} : DQ X i (.Constant .none j pos) (fun _ => .ok .non) := ⟨fun a oe cls d pn _ _ => ⟨_, pe_non, fun σ H O ex r _ _ _ e Q hQ => by cases e; exact hQ _ _ (Same.refl _) .non⟩⟩
def xFld (cn f : Str) (ex : Exn) : R D := if ex.cls = cn then (match ex.fs.lookup f with | some d => .ok d | none => .no) else .no
theorem dq_fld {cn f n : Str} {C : Addr} {p2 : Pos} (hm : X.mg cn = some (.ref C)) (T : XfC X.K C) (hno : PySem.W.findIn X.K (.ref C) f = some none)
    (hv : ∀ (a : Addr) (oe : Obj) (pn : List (Addr × Obj)), PE (X.suite a ((a, oe) :: pn)) (.Name n p2) (tVar i))
    (hb : attributeBase (.Name n p2) f X.env (eval (.Name n p2) X.env) = eval (.Name n p2) X.env := by rfl) : DQ X i (.Attribute (.Name n p2) f pos) (xFld cn f) := by
  refine ⟨fun a oe cls d pn hz hf => ⟨_, pe_xf T hno hz hf (hv a oe pn) hb, fun σ H O ex r dom hx hs e Q hQ => ?_⟩⟩
  obtain ⟨C', d', fs, h1, h2, h3, h4, h5⟩ := hx
  unfold xFld at e
  split at e
  · rename_i hc
    rw [hc, hm] at h1
    cases h1
    cases q : ex.fs.lookup f with
    | none => rw [q] at e; cases e
    | some y =>
      rw [q] at e
      cases e
      obtain ⟨v, q1, q2⟩ := h5.look q
      exact ⟨_, hs, rfl, h2, d', fs, v, h3, h4, q1, hQ v H (Same.refl _) q2⟩
  · cases e
theorem dqs_nil : DQs X i [] (fun _ => .ok []) := ⟨fun a oe cls d pn _ _ => ⟨_, pa_nil, fun σ H O ex r _ _ _ e Q hQ => by cases e; exact hQ _ _ (Same.refl _) .nil⟩⟩
theorem dqs_cons (h : DQ X i e p) (h2 : DQs X i es pl) (hs : starEach (e :: es) X.env = (false, eval e X.env) :: starEach es X.env := by rfl) : DQs X i (e :: es) (fun ex => (p ex).bind fun x => (pl ex).bind fun xs => .ok (x :: xs)) := by
  refine ⟨fun a oe cls d pn hz hf => ?_⟩
  obtain ⟨t, a1, a2⟩ := h.run a oe cls d pn hz hf
  obtain ⟨u, b1, b2⟩ := h2.run a oe cls d pn hz hf
  refine ⟨_, pa_cons a1 b1 hs, fun σ H O ex r dom hx hi e Q hQ => ?_⟩
  cases q1 : p ex with
  | no => rw [q1] at e; cases e
  | ex z => rw [q1] at e; cases e
  | ok x =>
    rw [q1] at e
    cases q2 : pl ex with
    | no => rw [q2] at e; cases e
    | ex z => rw [q2] at e; cases e
    | ok xs =>
      rw [q2] at e
      cases e
      refine a2 σ H O ex x dom hx hi q1 _ fun v H1 s1 r1 => ?_
      refine b2 σ H1 O ex xs (dom_mono dom s1) (hx.mono s1) hi q2 _ fun vs H2 s2 r2 => ?_
      exact hQ _ _ (s1.trans s2) (.cons (Rep.mono (off_mono s2) r1) r2)
theorem dq_tup {x1} (h : DQs X i es pl) : DQ X i (.Tuple es x1 pos) (fun ex => (pl ex).bind fun xs => if xs.length ≤ sizeLine then .ok (.tup xs) else .no) := by
  refine ⟨fun a oe cls d pn hz hf => ?_⟩
  obtain ⟨t, a1, a2⟩ := h.run a oe cls d pn hz hf
  refine ⟨_, pe_tup a1, fun σ H O ex r dom hx hi e Q hQ => ?_⟩
  cases q1 : pl ex with
  | no => rw [q1] at e; cases e
  | ex z => rw [q1] at e; cases e
  | ok xs =>
    rw [q1] at e
    simp only [R.bind] at e
    split at e
    · rename_i hz
      cases e
      refine a2 σ H O ex xs dom hx hi q1 _ fun vs H1 s1 r1 => ⟨by rw [r1.length]; exact hz, fun p hp => ?_⟩
      have dom1 := dom_mono dom s1
      have np : ¬ O p := fun z => dom1 p z hp
      have s2 : Same H1 (upd H1 p (.tup vs)) := same_upd hp
      exact hQ _ _ (s1.trans s2) (.tup (off_of np upd_same) (RepL.mono (off_mono s2) r1))
    · cases e
/-- a suite that gives a value back -/
def cSu (K : PySem.W.Frag) (mg : Str → Option Value) (i : Nat) (ms : Exn → R D) (a : Addr) (cls : Value) (d : Option Addr) : TS := fun D σ H => ∃ (O : Own) (e : Exn) (r : _), (∀ b, O b → H b ≠ none) ∧ ExRep K mg O H cls d e ∧ σ[i]? = some (some (.ref a)) ∧ ms e = .ok r ∧ ∀ v H', Same H H' → Rep K (off O H') v r → D.rt v H'
structure DX (X : Cx) (i : Nat) (b : List Stmt) (ms : Exn → R D) : Prop where
  run : ∀ (a : Addr) (oe : Obj) (cls : Value) (d : Option Addr) (pn : List (Addr × Obj)), Zc cls d oe → (∃ vs, oe.data = .fields vs) → PSs (X.suite a ((a, oe) :: pn)) b (cSu X.K X.mg i ms a cls d)
theorem dx_ret (h : DQ X i e p) : DX X i [.Return (some e) pos] p := ⟨fun a oe cls d pn hz hf => by
  obtain ⟨t, a1, a2⟩ := h.run a oe cls d pn hz hf
  refine ⟨fun pins s σ H D I z => ?_⟩
  obtain ⟨O, e, r, dom, z1, z2, z3, z4⟩ := z
  exact (pss_one (ps_ret a1)).run pins s σ H D I (a2 σ H O e r dom z1 z2 z3 _ z4)⟩
end
/-! ### clauses -/
abbrev ClM := List (Str × Bool) × (Exn → R D)
def hTry : List ClM → Exn → SO
  | [], e => .ex e
  | x :: r, e => match x.1.lookup e.cls with
    | some true => (match x.2 e with | .ok d => .rt (d, .fz) | _ => .no)
    | some false => hTry r e
    | none => .no
def mTry (m : Env → SO) (hs : List ClM) : Env → SO := fun ρ => match m ρ with | .ex e => hTry hs e | r => r
/-- whom a clause takes -/
def CatOk (X : Cx) (C : Value) (cat : List (Str × Bool)) : Prop := ∀ p ∈ cat, ∃ C', X.mg p.1 = some (.ref C') ∧ PySem.W.exmOne X.K (.ref C') C = some p.2
def cSuN (K : PySem.W.Frag) (mg : Str → Option Value) (ms : Exn → R D) (cls : Value) (d : Option Addr) : TS := fun D σ H => ∃ (O : Own) (e : Exn) (r : _), (∀ b, O b → H b ≠ none) ∧ ExRep K mg O H cls d e ∧ ms e = .ok r ∧ ∀ v H', Same H H' → Rep K (off O H') v r → D.rt v H'
structure DXn (X : Cx) (b : List Stmt) (ms : Exn → R D) : Prop where
  run : ∀ (a : Addr) (oe : Obj) (cls : Value) (d : Option Addr) (pn : List (Addr × Obj)), Zc cls d oe → (∃ vs, oe.data = .fields vs) → PSs (X.suite a ((a, oe) :: pn)) b (cSuN X.K X.mg ms cls d)
theorem dxn_k {X : Cx} {e : Expr} {pos : Pos} {v : V} {r : D} (he : ∀ (a : Addr) (pn : List (Addr × Obj)), PE (X.suite a pn) e (tC v)) (hr : ∀ H, Rep X.K H v r) : DXn X [.Return (some e) pos] (fun _ => .ok r) := ⟨fun a oe cls d pn hz hf => by
  refine ⟨fun pins s σ H D I z => ?_⟩
  obtain ⟨O, ex, r', dom, z1, z2, z3⟩ := z
  cases z2
  exact (pss_one (ps_ret (he a _))).run pins s σ H D I (z3 _ _ (Same.refl _) (hr _))⟩
theorem dxn_non {X : Cx} {j : Nat} {p2 pos : Pos} : DXn X [.Return (some (.Constant .none j p2)) pos] (fun _ => .ok .non) := dxn_k (fun _ _ => pe_non) fun _ => .non
theorem dxn_bl {X : Cx} {b : Bool} {j : Nat} {p2 pos : Pos} : DXn X [.Return (some (.Constant (.bool b) j p2)) pos] (fun _ => .ok (.bl b)) := dxn_k (fun _ _ => pe_bl) fun _ => .bl b
inductive DHs (X : Cx) : List ExceptHandler → List ClM → Prop
  | nil : DHs X [] []
  | no {x : Str} {c : Value} {cat : List (Str × Bool)} {ms : Exn → R D} {b₀ : Stmt} {suite : List Stmt} {np pos' : Pos} {hds : List ExceptHandler} {l : List ClM} (hc : Names X x c)
      (dx : DXn X (b₀ :: suite) ms) (ct : CatOk X c cat) (r : DHs X hds l) : DHs X (.ExceptHandler (some (.Name x np)) none (b₀ :: suite) pos' :: hds) ((cat, ms) :: l)
  | as {x n : Str} {i : Nat} {c : Value} {cat : List (Str × Bool)} {ms : Exn → R D} {b₀ : Stmt} {suite : List Stmt} {np pos' : Pos} {hds : List ExceptHandler} {l : List ClM} (hc : Names X x c) (hi : X.N[i]? = some n) (hln : X.env.kindOf n = some .local)
      (dx : DX X i (b₀ :: suite) ms) (ct : CatOk X c cat) (r : DHs X hds l) : DHs X (.ExceptHandler (some (.Name x np)) (some n) (b₀ :: suite) pos' :: hds) ((cat, ms) :: l)
theorem cat_look {X : Cx} {C : Value} {cat : List (Str × Bool)} (h : CatOk X C cat) {x : Str} {b : Bool} {C' : Addr} (hm : X.mg x = some (.ref C')) (e : cat.lookup x = some b) : PySem.W.exmOne X.K (.ref C') C = some b := by
  induction cat with
  | nil => cases e
  | cons p r ih =>
    obtain ⟨y, c⟩ := p
    simp only [List.lookup] at e
    split at e
    · rename_i q
      cases e
      obtain ⟨C2, h1, h2⟩ := h _ List.mem_cons_self
      have : x = y := by simpa using q
      subst this
      rw [hm] at h1
      cases h1
      exact h2
    · exact ih (fun p hp => h p (List.mem_cons_of_mem _ hp)) e
theorem DHs.go {X : Cx} {E : XK} {hds : List ExceptHandler} {l : List ClM} (h : DHs X hds l) : ∃ l' : List Cl, HdsA X hds l' ∧
    ∀ (B F : Hp) (O0 : Own) (D : Ends) (cls : Value) (d : Option Addr) (e : Exn) (σ : L2.St) (H : Hp), σ.length = X.N.length → Same B H → (∀ b, O0 b → H b ≠ none) → ExRep X.K X.mg O0 H cls d e → EndsOk X.K X.mg B F O0 D E (hTry l e) →
      wCl X.K (fun cls d _ H => E cls d H) D l' cls d σ H := by
  induction h with
  | nil => exact ⟨[], .nil, fun B F O0 D cls d e σ H hl s dom hx he => he cls d H s hx⟩
  | @no x c cat ms b₀ suite np pos' hds l hc dx ct r ih =>
    obtain ⟨l', g1, g2⟩ := ih
    refine ⟨⟨c, none, fun _ cls d => cSuN X.K X.mg ms cls d⟩ :: l', .no hc (fun a oe cls d pn hz hf => dx.run a oe cls d pn hz hf) g1, fun B F O0 D cls d e σ H hl s dom hx he => ?_⟩
    obtain ⟨C', d', fs, h1, h2, h3, h4, h5⟩ := id hx
    unfold hTry at he
    cases q : cat.lookup e.cls with
    | none => rw [q] at he; exact he.elim
    | some b =>
      rw [q] at he
      have hex : PySem.W.exmOne X.K cls c = some b := by rw [h2]; exact cat_look ct h1 q
      cases b with
      | false => exact ⟨false, hex, fun z => Bool.noConfusion z, fun _ => g2 B F O0 D cls d e σ H hl s dom hx he⟩
      | true =>
        refine ⟨true, hex, fun _ a na => ?_, fun z => Bool.noConfusion z⟩
        dsimp only at he
        cases q2 : ms e with
        | no => rw [q2] at he; exact he.elim
        | ex z => rw [q2] at he; exact he.elim
        | ok r2 =>
          rw [q2] at he
          exact ⟨O0, e, r2, dom, hx, q2, fun v H' s' rp => he v H' (s.trans s') (show Rep _ _ _ _ from rp)⟩
  | @as x n i c cat ms b₀ suite np pos' hds l hc hi hln dx ct r ih =>
    obtain ⟨l', g1, g2⟩ := ih
    refine ⟨⟨c, some i, cSu X.K X.mg i ms⟩ :: l', .as hc hi hln dx.run g1, fun B F O0 D cls d e σ H hl s dom hx he => ?_⟩
    obtain ⟨C', d', fs, h1, h2, h3, h4, h5⟩ := id hx
    unfold hTry at he
    cases q : cat.lookup e.cls with
    | none => rw [q] at he; exact he.elim
    | some b =>
      rw [q] at he
      have hex : PySem.W.exmOne X.K cls c = some b := by rw [h2]; exact cat_look ct h1 q
      cases b with
      | false => exact ⟨false, hex, fun z => Bool.noConfusion z, fun _ => g2 B F O0 D cls d e σ H hl s dom hx he⟩
      | true =>
        refine ⟨true, hex, fun _ a na => ?_, fun z => Bool.noConfusion z⟩
        dsimp only at he
        cases q2 : ms e with
        | no => rw [q2] at he; exact he.elim
        | ex z => rw [q2] at he; exact he.elim
        | ok r2 =>
          rw [q2] at he
          have hil : i < σ.length := by
            rw [hl]
            exact (List.getElem?_eq_some_iff.mp hi).1
          refine ⟨O0, e, r2, dom, hx, List.getElem?_set_self hil, q2, fun v H' s' rp => ?_⟩
          exact he v H' (s.trans s') (show Rep _ _ _ _ from rp)
theorem takes_len {X : Cx} {W : WX} (tk : Takes X W) : Takes X (fun cls d σ H => σ.length = X.N.length → W cls d σ H) := fun u s' ⟨a, B, sI, pins, σ, H, cls, d, e, I, nb, up, sky, na, os, ag, w⟩ =>
  tk u s' ⟨a, B, sI, pins, σ, H, cls, d, e, I, nb, up, sky, na, os, ag, w I.len⟩
/-- what an exception of a try's body must meet, whatever the slots hold -/
def eW (N : List Str) (W : WX) : XK := fun cls d H => ∀ σ : L2.St, σ.length = N.length → W cls d σ H
theorem try_passes {X : Cx} {W : WX} (tk : Takes X W) : Passes (L2.CX X.prog X.w) X (eW X.N W) := passes_call (takes_len tk) fun _ _ σ _ h hl => h σ hl
theorem ds_try {X : Cx} {E : XK} {b : List Stmt} {m : Env → SO} {h₀ : ExceptHandler} {hds : List ExceptHandler} {l : List ClM} {pos : Pos} (hs : X.stack = X.env :: X.outer) (hf : X.env.frame = some X.env.locals) (hN : X.N.Nodup) (tk : Takes X (fun cls d _ H => E cls d H))
    (hb : ∀ (E' : XK) (pn : List (Addr × Obj)) (xe : Value → Shared → Prop), Passes (L2.CX X.prog X.w) (X.tr pn xe) E' → PassesOwn (model X.prog X.w) X.A X.env xe → DSs (X.tr pn xe) E' b m)
    (hh : DHs X (h₀ :: hds) l) : DS X E (.Try b (h₀ :: hds) [] [] pos) (mTry m l) := by
  obtain ⟨l', g1, g2⟩ := hh.go (E := E)
  refine ⟨_, ps_tryA (tb := fun W => cS X.K X.mg (eW X.N W) m) hs hf hN tk (fun W pn xe tk' po => (hb (eW X.N W) pn xe (try_passes tk') po).canon) g1, fun B F O0 H O σ ρ D R h => ?_⟩
  refine ⟨B, F, O0, O, ρ, R, ?_⟩
  unfold mTry at h
  cases q : m ρ with
  | nx ρ' => rw [q] at h; exact h
  | rt x => rw [q] at h; exact h
  | bk ρ' => rw [q] at h; exact h
  | ct ρ' => rw [q] at h; exact h
  | no => rw [q] at h; exact h
  | ex e =>
    rw [q] at h
    intro cls dd H' s' hx σ' hl
    exact g2 B F O0 D cls dd e σ' H' hl s' (dom_mono R.dom0 s') hx h
theorem body_takes {P : Program} {w : World} {K : PySem.W.Frag} {mg : Str → Option Value} {base : Heap} {N : List Str} {qual : Str} {st : Stmt} {f : Addr} {cdv : Value} {A : Around} {outer : List PySem.Env} {s : Shared} {H : Hp} {E : XK} :
    Takes (bodyX P w K mg base N qual st f cdv A outer s H E) (fun cls d _ H => E cls d H) := takes_of rfl rfl rfl rfl
end FK
namespace FK
open PySem PySem.Spec L2
open PyProof.Rows hiding St

/-! ### own error classes whose __init__ stores its arguments -/
section
variable {P : Program} {w : World} {K : PySem.W.Frag} {mg : Str → Option Value} {base : Heap}
/-- __init__(self, f1, ..): each argument is kept under its name -/
def spInit (K : PySem.W.Frag) (C : Addr) (fs : List Str) : Sp := fun vs H Q _ => ∃ (a : Addr) (ys : List V), vs = .ref a :: ys ∧ ys.length = fs.length ∧ H a = some (exo a C none) ∧
  ∀ dx H', H dx = none → dx ≠ a → (∀ b, b ≠ a → b ≠ dx → H' b = H b) → H' a = some (exo a C (some dx)) → H' dx = some (exd dx (fs.zip ys).reverse) → Q .non H'
structure ErrK (P : Program) (w : World) (K : PySem.W.Frag) (mg : Str → Option Value) (base : Heap) (x : Str) (fs : List Str) : Prop where
  ex : ∃ (C fI : Addr) (fd : FuncData) (ps : List Str), mg x = some (.ref C) ∧ OexC K C ∧ XfC K C ∧ (∀ f ∈ fs, PySem.W.findIn K (.ref C) f = some none) ∧ PySem.W.findIn K (.ref C) "__init__" = some (some (.ref fI)) ∧
    PySem.W.typeIn K (.ref fI) = some (.type "function") ∧ FnOk P w K mg base (L2.CX P w) 1 fI fd ps (spInit K C fs) ∧ Binds K fd ps []
theorem init1 {qual f1 : Str} {st : Stmt} {f C : Addr} {fd : FuncData} (F : Fun K "__init__" qual st f fd) (S : FnScope ["self", f1] ["self", f1] (defScope st)) (T : OexC K C) (h1 : PySem.W.findIn K (.ref C) f1 = some none)
    (body : ∀ (cdv : Value) (A : Around) (outer : List PySem.Env) (s : Shared) (H : Hp) (E : XK), PSs (bodyX P w K mg base ["self", f1] qual st f cdv A outer s H E) (defBody st) (tOst K f1 (tVar 0) (tVar 1))) :
    FnOk P w K mg base (L2.CX P w) 1 f fd ["self", f1] (spInit K C [f1]) := by
  refine F.okX S (fun vs H Q E h => ?_) fun cdv A outer s H vs Q E hr h => ⟨_, body cdv A outer s H E, ?_⟩
  · obtain ⟨a, ys, rfl, hl, _⟩ := h
    simp [hl]
  · obtain ⟨a, ys, rfl, hl, ha, q⟩ := h
    obtain ⟨y, rfl⟩ : ∃ y, ys = [y] := by
      match ys, hl with
      | [y], _ => exact ⟨y, rfl⟩
    refine ⟨y, rfl, .ref a, rfl, a, C, rfl, T, h1, .inl ⟨ha, fun dx n ne => ?_⟩⟩
    exact q dx _ n ne (fun b h1 h2 => by rw [upd_ne h1, upd_ne h2]) upd_same (by rw [upd_ne ne]; exact upd_same)
theorem init2 {qual f1 f2 : Str} {st : Stmt} {f C : Addr} {fd : FuncData} (F : Fun K "__init__" qual st f fd) (S : FnScope ["self", f1, f2] ["self", f1, f2] (defScope st)) (T : OexC K C) (h1 : PySem.W.findIn K (.ref C) f1 = some none) (h2 : PySem.W.findIn K (.ref C) f2 = some none)
    (body : ∀ (cdv : Value) (A : Around) (outer : List PySem.Env) (s : Shared) (H : Hp) (E : XK), PSs (bodyX P w K mg base ["self", f1, f2] qual st f cdv A outer s H E) (defBody st) (tSeq (tOst K f1 (tVar 0) (tVar 1)) (tOst K f2 (tVar 0) (tVar 2)))) :
    FnOk P w K mg base (L2.CX P w) 1 f fd ["self", f1, f2] (spInit K C [f1, f2]) := by
  refine F.okX S (fun vs H Q E h => ?_) fun cdv A outer s H vs Q E hr h => ⟨_, body cdv A outer s H E, ?_⟩
  · obtain ⟨a, ys, rfl, hl, _⟩ := h
    simp [hl]
  · obtain ⟨a, ys, rfl, hl, ha, q⟩ := h
    obtain ⟨y, z, rfl⟩ : ∃ y z, ys = [y, z] := by
      match ys, hl with
      | [y, z], _ => exact ⟨y, z, rfl⟩
    refine ⟨y, rfl, .ref a, rfl, a, C, rfl, T, h1, .inl ⟨ha, fun dx n ne => ?_⟩⟩
    refine ⟨z, rfl, .ref a, rfl, a, C, rfl, T, h2, .inr ⟨dx, [(f1, y)], upd_same, by rw [upd_ne ne]; exact upd_same, by simp, ?_⟩⟩
    exact q dx _ n ne (fun b h1 h2 => by rw [upd_ne h2, upd_ne h1, upd_ne h2]) (by rw [upd_ne (Ne.symm ne)]; exact upd_same) upd_same
def fzL : List DV → Option (List D)
  | [] => some []
  | (d, .fz) :: r => (fzL r).map (d :: ·)
  | _ :: _ => none
def mkExn (x : Str) (fs : List Str) (xs : List DV) : SO := match fzL xs with
  | some ds => if ds.length = fs.length ∧ ds.length ≤ 1000 then .ex ⟨x, (fs.zip ds).reverse⟩ else .no
  | none => .no
theorem fzL_rep {K : PySem.W.Frag} {B H0 H : Hp} {O0 O : Own} : ∀ {xs : List DV} {vs : List V} {ds : List D}, OutL K B O0 H0 H O xs vs → fzL xs = some ds → RepL K (off O H) vs ds
  | _, _, _, .nil, e => by cases e; exact .nil
  | (d, k) :: xs, v :: vs, ds, .cons a b, e => by
    cases k <;> try (simp [fzL] at e; done)
    simp only [fzL] at e
    cases q : fzL xs with
    | none => rw [q] at e; cases e
    | some es =>
      rw [q] at e
      cases e
      exact .cons (show Rep _ _ _ _ from a) (fzL_rep b q)
theorem fld_zip {K : PySem.W.Frag} {H : Hp} : ∀ {fs : List Str} {vs : List V} {ds : List D}, RepL K H vs ds → FldR K H (fs.zip vs) (fs.zip ds)
  | [], _, _, _ => .nil
  | _ :: _, _, _, .nil => .nil
  | _ :: _, _, _, .cons a b => .cons a (fld_zip b)
theorem fld_app {K : PySem.W.Frag} {H : Hp} : ∀ {vs vs' : List (Str × V)} {ds ds' : List (Str × D)}, FldR K H vs ds → FldR K H vs' ds' → FldR K H (vs ++ vs') (ds ++ ds')
  | _, _, _, _, .nil, h => h
  | _, _, _, _, .cons a b, h => .cons a (fld_app b h)
theorem fld_rev {K : PySem.W.Frag} {H : Hp} : ∀ {vs : List (Str × V)} {ds : List (Str × D)}, FldR K H vs ds → FldR K H vs.reverse ds.reverse
  | _, _, .nil => .nil
  | _, _, .cons a b => by
    rw [List.reverse_cons, List.reverse_cons]
    exact fld_app (fld_rev b) (.cons a .nil)
end
section
variable {X : Cx} {E : XK} {e : Expr} {es : List Expr} {pl : Env → R (List DV)} {pos pos2 p : Pos} {x : Str} {fs : List Str}
theorem ds_raise (c : ErrK X.prog X.w X.K X.mg X.base x fs) (hc : X.calm = true) (hr : Room 2 X.A) (tk : Takes X (fun cls d _ H => E cls d H)) (hg : Gl X x) (ha : DA X E (e :: es) pl)
    (hdb : (x == ("__debug__" : Str)) = false := by decide) (he : starEach (e :: es) X.env = (false, eval e X.env) :: starEach es X.env := by rfl) (hpl : (backTo pos (starEach es X.env)).any (·.1) = false := by rfl) :
    DS X E (.Raise (some (.Call (.Name x p) (e :: es) [] pos)) none pos2) (fun ρ => (pl ρ).st (mkExn x fs)) := by
  obtain ⟨C, fI, fd, ps, hm, T, Tx, hno, iC, tI, F, hb⟩ := c.ex
  obtain ⟨t, a1, a2⟩ := ha.ex
  refine ⟨_, ps_raise hc tk (pmk_oex T iC tI F hr hb .nil (passes_call takes0 fun _ _ _ _ h => h) hg hm a1 hdb he hpl), fun B F' O0 H O σ ρ D R h => ?_⟩
  refine ev_st (Q := fun vs H1 => vs.length ≤ 1000 ∧ ∀ a, H1 a = none → spInit X.K C fs (.ref a :: (vs ++ [])) (upd H1 a (exo a C none))
    (fun v H2 => v = .non ∧ ∃ (d : Addr) (gs : List (Str × V)), H2 a = some (exo a C (some d)) ∧ H2 d = some (exd d gs) ∧ H1 d = none ∧ E (.ref C) (some d) (upd (del H2 a) d (.xd gs))) (fun _ _ _ => False)) R.base R.sub (a2 B F' O0 H O σ ρ R) h fun xs vs H1 ex s1 r1 h1 => ?_
  have R1 := R.more s1
  unfold mkExn at h1
  cases q : fzL xs with
  | none => rw [q] at h1; exact h1.elim
  | some ds =>
    rw [q] at h1
    dsimp only at h1
    split at h1
    · rename_i hl
      have rp := fzL_rep r1 q
      have hlen := rp.length
      refine ⟨by omega, fun a na => ⟨a, vs, by rw [List.append_nil], by omega, upd_same, fun dx H' n ne same ha' hd' => ⟨rfl, dx, _, ha', hd', ?_, ?_⟩⟩⟩
      · rw [upd_ne ne] at n
        exact n
      · have ndx : H1 dx = none := by
          rw [upd_ne ne] at n
          exact n
        have s2 : Same H1 (upd (del H' a) dx (.xd (fs.zip vs).reverse)) := fun b o eb => by
          have nb : b ≠ dx := ne_of_none eb ndx
          have nb2 : b ≠ a := ne_of_none eb na
          rw [upd_ne nb, del_ne nb2, same b nb2 nb, upd_ne nb2]
          exact eb
        refine h1 (.ref C) (some dx) _ (R1.base.trans s2) ⟨C, dx, _, hm, rfl, rfl, upd_same, fld_rev (fld_zip (RepL.mono ?_ rp))⟩
        exact (off_mono s2).trans (off_anti R1.sub)
    · exact h1.elim
end
/-! ### calls by keywords alone -/
structure CallKw (P : Program) (w : World) (K : PySem.W.Frag) (mg : Str → Option Value) (base : Heap) (x : Str) (k n : Nat) (ks : List Str) (m : List DV → R DV) : Prop where
  ex : ∃ (f : Addr) (fd : FuncData) (ps : List Str), mg x = some (.ref f) ∧ FnOk P w K mg base (L2.CX P w) k f fd ps (spD K mg n m) ∧ PySem.W.keepIn K (.ref f) = true ∧ KBn K fd ps 0 ks (fun _ ws => ws) (fun _ zs => zs)
theorem fun_kbn {K : PySem.W.Frag} {x qual : Str} {st : Stmt} {f : Addr} {fd : FuncData} {ps ks : List Str} (F : Fun K x qual st f fd)
    (h : ∀ (kV doc pm : Value) (an : Option Addr) (cdv ct : Value) (ws : List Value), ws.length = ks.length → bindArgs (PySem.W.fnOf x qual (defArgs st) (defBody st) (defScope st) .none kV doc pm an cdv ct) ⟨[], ks.zip ws⟩ = pure (ps.zip ws)) : KBn K fd ps 0 ks (fun _ ws => ws) (fun _ zs => zs) := by
  obtain ⟨oc, od, kV, doc, pm, an, cdv, ct, osl, rfl, lk, hcd⟩ := F.ex
  refine ⟨fun s us ws X l1 l2 => ?_, fun r1 r2 => r2⟩
  cases List.eq_nil_of_length_eq_zero l1
  exact BindsTo.of_eq (h kV doc pm an cdv ct ws l2)
theorem fn_ok {P : Program} {w : World} {K : PySem.W.Frag} {mg : Str → Option Value} {base : Heap} {x qual : Str} {st : Stmt} {f : Addr} {fd : FuncData} {N ps : List Str} {k n : Nat} {m : Env → SO} (F : Fun K x qual st f fd) (S : FnScope N ps (defScope st)) (hn : ps.length = n)
    (body : ∀ (cdv : Value) (A : Around) (outer : List PySem.Env) (s : Shared) (H : Hp) (E : XK), Room k (bodyX P w K mg base N qual st f cdv A outer s H E).A → DSs (bodyX P w K mg base N qual st f cdv A outer s H E) E (defBody st) m) :
    FnOk P w K mg base (L2.CX P w) (k + 1) f fd ps (spD K mg n (runD N.length m)) := by
  refine F.okX S (fun vs H Q E h => by rw [hn]; exact h.1) fun cdv A outer s H vs Q E hr h => ?_
  obtain ⟨hl, O, as, dom, ha, hend⟩ := h
  obtain ⟨t, h1, h2⟩ := (body cdv A outer s H E hr).ex
  refine ⟨t, h1, h2 H (off O H) O H O _ _ _ (start_sr dom ha) ?_⟩
  unfold runD at hend
  show EndsOk K mg H (off O H) O { nx := fun _ H' => Q .non H', rt := Q } E (m (as.map some ++ List.replicate (N.length - as.length) none))
  cases q : m (as.map some ++ List.replicate (N.length - as.length) none) with
  | nx ρ => rw [q] at hend; exact fun σ' H' O' R => hend .non H' R.base (show Rep _ _ _ _ from .non)
  | rt y => rw [q] at hend; exact fun v H' s' r => hend v H' s' r
  | bk ρ => rw [q] at hend; exact hend.elim
  | ct ρ => rw [q] at hend; exact hend.elim
  | ex e => rw [q] at hend; exact hend
  | no => rw [q] at hend; exact hend.elim
/-! facts of a class that an except clause names -/
structure ClsK (K : PySem.W.Frag) (mg : Str → Option Value) (x : Str) (fs : List Str) (C : Addr) : Prop where
  g : mg x = some (.ref C)
  xf : XfC K C
  no : ∀ f ∈ fs, PySem.W.findIn K (.ref C) f = some none
/-- an error of the class x in an except clause of the class at C -/
structure ExmK (K : PySem.W.Frag) (mg : Str → Option Value) (x : Str) (C : Addr) (b : Bool) : Prop where
  ex : ∃ C', mg x = some (.ref C') ∧ PySem.W.exmOne K (.ref C') (.ref C) = some b
theorem cat_nil {X : Cx} {C : Addr} : CatOk X (.ref C) [] := fun p h => nomatch h
theorem cat_cons {X : Cx} {C : Addr} {x : Str} {b : Bool} {l : List (Str × Bool)} (h : ExmK X.K X.mg x C b) (r : CatOk X (.ref C) l) : CatOk X (.ref C) ((x, b) :: l) := fun p hp => by
  rcases List.mem_cons.mp hp with e | e
  · cases e
    exact h.ex
  · exact r p e
/-! the suites' words -/
abbrev qStr (s : Str) : Exn → R D := fun _ => .ok (.str s)
abbrev qInt (i : Int) : Exn → R D := fun _ => .ok (.int i)
abbrev qBl (b : Bool) : Exn → R D := fun _ => .ok (.bl b)
abbrev qNon : Exn → R D := fun _ => .ok .non
abbrev qNil : Exn → R (List D) := fun _ => .ok []
abbrev qCons (p : Exn → R D) (pl : Exn → R (List D)) : Exn → R (List D) := fun ex => (p ex).bind fun x => (pl ex).bind fun xs => .ok (x :: xs)
abbrev qTup (pl : Exn → R (List D)) : Exn → R D := fun ex => (pl ex).bind fun xs => if xs.length ≤ sizeLine then .ok (.tup xs) else .no
abbrev mRaise (x : Str) (fs : List Str) (pl : Env → R (List DV)) : Env → SO := fun ρ => (pl ρ).st (mkExn x fs)
section
variable {X : Cx} {E : XK} {k n : Nat} {x : Str} {ks : List Str} {kws : List Keyword} {m : List DV → R DV} {pl : Env → R (List DV)} {p pos : Pos}
theorem pe_callN0 {CX : CXT} {f : Addr} {fd : FuncData} {ps : List Str} {sp : Sp} {tk : TA} {g : List Value → List Value → List Value} {gV : List V → List V → List V} (F : FnOk X.prog X.w X.K X.mg X.base CX k f fd ps sp) (hr : Room k X.A) (hg : Gl X x) (hm : X.mg x = some (.ref f)) (hk : PySem.W.keepIn X.K (.ref f) = true) (hb : KBn X.K fd ps 0 ks g gV) (hx : Passes CX X E)
    (hkw : PK X kws tk) (hall : (backToKw pos (keywordEach kws X.env)).all (·.1.isSome) = true := by rfl) (hks : (backToKw pos (keywordEach kws X.env)).filterMap (·.1) = ks := by rfl)
    (hdb : (x == ("__debug__" : Str)) = false := by decide)
    (hpl : ((backTo pos (starEach [] X.env)).any (·.1) || (backToKw pos (keywordEach kws X.env)).any (·.1.isNone)) = false := by rfl) :
    PE X (.Call (.Name x p) [] kws pos) (fun σ H Q => tk σ H fun zs H2 => zs.length = ks.length ∧ sp (gV [] zs) H2 Q E) := by
  refine ⟨fun pins s σ H Q I h => ?_⟩
  refine wpAny_Call_Name_kw (ld_glob I hg hm ?_ hdb)
  refine PySem.W.callWith_KW0 (h₀ := X.base) I.ok.mod.kin hk hall ?_ hpl
  refine thn (hkw.run pos pins s σ H _ I h) fun ws s2 ⟨zs, H2, I2, rz, l2, q2⟩ => ⟨I2.kIn, ?_⟩
  rw [hks]
  exact run_fnN (us := []) (vs := []) F hr hb hx I2 .nil rz rfl l2 q2
/-- the keywords' values -/
structure DK (X : Cx) (E : XK) (kws : List Keyword) (pl : Env → R (List DV)) : Prop where
  ex : ∃ t, PK X kws t ∧ ∀ (B F : Hp) (O0 : Own) (H : Hp) (O : Own) (σ : L2.St) (ρ : Env), SR X.K B F O0 H O σ ρ → EvG X.K X.mg O E H (pl ρ) (fun xs vs H' => OutL X.K B O0 H H' O xs vs) (t σ H)
theorem dk_nil : DK X E [] (fun _ => .ok []) := ⟨_, pk_nil, fun B F O0 H O σ ρ R => EvG.ret (show OutL _ _ _ _ _ _ _ _ from .nil)⟩
theorem dk_cons {y : Str} {e : Expr} {q : Env → R DV} {kp : Pos} (ha : DE X E e q) (hr : DK X E kws pl) : DK X E (⟨some y, e, kp⟩ :: kws) (fun ρ => (q ρ).bind fun x => (pl ρ).bind fun xs => .ok (x :: xs)) := by
  obtain ⟨t, h1, h2⟩ := ha.ex
  obtain ⟨u, g1, g2⟩ := hr.ex
  refine ⟨_, pk_cons h1 g1, fun B F O0 H O σ ρ R => ?_⟩
  refine EvG.bind (T1 := fun v H1 Q => u σ H1 fun vs H2 => Q (v :: vs) H2) (h2 B F O0 H O σ ρ R) fun x v H1 s1 r1 => ?_
  refine EvG.bind (T1 := fun vs H2 Q => Q (v :: vs) H2) (g2 B F O0 H1 O σ ρ (R.more s1)) fun xs vs H2 s2 r2 => ?_
  exact EvG.ret (.cons (r1.mono (Same.refl _) s2) (r2.mono s1 (Same.refl _)))
theorem de_callKw (c : CallKw X.prog X.w X.K X.mg X.base x k n ks m) (hr : Room k X.A) (hg : Gl X x) (hx : Passes (L2.CX X.prog X.w) X E) (ha : DK X E kws pl) (hn : ks.length = n) (hdb : (x == ("__debug__" : Str)) = false := by decide)
    (hall : (backToKw pos (keywordEach kws X.env)).all (·.1.isSome) = true := by rfl) (hks : (backToKw pos (keywordEach kws X.env)).filterMap (·.1) = ks := by rfl)
    (hpl : ((backTo pos (starEach [] X.env)).any (·.1) || (backToKw pos (keywordEach kws X.env)).any (·.1.isNone)) = false := by rfl) : DE X E (.Call (.Name x p) [] kws pos) (dCall n m pl) := by
  obtain ⟨f, fd, ps, hm, F, hk, hb⟩ := c.ex
  obtain ⟨t, h1, h2⟩ := ha.ex
  refine ⟨_, pe_callN0 F hr hg hm hk hb hx h1 hall hks hdb hpl, fun B F' O0 H O σ ρ R => ?_⟩
  refine EvG.bind (T1 := fun vs H1 Q => vs.length = ks.length ∧ spD X.K X.mg n m vs H1 Q E) (h2 B F' O0 H O σ ρ R) fun xs vs H1 s1 r1 => ?_
  split
  · rename_i hl
    have hlen : vs.length = n := by rw [(OutL.args r1).length, List.length_map]; exact hl
    have dom := (R.more s1).dom
    have dom2 : ∀ a, O a → H1 a ≠ none ∧ ∀ xs, H1 a ≠ some (.tup xs) := fun a z => ⟨dom a z, fun xs => (R.more s1).nt a xs z⟩
    cases q : m (xs.map argD) with
    | no => trivial
    | ex z => exact fun w Q => ⟨by omega, hlen, O, _, dom2, OutL.args r1, by rw [q]; exact w⟩
    | ok y =>
      refine fun Q hQ => ⟨by omega, hlen, O, _, dom2, OutL.args r1, by
        rw [q]
        intro v H' s' ro
        refine hQ v H' s' ?_
        obtain ⟨d, kk⟩ := y
        cases kk with
        | fz => exact ro
        | ow =>
          obtain ⟨z, ez, nz, cz⟩ := ro
          exact ⟨z, ez, s1.free nz, fun oz => dom z oz nz, cz⟩
        | bo => exact ro.elim
        | al => exact ro.elim⟩
  · trivial
end
/-! ### a def that calls itself: a mirror by levels -/
/-- no promise at all -/
theorem call_zero {P : Program} {w : World} {K : PySem.W.Frag} {mg : Str → Option Value} {base : Heap} {x : Str} {f : Addr} {fd : FuncData} {ps : List Str} {n k : Nat} (hm : mg x = some (.ref f)) (hk : PySem.W.keepIn K (.ref f) = true) (hb : Binds K fd ps []) (hn : ps.length = n) :
    CallOk P w K mg base x k n (fun _ => .no) := by
  refine ⟨f, fd, ps, hm, ⟨fun vs H Q E h => by rw [hn]; exact h.1, fun A outer s H args us vs Q E _ _ _ _ h => ?_⟩, hk, hb⟩
  obtain ⟨_, O, as, _, _, z⟩ := h
  exact z.elim
end FK
namespace FK
open PySem PySem.Spec L2
open PyProof.Rows hiding St

theorem exm_of {K : PySem.W.Frag} {S T : Addr} {b : Bool} (h1 : PySem.W.subIn K (.ref S) (.type "BaseException") = some true) (h2 : PySem.W.isClsIn K S = true) (h3 : PySem.W.typeIn K (.ref S) = some (.type "type")) (h4 : PySem.W.subIn K (.ref T) (.ref S) = some b) :
    PySem.W.exmOne K (.ref T) (.ref S) = some b := by
  have e1 : (PySem.W.subIn K (.ref S) (.type "BaseException") == some true) = true := by rw [h1] <;> rfl
  have e2 : ((PySem.W.clsIn K S).isSome && PySem.W.typeIn K (.ref S) == some (.type "type")) = true := by
    have h2' : (PySem.W.clsIn K S).isSome = true := h2
    rw [h2', h3] <;> rfl
  unfold PySem.W.exmOne PySem.W.kitCls
  rw [if_pos e1]
  dsimp only
  rw [if_pos e2]
  exact h4
/-! ### range(i, j, -1) -/
def rg3 (x y z : DV) : R (List D × Kd) := match x.1, y.1, z.1 with
  | .int i, .int j, .int c => if c = -1 ∧ -(2 ^ 62) ≤ i ∧ i < 2 ^ 62 ∧ -(2 ^ 62) ≤ j ∧ j < 2 ^ 62 then .ok (rangeL i (-1) (i - j).toNat, .fz) else .no
  | _, _, _ => .no
section
variable {X : Cx} {E : XK} {tg e e' e2 : Expr} {p p' p2 : Env → R DV} {pos pp : Pos}
theorem di_range3 (hg : Gl X "range") (hm : X.mg "range" = none) (he : DE X E e p) (he' : DE X E e' p') (he2 : DE X E e2 p2)
    (hs1 : starEach [e, e', e2] X.env = (false, eval e X.env) :: starEach [e', e2] X.env := by rfl) (hs2 : starEach [e', e2] X.env = (false, eval e' X.env) :: starEach [e2] X.env := by rfl) (hs3 : starEach [e2] X.env = (false, eval e2 X.env) :: starEach [] X.env := by rfl)
    (hpl : (backTo pos (starEach [e', e2] X.env)).any (·.1) = false := by rfl) :
    DI X E tg (.Call (.Name "range" pp) [e, e', e2] [] pos) (fun ρ => (p ρ).bind fun x => (p' ρ).bind fun y => (p2 ρ).bind fun z => rg3 x y z) := by
  obtain ⟨t, a1, a2⟩ := he.ex
  obtain ⟨u, b1, b2⟩ := he'.ex
  obtain ⟨v, c1, c2⟩ := he2.ex
  refine ⟨_, pi_range3 hg hm (pa_cons a1 (pa_cons b1 (pa_cons c1 pa_nil hs3) hs2) hs1) hs1 hpl, fun B F O0 H O σ ρ R => ?_⟩
  refine EvG.bind (T1 := fun x H1 R => u σ H1 fun y H2 => v σ H2 fun z H3 => ∃ (i j c : Int) (n : Nat), [x, y, z] = [V.int i, V.int j, V.int c] ∧ RgC i j c n ∧ R (Itc i c n) H3) (a2 B F O0 H O σ ρ R) fun x w H1 s1 r1 => ?_
  refine EvG.bind (T1 := fun y H2 R => v σ H2 fun z H3 => ∃ (i j c : Int) (n : Nat), [w, y, z] = [V.int i, V.int j, V.int c] ∧ RgC i j c n ∧ R (Itc i c n) H3) (b2 B F O0 H1 O σ ρ (R.more s1)) fun y w2 H2 s2 r2 => ?_
  refine EvG.bind (T1 := fun z H3 R => ∃ (i j c : Int) (n : Nat), [w, w2, z] = [V.int i, V.int j, V.int c] ∧ RgC i j c n ∧ R (Itc i c n) H3) (c2 B F O0 H2 O σ ρ (R.more (s1.trans s2))) fun z w3 H3 s3 r3 => ?_
  unfold rg3
  obtain ⟨d, kk⟩ := x
  obtain ⟨d', kk'⟩ := y
  obtain ⟨d2, kk2⟩ := z
  cases d <;> cases d' <;> cases d2 <;> first | exact True.intro | skip
  cases Out.int r1
  cases Out.int r2
  cases Out.int r3
  dsimp only
  split
  · rename_i c
    obtain ⟨rfl, c1, c2, c3, c4⟩ := c
    exact fun Q hQ => ⟨_, _, _, _, rfl, RgC.neg c1 c2 c3 c4, hQ _ _ (Same.refl _) (it_range _ _ _)⟩
  · trivial
end
end FK
namespace HT
open PySem PyProof.Rows
/-! FX5: t[::-1] of a tuple; str of a list or tuple (no guards stand). -/
section
variable {prog : Program} {w : World} {A : Around} {E : Value → Shared → Prop} {s : Shared}
theorem adjust_rev (n : Nat) : Builtin.Slice.sliceAdjust none none (-1) (n : Int) = ((n : Int) - 1, -1) := by
  unfold Builtin.Slice.sliceAdjust
  have h1 : (-1 : Int) < 0 := by omega
  simp only [h1, if_true]
theorem places_rev (n : Nat) : Builtin.Slice.slicePlaces ((n : Int) - 1) (-1) (-1) = n := by
  unfold Builtin.Slice.slicePlaces
  have h1 : ¬ ((-1 : Int) > 0) := by omega
  simp only [h1, if_false, show (-(-1) : Int) = 1 from rfl, Int.ediv_one]
  split <;> omega
theorem sliceApplied_rev {sl : Addr} {vl vu vs : Value} {n : Nat} {Q : Int × Int × Nat → Shared → Prop} (hs : s.heap.IsSliceOf sl vl vu vs) (pl : IsPart vl none) (pu : IsPart vu none) (ps : IsPart vs (some (-1)))
    (h : Q ((n : Int) - 1, -1, n) s) : wpAny (model prog w) A (Builtin.Slice.sliceApplied (.ref sl) (pure (n : Int))) Q E s := by
  obtain ⟨os, hos, hcs, hds⟩ := id hs
  unfold Builtin.Slice.sliceApplied Builtin.Slice.sliceFields
  refine wpAny_bind (wpAny_bind (wpAny_field hos hds (x := vl) rfl (wpAny_bind (wpAny_field hos hds (x := vu) rfl (wpAny_bind (wpAny_field hos hds (x := vs) rfl (wpAny_pure ?_)))))))
  refine wpAny_bind (slicePart_ ps ?_)
  show wpAny _ _ (if ((-1 : Int) == 0) = true then _ else _) _ _ s
  rw [if_neg (by decide)]
  refine wpAny_bind (slicePart_ pl (wpAny_bind (slicePart_ pu (wpAny_bind (wpAny_pure ?_)))))
  show wpAny _ _ (match Builtin.Slice.sliceAdjust none none (-1) (n : Int) with | (lo, hi) => pure (lo, (-1 : Int), Builtin.Slice.slicePlaces lo hi (-1))) _ _ s
  rw [adjust_rev n]
  show wpAny _ _ (pure ((n : Int) - 1, (-1 : Int), Builtin.Slice.slicePlaces ((n : Int) - 1) (-1) (-1))) _ _ s
  rw [places_rev]
  exact wpAny_pure h
theorem pick_rev (xs : Array Value) : ((List.range xs.size).filterMap fun (k : Nat) => xs[((xs.size : Int) - 1 + (k : Int) * -1).toNat]?).toArray = xs.toList.reverse.toArray := by
  congr 1
  have e1 : (List.range xs.size).map (fun (k : Nat) => xs[((xs.size : Int) - 1 + (k : Int) * -1).toNat]?) = xs.toList.reverse.map some := by
    apply List.ext_getElem
    · simp
    · intro i h1 h2
      simp only [List.length_map, List.length_range] at h1
      have : ((xs.size : Int) - 1 + (i : Int) * -1).toNat = xs.size - 1 - i := by omega
      simp only [List.getElem_map, List.getElem_range, List.getElem_reverse, this, Array.length_toList, Array.getElem_toList]
      rw [Array.getElem?_eq_getElem (by omega)]
  have e2 : ∀ (l : List Nat) (f : Nat → Option Value), l.filterMap f = (l.map f).filterMap id := fun l f => by rw [List.filterMap_map]; rfl
  rw [e2, e1, List.filterMap_map]
  exact List.filterMap_some
theorem getItem_tuple_rev {t sl : Addr} {items : Array Value} {vl vu vs : Value} {Q : Value → Shared → Prop} (ht : IsTup s.heap t items) (hs : s.heap.IsSliceOf sl vl vu vs) (pl : IsPart vl none) (pu : IsPart vu none) (ps : IsPart vs (some (-1)))
    (h : Q (.ref s.heap.objs.size) { s with heap := s.heap.push { cls := .type "tuple", data := .seq items.toList.reverse.toArray } })
    (hsz : items.size ≤ sizeLine) : wpAny (model prog w) A (getItem (.ref t) (.ref sl)) Q E s := by
  have htake : sizeOk (.seq items.toList.reverse.toArray) := by
    show items.toList.reverse.toArray.size ≤ sizeLine
    rw [List.size_toArray, List.length_reverse, Array.length_toList]
    omega
  obtain ⟨os, hos, hcs, hds⟩ := id hs
  have hTs : s.TypeIs (.ref sl) "slice" := ⟨os, hos, hcs⟩
  unfold getItem
  try with_reducible refine wpAny_holding ?_
  first | refine wpAny_bind (wpAny_pure ?_) | skip
  refine wpAny_bind (wpAny_sequenceKey ht.typeIs (by decide) ?_)
  refine wpAny_bind (wpAny_callSpecial?_slot (name := Str.ofString "__getitem__") ht.typeIs PyProof.Rows.slot_tuple_getitem
    (wpAny_call_entry PyProof.Rows.slot_tuple_getitem ht.typeIs entry_tuple_getitem ?_ (args_tuple_getitem _ _)))
  show wpAny _ _ (Builtin.Tuple.tupleItemsOf (.ref t) >>= _) _ _ s
  refine wpAny_bind (tupleItemsOf_ ht ?_)
  refine wpAny_bind (wpAny_typeOf hTs ?_)
  rw [if_pos (by decide)]
  refine wpAny_bind (sliceApplied_rev hs pl pu ps ?_)
  have hno : ¬ ((((items.size : Int) - 1) == 0 && (-1 : Int) == 1 && items.size == items.size) = true) := by
    intro q
    rw [Bool.and_eq_true, Bool.and_eq_true] at q
    exact absurd q.1.2 (by decide)
  show wpAny _ _ (if ((((items.size : Int) - 1) == 0 && (-1 : Int) == 1 && items.size == items.size) = true) then _ else _) _ _ s
  rw [if_neg hno, pick_rev]
  first
    | exact wpAny_bind (m := Builtin.Tuple.tupleExact _) (wpAny_newObj_type (wpAny_pure ⟨_, rfl, wpAny_pure h⟩) htake)
    | exact wpAny_bind (m := Builtin.Tuple.tupleExact _) (wpAny_newObj_type (wpAny_bind (wpAny_pure (wpAny_pure ⟨_, rfl, wpAny_pure h⟩))) htake)
    | exact wpAny_bind (wpAny_bind (m := Builtin.Tuple.tupleExact _) (wpAny_newObj_type (wpAny_pure (wpAny_pure ⟨_, rfl, wpAny_pure h⟩)) htake))
    | exact wpAny_bind (wpAny_bind (m := Builtin.Tuple.tupleExact _) (wpAny_newObj_type (wpAny_pure ⟨_, rfl, wpAny_pure h⟩) htake))
end
end HT
namespace FK
open PySem PySem.Spec L2
open PyProof.Rows hiding St
section
variable {X : Cx} {E : XK} {pa : Env → R DV}
def tRevT (K : PySem.W.Frag) (te : TE) : TE := fun σ H Q => te σ H fun x H1 => ∃ a xs, x = .ref a ∧ SqT K H1 a xs ∧ ∀ p, H1 p = none → Q (.ref p) (upd H1 p (.tup xs.reverse))
theorem pe_revT {e : Expr} {te : TE} {k : Nat} {p1 p2 p3 pos : Pos} (he : PE X e te) : PE X (.Subscript e (.Slice none none (some (.UnaryOp .USub (.Constant (.int 1) k p1) p2)) p3) pos) (tRevT X.K te) := by
  refine ⟨fun pins s σ H Q I h => ?_⟩
  refine Subscript_ (thn (he.run pins s σ H _ I h) fun v s1 ⟨x, H1, I1, r1, q1⟩ => ?_)
  obtain ⟨a, xs, ex, hx, q⟩ := q1
  subst ex
  cases r1
  have hst : PO X (some (.UnaryOp .USub (.Constant (.int 1) k p1) p2)) (tPart (tUn (rU fun i => .int (-i)) (tC (.int 1)))) := po_some (pe_un un_neg pe_int)
  refine wpAny_Slice (thn (po_none.run pins s1 σ H1 (fun o H2 => o = none ∧ H2 = H1) I1 ⟨rfl, rfl⟩) fun vl s2 ⟨l, H2, I2, pl, el, e2⟩ => ?_)
  subst el e2
  refine thn (po_none.run pins s2 σ H2 (fun o H3 => o = none ∧ H3 = H2) I2 ⟨rfl, rfl⟩) fun vu s3 ⟨u, H3, I3, pu, eu, e3⟩ => ?_
  subst eu e3
  refine thn (hst.run pins s3 σ H3 (fun o H4 => o = some (-1) ∧ H4 = H3) I3 ⟨1, rfl, -1, rfl, rfl, rfl⟩) fun vs s4 ⟨o, H4, I4, ps, eo, e4⟩ => ?_
  subst eo e4
  have I5 : Inv X pins σ H4 { s4 with heap := s4.heap.push { cls := .type "slice", data := .fields #[vl, vu, vs] } } := I4.kept (t' := s4.toks) fun b ob q => Heap.get?_push_of_some _ q
  obtain ⟨its, r, ht, hz⟩ := I5.tuple hx
  have hlen := r.length
  show wpAny (model X.prog X.w) X.A (subscriptTail e (.Slice none none (some (.UnaryOp .USub (.Constant (.int 1) k p1) p2)) p3) (.ref a) (.ref s4.heap.objs.size)) (EP X pins σ Q) X.xe { s4 with heap := s4.heap.push { cls := .type "slice", data := .fields #[vl, vu, vs] } }
  refine tail_any (ops := [.ref a, .ref s4.heap.objs.size]) ht.typeIs (PyProof.Rows.slot_tuple_getitem.lookup) ?_ (by with_unfolding_all rfl)
  refine HT.getItem_tuple_rev ht (Heap.IsSliceOf.new _ vl vu vs) pl pu ps ?_ (by rw [List.size_toArray]; omega)
  refine ⟨.ref _, _, I5.laid (t' := s4.toks) (o := .tup xs.reverse) (fun b ob q => Heap.get?_push_of_some _ q) (Nat.le_refl _) ?_, rfl, q _ (I5.hok.fresh (Nat.le_refl _))⟩
  exact ⟨by rw [List.length_reverse]; exact hz, _, r.reverse, IsTup.new _ _⟩
def revT (x : DV) : R DV := match x with
  | (.tup xs, .fz) => .ok (.tup xs.reverse, .fz)
  | _ => .no
theorem RepL.reverse {K : PySem.W.Frag} {H : Hp} : ∀ {vs : List V} {ds : List D}, RepL K H vs ds → RepL K H vs.reverse ds.reverse
  | _, _, .nil => .nil
  | _, _, .cons a b => by
    rw [List.reverse_cons, List.reverse_cons]
    exact (RepL.reverse b).append (.cons a .nil)
theorem de_revT {a : Expr} {k : Nat} {p1 p2 p3 pos : Pos} (ha : DE X E a pa) : DE X E (.Subscript a (.Slice none none (some (.UnaryOp .USub (.Constant (.int 1) k p1) p2)) p3) pos) (fun ρ => (pa ρ).bind revT) := by
  obtain ⟨t, h1, h2⟩ := ha.ex
  refine ⟨_, pe_revT h1, fun B F O0 H O σ ρ R => ?_⟩
  refine EvG.bind (T1 := fun (x : V) (H1 : Hp) (Q : VK) => ∃ (a : Addr) (xs : List V), x = V.ref a ∧ SqT X.K H1 a xs ∧ ∀ p, H1 p = none → Q (.ref p) (upd H1 p (.tup xs.reverse))) (h2 B F O0 H O σ ρ R) fun x v H1 s1 r1 => ?_
  obtain ⟨d, kk⟩ := x
  cases d <;> first | exact True.intro | skip
  cases kk <;> first | exact True.intro | skip
  obtain ⟨a, vs, rfl, q1, q2⟩ := r1.tup
  exact fun Q hQ => ⟨a, vs, rfl, q1, ev_tup (mg := X.mg) (E := E) (R.more s1).dom q2.reverse Q fun v H' s' r => hQ v H' s' (r.mono s1 (Same.refl _))⟩
end
end FK
namespace FK
open PySem PySem.Spec L2
open PyProof.Rows hiding St
/-! ### a def that is called from where no guards stand -/
section
variable {P : Program} {w : World} {K : PySem.W.Frag} {mg : Str → Option Value} {base : Heap}
def GRunO (P : Program) (w : World) (K : PySem.W.Frag) (mg : Str → Option Value) (base : Heap) (k : Nat) (f : Addr) (fd : FuncData) (ps : List Str) (sp : Sp) : Prop :=
  ∀ (A : Around) (outer : List PySem.Env) (s : Shared) (H : Hp) (args : Args) (us : List Value) (vs : List V) (Q : VK) (E : XK), A.guards = some [] → Room k A → Env0 P w K mg base A outer s H →
    BindsTo s fd args (ps.zip us) → Vals vs us → sp vs H Q E → codeAny (model P w) A (.call (.ref f) args) (CR (L2.CX P w) outer P w H s Q E) s
theorem grunO_of {x qual : Str} {st : Stmt} {f : Addr} {fd : FuncData} {N ps : List Str} {k : Nat} {sp : Sp} (F : Fun K x qual st f fd) (S : FnScope N ps (defScope st)) (len : ∀ vs H Q E, sp vs H Q E → vs.length = ps.length)
    (body : ∀ (cdv : Value) (A : Around) (outer : List PySem.Env) (s : Shared) (H : Hp) (vs : List V) (Q : VK) (E : XK), A.guards = some [] → Room k (A.deeper (envOfC qual (defScope st) s.heap.objs.size f cdv)) → sp vs H Q E →
      ∃ t, PSs (bodyX P w K mg base N qual st f cdv A outer s H E) (defBody st) t ∧ t { nx := fun _ H' => Q .non H', rt := Q } (L2.start N vs) H) : GRunO P w K mg base (k + 1) f fd ps sp := by
  obtain ⟨oc, od, kV, doc, pm, an, cdv, ct, osl, rfl, lk, hcd⟩ := F.ex
  intro A outer s H args us vs Q E hg hr e0 hb r hsp
  have hl := len _ _ _ _ hsp
  have old := fun b o e => (e0.bs b o e).1
  have inK : K.In s.heap := e0.mod.kin.keeps old
  have slots : ∀ y ∈ ps.zip us, (defScope st).names.lookup y.1 = some .local ∨ ((defScope st).names.lookup y.1 = some .cell ∧ ((cellsFrom (s.heap.objs.size + 1) (defScope st).names []).lookup y.1).isSome = true) := by
    rintro ⟨n, v⟩ hy
    exact (S.par n (List.of_mem_zip hy).1).imp id fun q => ⟨q, PySem.W.cellsFrom_some _ _ _ (.inl q)⟩
  refine codeAny_call_function hr.depth (inK _ _ lk) rfl S.co S.gen rfl (PySem.W.codeRec_of inK hcd) (hb _ _ _ _ (wpAny_newFunctionEnv_cells S.kind slots ?_))
  rintro env rfl s1 x
  refine ⟨(e0.mod.nolimit.keeps old).keeps x.toInCall.keep, codeAny_func ?_⟩
  obtain ⟨t, ht, hq⟩ := body cdv A outer s H vs Q E hg (hr.deeper _) hsp
  refine wpAny_mono (ht.run [] s1 (L2.start N vs) H _ (inv_start S hr.hd e0 hl r x) hq) ?_ fun _ _ z => z
  rintro (_ | _ | _ | u) s' hs
  all_goals first
    | (obtain ⟨v, σ', H', J, rv, q⟩ := hs; exact ⟨v, H', J.os, J.bare, J.base, J.hok, rv, q⟩)
    | (obtain ⟨σ', H', J, q⟩ := hs; exact ⟨V.non, H', J.os, J.bare, J.base, J.hok, rfl, q⟩)
    | (obtain ⟨_, _, _, q⟩ := hs; exact q.elim)
structure CallG (P : Program) (w : World) (K : PySem.W.Frag) (mg : Str → Option Value) (base : Heap) (x : Str) (k n : Nat) (m : List DV → R DV) : Prop where
  ex : ∃ (f : Addr) (fd : FuncData) (ps : List Str), mg x = some (.ref f) ∧ ps.length = n ∧ GRunO P w K mg base k f fd ps (spD K mg n m) ∧ PySem.W.keepIn K (.ref f) = true ∧ Binds K fd ps []
theorem fn_ruleG {x qual : Str} {st : Stmt} {f : Addr} {fd : FuncData} {N ps : List Str} {k n : Nat} {m : Env → SO} (F : Fun K x qual st f fd) (S : FnScope N ps (defScope st)) (hn : ps.length = n) (hm : mg x = some (.ref f)) (hb : Binds K fd ps [])
    (body : ∀ (cdv : Value) (A : Around) (outer : List PySem.Env) (s : Shared) (H : Hp) (E : XK), (bodyX P w K mg base N qual st f cdv A outer s H E).A.guards = some [] → Room k (bodyX P w K mg base N qual st f cdv A outer s H E).A → DSs (bodyX P w K mg base N qual st f cdv A outer s H E) E (defBody st) m) :
    CallG P w K mg base x (k + 1) n (runD N.length m) := by
  refine ⟨f, fd, ps, hm, hn, grunO_of F S (fun vs H Q E h => by rw [hn]; exact h.1) fun cdv A outer s H vs Q E hg hr h => ?_, F.kp, hb⟩
  obtain ⟨hl, O, as, dom, ha, hend⟩ := h
  obtain ⟨t, h1, h2⟩ := (body cdv A outer s H E hg hr).ex
  refine ⟨t, h1, h2 H (off O H) O H O _ _ _ (start_sr dom ha) ?_⟩
  unfold runD at hend
  show EndsOk K mg H (off O H) O { nx := fun _ H' => Q .non H', rt := Q } E (m (as.map some ++ List.replicate (N.length - as.length) none))
  cases q : m (as.map some ++ List.replicate (N.length - as.length) none) with
  | nx ρ => rw [q] at hend; exact fun σ' H' O' R => hend .non H' R.base (show Rep _ _ _ _ from .non)
  | rt y => rw [q] at hend; exact fun v H' s' r => hend v H' s' r
  | bk ρ => rw [q] at hend; exact hend.elim
  | ct ρ => rw [q] at hend; exact hend.elim
  | ex e => rw [q] at hend; exact hend
  | no => rw [q] at hend; exact hend.elim
end
section
variable {X : Cx} {E : XK} {e : Expr} {es : List Expr} {pl : Env → R (List DV)} {pos pp : Pos} {k n : Nat} {x : Str} {m : List DV → R DV}
theorem run_fnG {f : Addr} {fd : FuncData} {ps : List Str} {sp : Sp} {pins : List (Addr × Obj)} {σ : L2.St} {H : Hp} {s : Shared} {Q : VK} {us : List Value} {vs : List V} (F : GRunO X.prog X.w X.K X.mg X.base k f fd ps sp) (hgd : X.A.guards = some []) (hr : Room k X.A) (hb : Binds X.K fd ps []) (hx : Passes (L2.CX X.prog X.w) X E)
    (I : Inv X pins σ H s) (r : Vals vs us) (hl : vs.length = ps.length) (h : sp vs H Q E) : wpAny (model X.prog X.w) X.A (call (.ref f) us) (EP X pins σ Q) X.xe s := by
  have b := hb s us I.kIn (by rw [List.append_nil, ← r.length]; exact hl)
  rw [List.append_nil] at b
  refine wpAny_call (codeAny_mono (F X.A X.stack s H ⟨us, []⟩ us vs Q E hgd hr I.env0 b r h) fun r s' hq => ?_)
  cases r with
  | error e => exact hx pins σ H s e s' I hq
  | ok fl =>
    cases fl with
    | ret u => exact I.after hq
    | next => exact False.elim hq
    | brk => exact False.elim hq
    | cont => exact False.elim hq
theorem pe_callG {f : Addr} {fd : FuncData} {ps : List Str} {sp : Sp} {t : TA} (F : GRunO X.prog X.w X.K X.mg X.base k f fd ps sp) (hl : ∀ vs H Q E, sp vs H Q E → vs.length = ps.length) (hgd : X.A.guards = some []) (hr : Room k X.A) (hg : Gl X x) (hm : X.mg x = some (.ref f)) (hk : PySem.W.keepIn X.K (.ref f) = true) (hb : Binds X.K fd ps []) (hx : Passes (L2.CX X.prog X.w) X E)
    (ha : PA X (e :: es) t) (hdb : (x == ("__debug__" : Str)) = false := by decide) (he : starEach (e :: es) X.env = (false, eval e X.env) :: starEach es X.env := by rfl) (hpl : (backTo pos (starEach es X.env)).any (·.1) = false := by rfl) :
    PE X (.Call (.Name x pp) (e :: es) [] pos) (fun σ H Q => t σ H fun vs H1 => sp vs H1 Q E) := by
  refine ⟨fun pins s σ H Q I h => ?_⟩
  refine wpAny_Call_Name_kw (ld_glob I hg hm ?_ hdb)
  refine PySem.W.callWith_K (h₀ := X.base) I.ok.mod.kin hk (thn (ha.run pos pins s σ H _ I h) fun us s1 ⟨vs, H1, I1, r, q⟩ => ⟨I1.kIn, ?_⟩) he hpl
  exact run_fnG F hgd hr hb hx I1 r (hl _ _ _ _ q) q
theorem de_callG (c : CallG X.prog X.w X.K X.mg X.base x k n m) (hgd : X.A.guards = some []) (hr : Room k X.A) (hg : Gl X x) (hx : Passes (L2.CX X.prog X.w) X E) (ha : DA X E (e :: es) pl) (hdb : (x == ("__debug__" : Str)) = false := by decide)
    (he : starEach (e :: es) X.env = (false, eval e X.env) :: starEach es X.env := by rfl) (hpl : (backTo pos (starEach es X.env)).any (·.1) = false := by rfl) : DE X E (.Call (.Name x pp) (e :: es) [] pos) (dCall n m pl) := by
  obtain ⟨f, fd, ps, hm, hn, F, hk, hb⟩ := c.ex
  obtain ⟨t, h1, h2⟩ := ha.ex
  refine ⟨_, pe_callG F (fun vs H Q E h => by rw [hn]; exact h.1) hgd hr hg hm hk hb hx h1 hdb he hpl, fun B F' O0 H O σ ρ R => ?_⟩
  refine EvG.bind (T1 := fun vs H1 Q => spD X.K X.mg n m vs H1 Q E) (h2 B F' O0 H O σ ρ R) fun xs vs H1 s1 r1 => ?_
  split
  · rename_i hl
    have hlen : vs.length = n := by rw [(OutL.args r1).length, List.length_map]; exact hl
    have dom := (R.more s1).dom
    have dom2 : ∀ a, O a → H1 a ≠ none ∧ ∀ xs, H1 a ≠ some (.tup xs) := fun a z => ⟨dom a z, fun xs => (R.more s1).nt a xs z⟩
    cases q : m (xs.map argD) with
    | no => trivial
    | ex z => exact fun w Q => ⟨hlen, O, _, dom2, OutL.args r1, by rw [q]; exact w⟩
    | ok y =>
      refine fun Q hQ => ⟨hlen, O, _, dom2, OutL.args r1, by
        rw [q]
        intro v H' s' ro
        refine hQ v H' s' ?_
        obtain ⟨d, kk⟩ := y
        cases kk with
        | fz => exact ro
        | ow =>
          obtain ⟨z, ez, nz, cz⟩ := ro
          exact ⟨z, ez, s1.free nz, fun oz => dom z oz nz, cz⟩
        | bo => exact ro.elim
        | al => exact ro.elim⟩
  · trivial
/-! ### str(x) -/
def rStrF (K : PySem.W.Frag) : List V → Hp → VK → Prop := fun vs H Q => ∃ v d, vs = [v] ∧ Dp K H v d ∧ d.showable = true ∧ d.hasDict = false ∧ d.depth ≤ 100 ∧ d.shown.length ≤ sizeLine ∧ (∃ a, v = .ref a) ∧ Q (.str d.shown) H
theorem cr_strF (hgd : X.A.guards = some []) (hr : Room k X.A) : CallR X (.type "str") (rStrF X.K) := by
  intro pins s σ H vs us Q I rv hq
  obtain ⟨v, d, rfl, hd, h1, h2, h3, h4, ⟨a, rfl⟩, q⟩ := hq
  obtain ⟨u, rfl, ru⟩ := vals1 rv
  obtain ⟨as, rd⟩ := Dp.reads I d _ u hd ru
  cases ru
  have hu := hr.un
  exact str_of_reads rd h1 (fun z => by rw [h2] at z; cases z) hgd (by omega) (fun _ _ e => e) (fun h' u tk hk => ⟨.str _, H, I.kept hk, ⟨_, rfl⟩, q⟩) h4
def gStr (x : DV) : R DV := if x.1.isRf = true then (reprD x.1).bind fun s => .ok (.str s, .fz) else .no
theorem cb_str (hgd : X.A.guards = some []) (hr : Room k X.A) : CB X E (.type "str") (one gStr) := cb1 (cr_strF hgd hr) fun B O0 H0 H O x v s dom hx => by
  unfold gStr reprD
  by_cases c : x.1.isRf = true
  · rw [if_pos c]
    split
    · rename_i z
      obtain ⟨z1, z2, z3, z4, z5⟩ := z
      have hd := hx.dp z1
      refine fun Q hQ => ⟨v, _, rfl, hd, z2, z3, z4, z5, ?_, hQ _ _ (Same.refl _) (show Rep _ _ _ _ from .str _)⟩
      obtain ⟨d, kk⟩ := x
      cases d <;> first | (cases c; done) | skip
      · obtain ⟨a, vs, rfl, _⟩ := hx.lst
        exact ⟨a, rfl⟩
      · simp only [D.py] at hd
        cases hd
        exact ⟨_, rfl⟩
    · trivial
  · rw [if_neg c]; trivial
end
end FK
namespace FK
abbrev mRevT (p : Env → R DV) : Env → R DV := fun ρ => (p ρ).bind revT
end FK
namespace FK
open PySem PySem.Spec L2
open PyProof.Rows hiding St
/-! FX6: {k: v}. -/
def mkDk1 (x y : DV) : R DV := match x.1, keep1 y with
  | .int i, some d => .ok (.dk [((Sum.inl i : Key), d)], .ow)
  | _, _ => .no
abbrev mDk1 (pk pv : Env → R DV) : Env → R DV := fun ρ => (pk ρ).quiet.bind fun x => (pv ρ).quiet.bind fun y => mkDk1 x y
section
variable {X : Cx} {E : XK} {ke ve : Expr} {pk pv : Env → R DV} {pos : Pos}
theorem de_dk1 (hk : DE X E ke pk) (hv : DE X E ve pv) : DE X E (.Dict [some ke] [ve] pos) (mDk1 pk pv) := by
  obtain ⟨t, a1, a2⟩ := hk.ex
  obtain ⟨u, b1, b2⟩ := hv.ex
  refine ⟨_, pe_disp (pps_cons a1 b1 pps_nil) rfl rfl (by simp) (by simp), fun B F O0 H O σ ρ R => ?_⟩
  show EvG _ _ _ _ _ ((pk ρ).quiet.bind fun x => (pv ρ).quiet.bind fun y => mkDk1 x y) _ _
  cases q1 : pk ρ with
  | no => trivial
  | ex e => trivial
  | ok x =>
    cases q2 : pv ρ with
    | no => trivial
    | ex e => trivial
    | ok y =>
      show EvG _ _ _ _ _ (mkDk1 x y) _ _
      unfold mkDk1
      obtain ⟨d, kk⟩ := x
      cases d <;> first | exact True.intro | skip
      rename_i i
      cases q3 : keep1 y with
      | none => trivial
      | some dd =>
        intro Q hQ p hp
        have s0 : Same H (upd H p (.dK [])) := same_upd hp
        have R0 := R.grow s0 hp (by rw [upd_same]; exact fun z => nomatch z) (by rw [upd_same]; exact fun _ z => nomatch z)
        have e1 := a2 B F O0 _ (plus O p) σ ρ R0
        rw [q1] at e1
        refine e1 _ fun v H1 s1 r1 => ?_
        cases Out.int r1
        have e2 := b2 B F O0 _ (plus O p) σ ρ (R0.more s1)
        rw [q2] at e2
        refine e2 _ fun w H2 s2 r2 => ?_
        have hp2 : H2 p = some (.dK []) := s2 _ _ (s1 _ _ upd_same)
        refine ⟨hp2, [((Sum.inl i : Key), w)], rfl, by simp, ?_⟩
        have np : ¬ O p := fun z => R.dom p z hp
        have sH : Same H (upd H2 p (.dK [((Sum.inl i : Key), w)])) := fun b o eb => by
          rw [upd_ne (ne_of_none eb hp)]
          exact s2 _ _ (s1 _ _ (s0 _ _ eb))
        have rk := Out.keep r2 q3
        refine hQ _ _ sH ⟨p, rfl, hp, np, [((Sum.inl i : Key), w)], upd_same, .cons ?_ .nil⟩
        rw [off_upd (.inr rfl)]
        exact rk
/-! list(d): its keys -/
def kD : Key → D
  | .inl i => .int i
  | .inr s => .str s
def gListD (x : DV) : R DV := match x.1 with
  | .lst xs => .ok (.lst xs, .ow)
  | .tup xs => .ok (.lst xs, .ow)
  | .dk kvs => .ok (.lst (kvs.map fun kv => kD kv.1), .ow)
  | _ => .no
theorem kD_rep {K : PySem.W.Frag} {H : Hp} : ∀ k : Key, Rep K H (kV k) (kD k)
  | .inl i => .int i
  | .inr s => .str s
theorem RepK.keys {K : PySem.W.Frag} {H : Hp} : ∀ {vs : List (Key × V)} {ds : List (Key × D)}, RepK K H vs ds → ∀ {H' : Hp}, RepL K H' (vs.map fun kv => kV kv.1) (ds.map fun kv => kD kv.1)
  | _, _, .nil, _ => .nil
  | _, _, .cons a b, _ => .cons (kD_rep _) (RepK.keys b)
theorem cb_listD (hc : X.calm = true) : CB X E (.type "list") (one gListD) := cb1 (CallR.or call_list_of (call_listD hc)) fun B O0 H0 H O x v s dom hx => by
  obtain ⟨d, kk⟩ := x
  cases d <;> first | exact True.intro | skip
  · obtain ⟨a, vs, rfl, h1, h2⟩ := hx.lst
    exact fun Q hQ => .inl ⟨a, vs, rfl, .inl h1, ev_lst (mg := X.mg) (E := E) dom h2 Q hQ⟩
  · obtain ⟨a, vs, rfl, h1, h2⟩ := hx.tup
    exact fun Q hQ => .inl ⟨a, vs, rfl, .inr h1, ev_lst (mg := X.mg) (E := E) dom h2 Q hQ⟩
  · obtain ⟨a, vs, rfl, h1, h2⟩ := hx.dk
    exact fun Q hQ => .inr ⟨a, vs, rfl, .inl h1, ev_lst (mg := X.mg) (E := E) dom (RepK.keys h2) Q hQ⟩
end
end FK
namespace FK
open PySem PySem.Spec L2
open PyProof.Rows hiding St
/-! FX7: a list of lists whose lines are written through other names (_law_far of k16). -/
section
variable {X : Cx} {E : XK} {tg iter : Expr} {pos : Pos}
/-! ### a loop by any word -/
theorem wipe_get : ∀ (vs : List Nat) (σ : L2.St) (p : Nat), p ∉ vs → (wipe σ vs)[p]? = σ[p]?
  | [], _, _, _ => rfl
  | v :: vs, σ, p, h => by
    show ((wipe σ vs).set v none)[p]? = _
    rw [List.getElem?_set_ne (fun e => h (by rw [e]; exact List.mem_cons_self))]
    exact wipe_get vs σ p fun z => h (List.mem_cons_of_mem _ z)
theorem for_any {is : List Nat} {q : Env → R (List D × Kd)} {f : D → Env → Option Env} {body : List Stmt} {t : TS} (hp : PassesOwn (model X.prog X.w) X.A X.env X.xe) (hc : X.calm = true) (hi : DI X E tg iter q) (hg : DG X tg is f) (hb : PSs X body t)
    (hs : ∀ x, foldedSetIterable iter X.env x = pure x := by intro _; rfl) : ∃ T, PS X (.For tg iter body [] pos) T ∧
    ∀ (B F : Hp) (O0 : Own) (H : Hp) (O : Own) (σ : L2.St) (ρ : Env) (D : Ends) (ds : List FK.D) (kk : Kd), SR X.K B F O0 H O σ ρ → q ρ = .ok (ds, kk) → kk ≠ .al →
    (∀ H1, Same H H1 → ∃ Iv : Nat → L2.St → Hp → Own → Env → Prop, (∀ i σ' H' O' ρ', Iv i σ' H' O' ρ' → SR X.K B (off O H1) O0 H' O' σ' ρ') ∧ Iv 0 σ H1 O ρ ∧ (∀ σ' H' O' ρ', Iv ds.length σ' H' O' ρ' → D.nx σ' H') ∧
      ∀ i d σ' H' O' ρ' H4, ds[i]? = some d → Iv i σ' H' O' ρ' → Same H' H4 → ∃ ρ1, f d ρ' = some ρ1 ∧ ∀ σ5, SR X.K B (off O H1) O0 H4 O' σ5 ρ1 → (∀ p, p ∉ is → σ5[p]? = σ'[p]?) →
        t { D with nx := fun σ6 H6 => ∃ O6 ρ6, Iv (i + 1) σ6 H6 O6 ρ6, ct := fun σ6 H6 => ∃ O6 ρ6, Iv (i + 1) σ6 H6 O6 ρ6, bk := D.nx } σ5 H4) → T D σ H := by
  obtain ⟨wi, a1, a2⟩ := hi.ex
  obtain ⟨g, b1, b2⟩ := hg.ex
  refine ⟨_, ps_for hp hc a1 b1 hb hs, fun B F O0 H O σ ρ D ds kk R hq nk h => ?_⟩
  have e0 := a2 B F O0 H O σ ρ R
  rw [hq] at e0
  refine e0 _ fun J H1 s1 it => ?_
  dsimp only at it
  obtain ⟨Iv, v1, v2, v3, v4⟩ := h H1 s1
  have R1 := R.more s1
  have src : ∀ {H' : Hp} {O' : Own} {σ' : L2.St} {ρ' : Env}, SR X.K B (off O H1) O0 H' O' σ' ρ' → Same (srcH B O H1 kk) H' := fun {H' O' σ' ρ'} R' => by
    cases kk with
    | fz => exact R'.frz.trans off_sub
    | ow => exact R'.frz.trans off_sub
    | bo => exact R'.base
    | al => exact absurd rfl nk
  refine ⟨fun i mm σ' H' => mm = ds.length - i ∧ i ≤ ds.length ∧ ∃ O' ρ', Iv i σ' H' O' ρ', ⟨ds.length, by omega, Nat.zero_le _, O, ρ, v2⟩, ?_⟩
  rintro i mm σ' H' ⟨rfl, hi, O', ρ', w⟩
  have R' := v1 _ _ _ _ _ w
  obtain ⟨i1, i2, i3⟩ := it i H' (src R')
  by_cases hlt : i < ds.length
  · refine .inr ⟨i1 hlt, fun σ2 H2 => ∃ O2 ρ2, Iv (i + 1) σ2 H2 O2 ρ2, fun σ2 H2 w2 => ⟨ds.length - (i + 1), by omega, rfl, hlt, w2⟩, fun v H4 y => ?_⟩
    obtain ⟨s4, r4⟩ := i3 v H4 ds[i] y (List.getElem?_eq_getElem hlt)
    have R4 := R'.more s4
    obtain ⟨ρ1, q1, k⟩ := v4 i ds[i] σ' H' O' ρ' H4 (List.getElem?_eq_getElem hlt) w s4
    refine b2 B _ O0 H4 O' σ' ρ' ρ1 v ds[i] _ R4 (r4 O' R'.dom R'.frz) q1 fun σ5 R5 w5 => ?_
    refine k σ5 R5 fun p hp => ?_
    have := congrArg (fun l => l[p]?) (w5 is fun i h => h)
    rwa [wipe_get is σ5 p hp, wipe_get is σ' p hp] at this
  · have e : i = ds.length := by omega
    subst e
    exact .inl ⟨i2 (Nat.le_refl _), v3 _ _ _ _ w⟩
end

/-! ### the matrix -/
section
variable {K : PySem.W.Frag} {B F H H' : Hp} {O0 O : Own} {σ : L2.St} {ρ : Env}
theorem SR.growL (R : SR K B F O0 H O σ ρ) (S : Own) (s : Same H H') (n : ∀ a, S a → H a = none) (n' : ∀ a, S a → H' a ≠ none) (n2 : ∀ a xs, S a → H' a ≠ some (.tup xs)) : SR K B F O0 H' (fun b => O b ∨ S b) σ ρ where
  nt := fun b xs z => z.elim (fun z => (R.more s).nt b xs z) fun e => n2 b xs e
  len := R.len
  base := R.base.trans s
  frz := R.frz.trans fun b o h => by
    obtain ⟨h1, h2⟩ := off_some h
    exact off_of (fun z => z.elim h1 fun e => by rw [n _ e] at h2; cases h2) (s _ _ h2)
  fb := R.fb.trans fun b o h => by
    obtain ⟨h1, h2⟩ := off_some h
    exact off_of (fun z => z.elim h1 fun e => by rw [n _ e] at h2; cases h2) (s _ _ h2)
  dom := fun b z => z.elim (fun z e => R.dom b z (s.free e)) fun e => n' _ e
  dom0 := R.dom0
  sub := fun b z => .inl (R.sub b z)
  slot := fun i x e => by
    have f : Same (off O H) (off (fun b => O b ∨ S b) H') := fun b o h => by
      obtain ⟨h1, h2⟩ := off_some h
      exact off_of (fun z => z.elim h1 fun e => by rw [n _ e] at h2; cases h2) (s _ _ h2)
    obtain ⟨v, h1, h2⟩ := R.slot i x e
    refine ⟨v, h1, ?_⟩
    obtain ⟨d, k⟩ := x
    cases k with
    | fz => exact Rep.mono f h2
    | ow =>
      obtain ⟨b, eb, ob, nb, c⟩ := h2
      exact ⟨b, eb, .inl ob, nb, c.mono (fun o => s _ _) f⟩
    | bo => exact h2
    | al => exact h2
  sep := R.sep
/-- any value into a slot that is not looked at -/
theorem SR.blind (R : SR K B F O0 H O σ ρ) (i : Nat) (v : Option V) (e : ∀ x, ρ[i]? = some x → x = none) : SR K B F O0 H O (σ.set i v) ρ where
  nt := R.nt
  len := by rw [List.length_set]; exact R.len
  base := R.base
  frz := R.frz
  fb := R.fb
  dom := R.dom
  dom0 := R.dom0
  sub := R.sub
  slot := fun j y ej => by
    have c : j ≠ i := fun c => by subst c; cases e _ ej
    rw [List.getElem?_set_ne (Ne.symm c)]
    exact R.slot j y ej
  sep := fun j l y z a hjl e1 k1 e2 k2 g1 g2 => by
    have c1 : j ≠ i := fun c => by subst c; cases e _ e1
    have c2 : l ≠ i := fun c => by subst c; cases e _ e2
    rw [List.getElem?_set_ne (Ne.symm c1)] at g1
    rw [List.getElem?_set_ne (Ne.symm c2)] at g2
    exact R.sep j l y z a hjl e1 k1 e2 k2 g1 g2
structure MR (K : PySem.W.Frag) (B F : Hp) (O0 : Own) (a : Addr) (rs : List Addr) (H : Hp) (O : Own) (σ : L2.St) (ρ : Env) (m : List (List Bool)) : Prop where
  sr : SR K B F O0 H O σ ρ
  no : ∀ (j : Nat) (x : DV), ρ[j]? = some (some x) → x.2 ≠ .ow
  n1 : ρ[1]? = some none
  n5 : ρ[5]? = some none
  sl : σ[1]? = some (some (.ref a))
  oa : O a
  na : B a = none
  ha : H a = some (.lst (rs.map V.ref))
  nd : rs.Nodup
  ar : a ∉ rs
  own : ∀ r ∈ rs, O r ∧ B r = none
  len : rs.length = m.length
  rows : ∀ (k : Nat) (r : Addr), rs[k]? = some r → ∃ row, m[k]? = some row ∧ H r = some (.lst (row.map V.bl))
variable {a : Addr} {rs : List Addr} {m : List (List Bool)}
theorem MR.more (M : MR K B F O0 a rs H O σ ρ m) (s : Same H H') : MR K B F O0 a rs H' O σ ρ m :=
  ⟨M.sr.more s, M.no, M.n1, M.n5, M.sl, M.oa, M.na, s _ _ M.ha, M.nd, M.ar, M.own, M.len, fun k r e => let ⟨row, h1, h2⟩ := M.rows k r e; ⟨row, h1, s _ _ h2⟩⟩
theorem MR.reframe {F' : Hp} (M : MR K B F O0 a rs H O σ ρ m) (s : Same F' (off O H)) : MR K B F' O0 a rs H O σ ρ m :=
  ⟨M.sr.reframe s, M.no, M.n1, M.n5, M.sl, M.oa, M.na, M.ha, M.nd, M.ar, M.own, M.len, M.rows⟩
theorem MR.weaken {F' : Hp} (M : MR K B F O0 a rs H O σ ρ m) (s : Same F' F) : MR K B F' O0 a rs H O σ ρ m := M.reframe (s.trans M.sr.frz)
theorem MR.tgt {k : Nat} {d : D} {σ' : L2.St} (M : MR K B F O0 a rs H O σ ρ m) (R : SR K B F O0 H O σ' (ρ.set k (some (d, .fz)))) (e : ∀ p, p ∉ [k] → σ'[p]? = σ[p]?) (k1 : k ≠ 1) (k5 : k ≠ 5) : MR K B F O0 a rs H O σ' (ρ.set k (some (d, .fz))) m where
  sr := R
  no := fun j x h => by
    by_cases c : k = j
    · subst c
      rw [List.getElem?_set] at h
      simp only [if_true] at h
      split at h
      · cases h; exact fun z => nomatch z
      · cases h
    · rw [List.getElem?_set_ne c] at h
      exact M.no j x h
  n1 := by rw [List.getElem?_set_ne k1]; exact M.n1
  n5 := by rw [List.getElem?_set_ne k5]; exact M.n5
  sl := by rw [e 1 (by simp; exact fun z => k1 z.symm)]; exact M.sl
  oa := M.oa
  na := M.na
  ha := M.ha
  nd := M.nd
  ar := M.ar
  own := M.own
  len := M.len
  rows := M.rows
theorem MR.line (M : MR K B F O0 a rs H O σ ρ m) (v : V) : MR K B F O0 a rs H O (σ.set 5 (some v)) ρ m where
  sr := M.sr.blind 5 _ fun x h => by rw [M.n5] at h; exact (Option.some.inj h).symm
  no := M.no
  n1 := M.n1
  n5 := M.n5
  sl := by rw [List.getElem?_set_ne (by decide)]; exact M.sl
  oa := M.oa
  na := M.na
  ha := M.ha
  nd := M.nd
  ar := M.ar
  own := M.own
  len := M.len
  rows := M.rows
theorem MR.poke {k : Nat} {r : Addr} {row : List Bool} (M : MR K B F O0 a rs H O σ ρ m) (e : rs[k]? = some r) : MR K B F O0 a rs (upd H r (.lst (row.map V.bl))) O σ ρ (m.set k row) where
  sr := M.sr.writeT (M.own r (List.mem_of_getElem? e)).1 (M.own r (List.mem_of_getElem? e)).2 (fun j y h1 h2 => absurd h2 (M.no j y h1)) (fun _ z => nomatch z)
  no := M.no
  n1 := M.n1
  n5 := M.n5
  sl := M.sl
  oa := M.oa
  na := M.na
  ha := by rw [upd_ne (fun z => M.ar (by rw [z]; exact List.mem_of_getElem? e))]; exact M.ha
  nd := M.nd
  ar := M.ar
  own := M.own
  len := by rw [List.length_set]; exact M.len
  rows := fun i q eq => by
    have hi : k < m.length := by
      rw [← M.len]
      exact (List.getElem?_eq_some_iff.mp e).1
    by_cases c : k = i
    · subst c
      rw [e] at eq
      cases eq
      exact ⟨row, List.getElem?_set_self hi, upd_same⟩
    · obtain ⟨w, h1, h2⟩ := M.rows i q eq
      refine ⟨w, by rw [List.getElem?_set_ne c]; exact h1, ?_⟩
      rw [upd_ne]
      · exact h2
      · intro z
        subst z
        have i1 := (List.getElem?_eq_some_iff.mp e)
        have i2 := (List.getElem?_eq_some_iff.mp eq)
        obtain ⟨l1, z1⟩ := i1
        obtain ⟨l2, z2⟩ := i2
        exact c ((List.getElem_inj M.nd).mp (z1.trans z2.symm))
end
/-! ### what it computes -/
def farLine (j k : Nat) (row : List Bool) : List Bool := if row[j]? = some true then row.set k true else row
def farJ (k : Nat) (m : List (List Bool)) (j : Int) : List (List Bool) := (m.map (farLine j.toNat k)).set j.toNat (((m.map (farLine j.toNat k)).getD j.toNat []).set k true)
def farK (m : List (List Bool)) (k : Nat) (row : List Int) : List (List Bool) := row.foldl (farJ k) m
def farM (G : List (List Int)) : List (List Bool) := (List.range G.length).foldl (fun m k => farK m k (G.getD k [])) (List.replicate G.length (List.replicate G.length false))
def asI : List D → Option (List Int)
  | [] => some []
  | .int i :: r => (asI r).map (i :: ·)
  | _ => none
def asR : List D → Option (List (List Int))
  | [] => some []
  | .tup xs :: r => (match asI xs with | some a => (asR r).map (a :: ·) | none => none)
  | _ => none
theorem asI_eq : ∀ {ds : List D} {ns : List Int}, asI ds = some ns → ds = ns.map D.int
  | [], _, e => by cases e; rfl
  | .int i :: r, ns, e => by
    unfold asI at e
    cases q : asI r with
    | none => rw [q] at e; cases e
    | some a => rw [q] at e; cases e; rw [asI_eq q]; rfl
  | .non :: _, _, e => nomatch e
  | .bl _ :: _, _, e => nomatch e
  | .str _ :: _, _, e => nomatch e
  | .lst _ :: _, _, e => nomatch e
  | .tup _ :: _, _, e => nomatch e
  | .dk _ :: _, _, e => nomatch e
  | .dt _ :: _, _, e => nomatch e
theorem asI_ints : ∀ ns : List Int, asI (ns.map D.int) = some ns
  | [] => rfl
  | n :: r => by
    show (asI (r.map D.int)).map (n :: ·) = _
    rw [asI_ints r]
    rfl
theorem asR_eq : ∀ {ds : List D} {G : List (List Int)}, asR ds = some G → ds = G.map fun (r : List Int) => D.tup (r.map D.int)
  | [], _, e => by cases e; rfl
  | .tup xs :: r, G, e => by
    unfold asR at e
    cases q : asI xs with
    | none => simp only [q] at e; cases e
    | some a =>
      simp only [q] at e
      cases q2 : asR r with
      | none => rw [q2] at e; cases e
      | some b => rw [q2] at e; cases e; rw [asR_eq q2, asI_eq q]; rfl
  | .non :: _, _, e => nomatch e
  | .bl _ :: _, _, e => nomatch e
  | .str _ :: _, _, e => nomatch e
  | .lst _ :: _, _, e => nomatch e
  | .int _ :: _, _, e => nomatch e
  | .dk _ :: _, _, e => nomatch e
  | .dt _ :: _, _, e => nomatch e
theorem asR_rows : ∀ G : List (List Int), asR (G.map fun (r : List Int) => D.tup (r.map D.int)) = some G
  | [] => rfl
  | n :: r => by
    show (match asI (n.map D.int) with | some a => (asR (r.map fun (r : List Int) => D.tup (r.map D.int))).map (a :: ·) | none => none) = _
    rw [asI_ints n, asR_rows r]
    rfl
def mFar (ρ : Env) : SO := match ρ with
  | [some (.tup gs, .fz), none, none, none, none, none] => (match asR gs with
    | some G => if G.length ≤ 1000 ∧ ∀ r ∈ G, ∀ j ∈ r, 0 ≤ j ∧ j < (G.length : Int) then .rt (.lst ((farM G).map fun r => .lst (r.map D.bl)), .ow) else .no
    | none => .no)
  | _ => .no
def Sq (n : Nat) (m : List (List Bool)) : Prop := m.length = n ∧ ∀ r ∈ m, r.length = n
theorem farLine_len (j k : Nat) (row : List Bool) : (farLine j k row).length = row.length := by
  unfold farLine
  split
  · rw [List.length_set]
  · rfl
theorem Sq.map {n : Nat} {m : List (List Bool)} (h : Sq n m) (j k : Nat) : Sq n (m.map (farLine j k)) := ⟨by rw [List.length_map]; exact h.1, fun r hr => by
  obtain ⟨q, hq, rfl⟩ := List.mem_map.mp hr
  rw [farLine_len]
  exact h.2 q hq⟩
theorem Sq.set {n : Nat} {m : List (List Bool)} (h : Sq n m) {i : Nat} (hi : i < n) (k : Nat) : Sq n (m.set i ((m.getD i []).set k true)) := ⟨by rw [List.length_set]; exact h.1, fun r hr => by
  rcases List.mem_or_eq_of_mem_set hr with z | z
  · exact h.2 r z
  · subst z
    rw [List.length_set]
    refine h.2 _ ?_
    rw [List.getD_eq_getElem?_getD, List.getElem?_eq_getElem (by rw [h.1]; exact hi)]
    exact List.getElem_mem _⟩
theorem Sq.farJ {n : Nat} {m : List (List Bool)} (h : Sq n m) {j : Int} (h0 : 0 ≤ j) (hj : j < n) (k : Nat) : Sq n (farJ k m j) := (h.map _ _).set (by omega) k
theorem ixN_nat {n i : Nat} (h : i < n) : ixN n (i : Int) = some i := by
  unfold ixN
  rw [if_pos (Int.natCast_nonneg _), if_pos (by omega)]
  rfl
section
variable {X : Cx} {E : XK} {B F H H' : Hp} {O0 O : Own} {σ : L2.St} {ρ : Env} {a : Addr} {rs : List Addr} {m : List (List Bool)}
abbrev tPut5 : TS := tAsg (tC (.bl true)) (gSub (tVar 5) (tVar 4) rSetL)
abbrev tIf5 (K : PySem.W.Frag) : TS := tIfS (fun σ H Q => (tOp (rIxL K) (tVar 5) (tVar 2)) σ H fun x H' => ∃ k, TruV K x H' k ∧ Q k H') tPut5 tNext
abbrev tLine (K : PySem.W.Frag) : TS := tFor (iList K (tVar 1)) (L2.gName 5) (tIf5 K)
abbrev tAsg5 (K : PySem.W.Frag) : TS := tAsg (tOp (rIxL K) (tVar 1) (tVar 2)) (L2.gName 5)
theorem MR.row {K : PySem.W.Frag} (M : MR K B F O0 a rs H O σ ρ m) {i : Nat} {r : Addr} (e : rs[i]? = some r) (hi : i < m.length) : H r = some (.lst (m[i].map V.bl)) := by
  obtain ⟨row, h1, h2⟩ := M.rows i r e
  rw [List.getElem?_eq_getElem hi] at h1
  cases h1
  exact h2
theorem put_run {K : PySem.W.Frag} {k n i : Nat} {r : Addr} (M : MR K B F O0 a rs H O σ ρ m) (sq : Sq n m) (hi : i < n) (hk : k < n) (er : rs[i]? = some r) (e5 : σ[5]? = some (some (.ref r))) (e4 : σ[4]? = some (some (.int k))) (D : Ends)
    (hD : ∀ H', MR K B F O0 a rs H' O σ ρ (m.set i ((m.getD i []).set k true)) → D.nx σ H') : tPut5 D σ H := by
  have hi' : i < m.length := by rw [sq.1]; exact hi
  have hr := M.row er hi'
  have hg : m.getD i [] = m[i] := by rw [List.getD_eq_getElem?_getD, List.getElem?_eq_getElem hi']; rfl
  refine ⟨.ref r, e5, .int k, e4, r, m[i].map V.bl, k, k, rfl, rfl, hr, ixN_nat (by rw [List.length_map, sq.2 _ (List.getElem_mem hi')]; exact hk), hD _ ?_⟩
  have e : (m[i].map V.bl).set k (.bl true) = (m[i].set k true).map V.bl := by rw [List.map_set]
  rw [e, hg]
  exact M.poke er
theorem line_run {K : PySem.W.Frag} {j k n : Nat} (M : MR K B F O0 a rs H O σ ρ m) (sq : Sq n m) (hj : j < n) (hk : k < n) (e2 : σ[2]? = some (some (.int j))) (e4 : σ[4]? = some (some (.int k))) (D : Ends)
    (hD : ∀ σ' H', MR K B F O0 a rs H' O σ' ρ (m.map (farLine j k)) → σ'[2]? = some (some (.int j)) → σ'[4]? = some (some (.int k)) → D.nx σ' H') : tLine K D σ H := by
  refine ⟨.ref a, M.sl, a, rfl, ⟨_, SqL.of M.ha⟩, ?_⟩
  have hl : rs.length = n := M.len.trans sq.1
  refine for_list (xs := rs.map V.ref) (fun i σ' H' => ∃ m', m' = (m.take i).map (farLine j k) ++ m.drop i ∧ MR K B F O0 a rs H' O σ' ρ m' ∧ Sq n m' ∧ σ'[2]? = some (some (.int j)) ∧ σ'[4]? = some (some (.int k))) ⟨m, by simp, M, sq, e2, e4⟩ (fun i σ' H' _ ⟨_, _, M', _⟩ => SqL.of M'.ha) ?_ ?_
  · rintro i x σ' H' hx ⟨m', em, M', sq', e2', e4'⟩
    rw [List.getElem?_map] at hx
    cases er : rs[i]? with
    | none => rw [er] at hx; cases hx
    | some r =>
      rw [er] at hx
      cases hx
      have hi : i < n := by rw [← hl]; exact (List.getElem?_eq_some_iff.mp er).1
      have him : i < m.length := by rw [sq.1]; exact hi
      have hi' : i < m'.length := by rw [sq'.1]; exact hi
      have hr := M'.row er hi'
      have hlen := sq'.2 _ (List.getElem_mem hi')
      have M2 := M'.line (.ref r)
      have l5 : 5 < σ'.length := by
        rw [M'.sr.len]
        exact (List.getElem?_eq_some_iff.mp M'.n5).1
      have g5 : (σ'.set 5 (some (.ref r)))[5]? = some (some (.ref r)) := List.getElem?_set_self l5
      have g2 : (σ'.set 5 (some (V.ref r)))[2]? = some (some (.int j)) := by rw [List.getElem?_set_ne (by decide)]; exact e2'
      have g4 : (σ'.set 5 (some (V.ref r)))[4]? = some (some (.int k)) := by rw [List.getElem?_set_ne (by decide)]; exact e4'
      have emi : m'[i] = m[i] := by
        subst em
        rw [List.getElem_append_right (by rw [List.length_map, List.length_take]; omega)]
        simp only [List.length_map, List.length_take, List.getElem_drop]
        congr 1
        omega
      have step : (m'.set i (farLine j k m[i])) = (m.take (i + 1)).map (farLine j k) ++ m.drop (i + 1) := by
        subst em
        have e1 : ((m.take i).map (farLine j k)).length = i := by rw [List.length_map, List.length_take]; omega
        rw [List.set_append_right _ _ (by omega), e1, Nat.sub_self, List.drop_eq_getElem_cons him, List.set_cons_zero, List.take_succ_eq_append_getElem him, List.map_append, List.append_assoc]
        rfl
      refine ⟨.ref r, g5, .int j, g2, r, m'[i].map V.bl, j, .bl (m'[i][j]'(by omega)), rfl, rfl, SqL.of hr, ?_, m'[i][j]'(by omega), rfl, ?_⟩
      · unfold atI
        rw [ixN_nat (by rw [List.length_map]; omega)]
        show (m'[i].map V.bl)[j]? = _
        rw [List.getElem?_map, List.getElem?_eq_getElem (by omega)]
        rfl
      · have hfl : farLine j k m[i] = if m'[i][j]'(by omega) = true then m'[i].set k true else m'[i] := by
          unfold farLine
          rw [← emi, List.getElem?_eq_getElem (by omega)]
          by_cases c : m'[i][j]'(by omega) = true
          · rw [if_pos c, if_pos (by rw [c])]
          · rw [if_neg c, if_neg (fun z => c (Option.some.inj z))]
        by_cases c : m'[i][j]'(by omega) = true
        · show (if _ = true then _ else _)
          rw [if_pos c]
          rw [if_pos c] at hfl
          refine put_run M2 sq' hi hk er g5 g4 _ fun H2 M3 => ⟨_, ?_, M3, sq'.set hi k, g2, g4⟩
          rw [List.getD_eq_getElem?_getD, List.getElem?_eq_getElem hi']
          show m'.set i (m'[i].set k true) = _
          rw [← hfl, step]
        · show (if _ = true then _ else _)
          rw [if_neg c]
          rw [if_neg c] at hfl
          refine ⟨m', ?_, M2, sq', g2, g4⟩
          rw [← step, hfl, List.set_getElem_self]
  · rintro σ' H' ⟨m', em, M', sq', e2', e4'⟩
    have : m' = m.map (farLine j k) := by
      rw [em, List.length_map, hl, ← sq.1, List.take_length, List.drop_length, List.append_nil]
    subst this
    exact hD σ' H' M' e2' e4'
theorem MR.int {K : PySem.W.Frag} (M : MR K B F O0 a rs H O σ ρ m) {p : Nat} {i : Int} (e : ρ[p]? = some (some (.int i, .fz))) : σ[p]? = some (some (.int i)) := by
  obtain ⟨v, h1, h2⟩ := M.sr.slot p _ e
  cases (show Rep _ _ _ _ from h2)
  exact h1
theorem RepL.bools {K : PySem.W.Frag} {H : Hp} : ∀ bs : List Bool, RepL K H (bs.map V.bl) (bs.map D.bl)
  | [] => .nil
  | _ :: r => .cons (.bl _) (RepL.bools r)
theorem repL_of {K : PySem.W.Frag} {H : Hp} : ∀ (vs : List V) (ds : List D), vs.length = ds.length → (∀ (i : Nat) (v : V) (d : D), vs[i]? = some v → ds[i]? = some d → Rep K H v d) → RepL K H vs ds
  | [], [], _, _ => .nil
  | [], _ :: _, e, _ => nomatch e
  | _ :: _, [], e, _ => nomatch e
  | v :: vs, d :: ds, e, h => .cons (h 0 v d rfl rfl) (repL_of vs ds (Nat.succ.inj e) fun i v' d' h1 h2 => h (i + 1) v' d' (by simpa using h1) (by simpa using h2))
abbrev pIn : Env → R DV := mLc (mItems (dVar 0)) (FK.gName 2) kTrue (kBl false) [2]
theorem lcM_false (ρ : Env) : ∀ ds : List D, lcM (FK.gName 2) kTrue (kBl false) ds ρ = .ok ((List.replicate ds.length false).map D.bl)
  | [] => rfl
  | d :: ds => by
    unfold lcM
    simp only [R.quiet, R.bind_ok, if_true, keep1, lcM_false ρ ds]
    rfl
theorem pIn_eq {gs : List D} {x : Option DV} (h : gs.length ≤ 1000) : pIn [some (.tup gs, .fz), none, none, x, none, none] = .ok (.lst ((List.replicate gs.length false).map D.bl), .ow) := by
  show (if gs.length ≤ sizeLine then (lcM (FK.gName 2) kTrue (kBl false) gs _).bind fun r => FK.R.ok (D.lst r, Kd.ow) else .no) = _
  have : (1000 : Nat) ≤ sizeLine := by decide
  rw [if_pos (by omega), lcM_false]
  rfl
abbrev E6 (gs : List D) : Env := [some (.tup gs, .fz), none, none, none, none, none]
theorem mat_run {wi : TI} (a2 : ∀ (B F : Hp) (O0 : Own) (H : Hp) (O : Own) (σ : L2.St) (ρ : Env), SR X.K B F O0 H O σ ρ → EvG X.K X.mg O E H (mItems (dVar 0) ρ) (fun x J H' => ItOk X.K (off O H') (srcH B O H' x.2) J x.1) (wi σ H))
    {gs : List D} (hz : gs.length ≤ 1000) (R : SR X.K B F O0 H O σ (E6 gs)) (D : Ends)
    (hD : ∀ σ' H' O' a rs, MR X.K B F O0 a rs H' O' σ' (E6 gs) (List.replicate gs.length (List.replicate gs.length false)) → D.nx σ' H') :
    tAsg (tLc wi (cG X.K [3] (FK.gName 3)) (cTT X.K kTrue) (cT X.K pIn) [3]) (L2.gName 1) D σ H := by
  have e0 := a2 B F O0 H O σ _ R
  have ev : mItems (dVar 0) (E6 gs) = .ok (gs, .fz) := rfl
  rw [ev] at e0
  refine e0 _ fun J H1 s1 it p hp => ?_
  dsimp only at it
  have R1 := R.more s1
  have np : ¬ O p := fun z => R1.dom p z hp
  have hsz : (1000 : Nat) < sizeLine := by decide
  refine ⟨fun i mm H' => mm = gs.length - i ∧ i ≤ gs.length ∧ Same H1 H' ∧ ∃ rs : List Addr, rs.length = i ∧ H' p = some (.lst (rs.map V.ref)) ∧ rs.Nodup ∧ ∀ r ∈ rs, H1 r = none ∧ r ≠ p ∧ H' r = some (.lst ((List.replicate gs.length false).map V.bl)),
    ⟨gs.length, by omega, Nat.zero_le _, same_upd hp, [], rfl, upd_same, .nil, fun r h => nomatch h⟩, ?_⟩
  rintro i mm H' ⟨rfl, hi, sH, rs, hl, hacc, hnd, hrs⟩
  have R' : SR X.K B F O0 H' (plus O p) σ (E6 gs) := R1.grow sH hp (by rw [hacc]; exact fun z => nomatch z) (by rw [hacc]; exact fun _ z => nomatch z)
  obtain ⟨i1, i2, i3⟩ := it i H' (off_sub.trans sH)
  by_cases hlt : i < gs.length
  · refine .inr ⟨i1 hlt, fun H' => Same H1 H' ∧ ∃ rs : List Addr, rs.length = i + 1 ∧ H' p = some (.lst (rs.map V.ref)) ∧ rs.Nodup ∧ ∀ r ∈ rs, H1 r = none ∧ r ≠ p ∧ H' r = some (.lst ((List.replicate gs.length false).map V.bl)),
      fun H' h => ⟨gs.length - (i + 1), by omega, rfl, hlt, h⟩, fun v H4 y => ?_⟩
    obtain ⟨s4, r4⟩ := i3 v H4 gs[i] y (List.getElem?_eq_getElem hlt)
    have fS : Same (off O H1) (off (plus O p) H') := (off_plus_new hp).trans (off_mono sH)
    have R4 : SR X.K B F O0 H4 (plus O p) (wipe σ [3]) (E6 gs) := (R'.more s4).wipe [3]
    refine ⟨B, F, O0, plus O p, E6 gs, _, gs[i], R4, r4 _ R'.dom fS, rfl, fun σ5 R5 w5 => ⟨?_, ?_⟩⟩
    · rw [w5 [3] (by simp)]
      show (σ.set 3 none).set 3 none = σ.set 3 none
      rw [List.set_set]
    · refine ⟨B, F, O0, plus O p, _, true, R5, rfl, fun H5 s5 => ?_⟩
      show (if true = true then _ else _)
      rw [if_pos rfl]
      refine ⟨B, F, O0, plus O p, _, _, R5.more s5, pIn_eq hz, fun y H6 s6 o => ?_⟩
      obtain ⟨r, rfl, nr, or, vs, hvs, rvs⟩ := o
      have hv := RepL.of_bools rvs
      subst hv
      have p4 : H5 p = some (.lst (rs.map V.ref)) := s5 _ _ (s4 _ _ hacc)
      have p6 : H6 p = some (.lst (rs.map V.ref)) := s6 _ _ p4
      have rp : r ≠ p := fun z => by subst z; rw [nr] at p4; cases p4
      refine ⟨_, p6, by rw [List.length_map]; omega, ?_, rs ++ [r], by rw [List.length_append, hl]; rfl, ?_, ?_, ?_⟩
      · intro b o eb
        rw [upd_ne (ne_of_none eb hp)]
        exact s6 _ _ (s5 _ _ (s4 _ _ (sH _ _ eb)))
      · rw [upd_same, List.map_append]
        rfl
      · refine List.nodup_append.mpr ⟨hnd, by simp, fun x hx z hz e => ?_⟩
        have : z = r := by simpa using hz
        subst this
        subst e
        have := s5 _ _ (s4 _ _ (hrs x hx).2.2)
        rw [nr] at this
        cases this
      · intro q hq
        rcases List.mem_append.mp hq with z | z
        · refine ⟨(hrs q z).1, (hrs q z).2.1, ?_⟩
          rw [upd_ne (hrs q z).2.1]
          exact s6 _ _ (s5 _ _ (s4 _ _ (hrs q z).2.2))
        · have : q = r := by simpa using z
          subst this
          refine ⟨sH.free (s4.free (s5.free nr)), rp, ?_⟩
          rw [upd_ne rp]
          exact hvs
  · have e : i = gs.length := by omega
    subst e
    refine .inl ⟨i2 (Nat.le_refl _), ?_⟩
    refine hD _ H' (fun b => O b ∨ (b = p ∨ b ∈ rs)) p rs ⟨?_, ?_, rfl, rfl, ?_, .inr (.inl rfl), R1.base.free hp, hacc, hnd, fun z => (hrs p z).2.1 rfl, fun r hr => ⟨.inr (.inr hr), R1.base.free (hrs r hr).1⟩, by rw [hl, List.length_replicate], fun k r e => ?_⟩
    · refine (R1.growL (fun b => b = p ∨ b ∈ rs) sH ?_ ?_ ?_).blind 1 _ fun x h => ?_
      · rintro b (rfl | h)
        · exact hp
        · exact (hrs b h).1
      · rintro b (rfl | h)
        · rw [hacc]; exact fun z => nomatch z
        · rw [(hrs b h).2.2]; exact fun z => nomatch z
      · rintro b xs (rfl | h)
        · rw [hacc]; exact fun z => nomatch z
        · rw [(hrs b h).2.2]; exact fun z => nomatch z
      · cases h
        rfl
    · intro j x h
      match j, h with
      | 0, h => cases h; exact fun z => nomatch z
      | 1, h => cases h
      | 2, h => cases h
      | 3, h => cases h
      | 4, h => cases h
      | 5, h => cases h
    · exact List.getElem?_set_self (by rw [R.len]; exact (by decide : 1 < 6))
    · have hk : k < gs.length := by rw [← hl]; exact (List.getElem?_eq_some_iff.mp e).1
      exact ⟨List.replicate gs.length false, List.getElem?_replicate_of_lt hk, (hrs r (List.mem_of_getElem? e)).2.2⟩
theorem foldl_range_succ {α : Type} (f : α → Nat → α) (a : α) (n : Nat) : (List.range (n + 1)).foldl f a = f ((List.range n).foldl f a) n := by
  rw [List.range_succ, List.foldl_append]
  rfl
theorem farK_sq {n : Nat} (k : Nat) : ∀ {row : List Int} {m : List (List Bool)}, Sq n m → (∀ j ∈ row, 0 ≤ j ∧ j < (n : Int)) → Sq n (farK m k row)
  | [], _, h, _ => h
  | j :: r, _, h, hr => farK_sq k (row := r) (h.farJ (hr j List.mem_cons_self).1 (hr j List.mem_cons_self).2 k) fun x hx => hr x (List.mem_cons_of_mem _ hx)
theorem farK_take {k i : Nat} {row : List Int} {m : List (List Bool)} {j : Int} (h : row[i]? = some j) : farK m k (row.take (i + 1)) = farJ k (farK m k (row.take i)) j := by
  obtain ⟨hi, rfl⟩ := List.getElem?_eq_some_iff.mp h
  rw [List.take_succ_eq_append_getElem hi]
  unfold farK
  rw [List.foldl_append]
  rfl
theorem getD_lt {α : Type} (d : α) {xs : List α} {i : Nat} (h : i < xs.length) : xs.getD i d = xs[i] := by rw [List.getD_eq_getElem?_getD, List.getElem?_eq_getElem h]; rfl
theorem rg1_nat1 (n : Nat) (h : n < 2 ^ 60) : rg1 (.int n, .fz) = .ok (rangeL 0 1 n, .fz) := by
  have e : (-(2 ^ 62) : Int) ≤ n ∧ (n : Int) < 2 ^ 62 := by constructor <;> omega
  simp only [rg1, e, and_self, if_true, Int.toNat_natCast]
structure MatS (X : Cx) (tg iter : Expr) (s1 : Stmt) (is : List Nat) (f : FK.D → Env → Option Env) (pt : Env → FK.R Bool) (pe : Env → FK.R DV) (vs : List Nat) (i : Nat) : Prop where
  ex : ∀ wi, PI X tg iter wi → PS X s1 (tAsg (tLc wi (cG X.K is f) (cTT X.K pt) (cT X.K pe) vs) (L2.gName i))
theorem far_rule {s1 sL sA sP : Stmt} {tgA iterA tgK iterK tgJ iterJ eR : Expr} {posJ posK posR : Pos} (hp : PassesOwn (model X.prog X.w) X.A X.env X.xe) (hc : X.calm = true)
    (hiA : DI X E tgA iterA (mItems (dVar 0))) (h1 : MatS X tgA iterA s1 [3] (FK.gName 3) kTrue pIn [3] 1)
    (hL : PS X sL (tLine X.K)) (hS : PS X sA (tAsg5 X.K)) (hP : PS X sP tPut5)
    (hiK : DI X E tgK iterK (mRg1 (dCB (one gLen) (aCons (dVar 0) aNil)))) (hgK : DG X tgK [4] (FK.gName 4)) (hiJ : DI X E tgJ iterJ (mItems (dBin ixD (dVar 0) (dVar 4)))) (hgJ : DG X tgJ [2] (FK.gName 2))
    (hR : PE X eR (tVar 1))
    (fK : ∀ x, foldedSetIterable iterK X.env x = pure x := by intro _; rfl) (fJ : ∀ x, foldedSetIterable iterJ X.env x = pure x := by intro _; rfl) :
    DSs X E [s1, .For tgK iterK [.For tgJ iterJ [sL, sA, sP] [] posJ] [] posK, .Return (some eR) posR] mFar := by
  obtain ⟨wi, a1, a2⟩ := hiA.ex
  obtain ⟨TJ, j1, j2⟩ := for_any (pos := posJ) hp hc hiJ hgJ (pss_cons hL (pss_cons hS (pss_one hP))) fJ
  obtain ⟨TK, k1, k2⟩ := for_any (pos := posK) hp hc hiK hgK (pss_one j1) fK
  refine ⟨_, pss_cons (h1.ex wi a1) (pss_cons k1 (pss_one (ps_ret hR))), fun B F O0 H O σ ρ D R h => ?_⟩
  unfold mFar at h
  split at h
  · rename_i gs
    split at h
    · rename_i G hG
      split at h
      · rename_i hok
        obtain ⟨hz, hrow⟩ := hok
        have egs := asR_eq hG
        have hlen : gs.length = G.length := by rw [egs, List.length_map]
        refine mat_run a2 (by rw [hlen]; exact hz) R _ fun σ1 H1 O1 a rs M => ?_
        rw [hlen] at M
        show TK { D with nx := tRet (tVar 1) D } σ1 H1
        have evK : mRg1 (dCB (one gLen) (aCons (dVar 0) aNil)) (E6 gs) = .ok (rangeL 0 1 G.length, .fz) := by
          have el : dCB (one gLen) (aCons (dVar 0) aNil) (E6 gs) = .ok (.int gs.length, .fz) := rfl
          show (dCB (one gLen) (aCons (dVar 0) aNil) (E6 gs)).bind rg1 = _
          rw [el, FK.R.bind_ok, hlen]
          exact rg1_nat1 G.length (by omega)
        refine k2 B F O0 H1 O1 σ1 _ _ _ .fz M.sr evK (by decide) fun H2 s2 => ?_
        have hrl : (rangeL 0 1 G.length).length = G.length := by simp [rangeL]
        refine ⟨fun i σ' H' O' ρ' => i ≤ G.length ∧ ∃ m, MR X.K B (off O1 H2) O0 a rs H' O' σ' ρ' m ∧ Sq G.length m ∧ ρ'[0]? = some (some (.tup gs, .fz)) ∧ 4 < ρ'.length ∧ m = (List.range i).foldl (fun m k => farK m k (G.getD k [])) (List.replicate G.length (List.replicate G.length false)),
          fun i σ' H' O' ρ' ⟨_, m, M', _⟩ => M'.sr, ⟨Nat.zero_le _, _, (M.more s2).reframe (Same.refl _), ⟨by rw [List.length_replicate], fun r hr => by rw [(List.mem_replicate.mp hr).2, List.length_replicate]⟩, rfl, (by decide : 4 < 6), rfl⟩, ?_, ?_⟩
        · rintro σ' H' O' ρ' ⟨_, m, M', sq', _, _, em⟩
          rw [hrl] at em
          have em : m = farM G := em
          subst em
          refine ⟨.ref a, M'.sl, h _ H' M'.sr.base ⟨a, rfl, M'.na, rs.map V.ref, M'.ha, ?_⟩⟩
          refine repL_of _ _ (by rw [List.length_map, List.length_map]; exact M'.len) fun i v d h1 h2 => ?_
          rw [List.getElem?_map] at h1 h2
          cases er : rs[i]? with
          | none => rw [er] at h1; cases h1
          | some r =>
            rw [er] at h1
            cases h1
            obtain ⟨row, e1, e2⟩ := M'.rows i r er
            rw [e1] at h2
            cases h2
            have hm := List.mem_of_getElem? er
            refine .lst (SqL.of (off_of ?_ e2)) (RepL.bools _)
            rintro (z | z)
            · exact M'.sr.dom0 r z (M'.own r hm).2
            · subst z; exact M'.ar hm
        · rintro i d σ' H' O' ρ' H4 ed ⟨hi, m, M', sq', g0, l4, em⟩ s4
          have hi' : i < G.length := by rw [← hrl]; exact (List.getElem?_eq_some_iff.mp ed).1
          have edd : d = .int i := by
            unfold rangeL at ed
            rw [List.getElem?_map, List.getElem?_range hi'] at ed
            have := Option.some.inj ed
            rw [← this]
            simp
          subst edd
          refine ⟨_, rfl, fun σ5 R5 w5 => ?_⟩
          have M5 := (M'.more s4).tgt R5 w5 (by decide) (by decide)
          have g4 : (ρ'.set 4 (some (FK.D.int i, Kd.fz)))[4]? = some (some (.int i, .fz)) := List.getElem?_set_self l4
          have g0' : (ρ'.set 4 (some (FK.D.int i, Kd.fz)))[0]? = some (some (.tup gs, .fz)) := by rw [List.getElem?_set_ne (by decide)]; exact g0
          have evJ : mItems (dBin ixD (dVar 0) (dVar 4)) (ρ'.set 4 (some (FK.D.int i, Kd.fz))) = .ok (G[i].map FK.D.int, .fz) := by
            show (((dVar 0 _).bind fun x => (dVar 4 _).bind fun y => ixD x y).bind itemsD) = _
            unfold dVar
            rw [g0', g4]
            show ((ixD (.tup gs, .fz) (.int i, .fz)).bind itemsD) = _
            unfold ixD atI
            dsimp only
            rw [ixN_nat (by rw [hlen]; exact hi')]
            dsimp only [Option.bind_some]
            rw [egs, List.getElem?_map, List.getElem?_eq_getElem hi']
            rfl
          have hrw := hrow _ (List.getElem_mem hi')
          refine j2 B _ O0 H4 O' σ5 _ _ _ .fz M5.sr evJ (by decide) fun H6 s6 => ?_
          refine ⟨fun i' σ' H' O'' ρ'' => i' ≤ G[i].length ∧ ∃ m', MR X.K B (off O' H6) O0 a rs H' O'' σ' ρ'' m' ∧ Sq G.length m' ∧ ρ''[0]? = some (some (.tup gs, .fz)) ∧ ρ''[4]? = some (some (.int i, .fz)) ∧ 2 < ρ''.length ∧ m' = farK m i (G[i].take i'),
            fun i' σ' H' O'' ρ'' ⟨_, m', M'', _⟩ => M''.sr, ⟨Nat.zero_le _, m, (M5.more s6).reframe (Same.refl _), sq', g0', g4, by rw [List.length_set]; omega, rfl⟩, ?_, ?_⟩
          · rintro σ7 H7 O7 ρ7 ⟨_, m', M7, sq7, f0, f4, l7, em7⟩
            rw [List.length_map, List.take_length] at em7
            refine ⟨O7, ρ7, hi', m', M7.weaken (M5.sr.frz.trans (off_mono s6)), sq7, f0, (List.getElem?_eq_some_iff.mp f4).1, ?_⟩
            rw [foldl_range_succ, ← em, em7, getD_lt [] hi']
          · rintro i' d σ7 H7 O7 ρ7 H8 ed7 ⟨hi7, m', M7, sq7, f0, f4, l7, em7⟩ s8
            rw [List.getElem?_map] at ed7
            cases ej : G[i][i']? with
            | none => rw [ej] at ed7; cases ed7
            | some j =>
              rw [ej] at ed7
              cases ed7
              have hj := hrw j (List.mem_of_getElem? ej)
              refine ⟨_, rfl, fun σ9 R9 w9 => ?_⟩
              have M9 := (M7.more s8).tgt R9 w9 (by decide) (by decide)
              have ejn : j = ((j.toNat : Nat) : Int) := by omega
              have x2 : (ρ7.set 2 (some (FK.D.int j, Kd.fz)))[2]? = some (some (.int j, .fz)) := List.getElem?_set_self l7
              have x4 : (ρ7.set 2 (some (FK.D.int j, Kd.fz)))[4]? = some (some (.int i, .fz)) := by rw [List.getElem?_set_ne (by decide)]; exact f4
              have y2 := M9.int x2
              have y4 := M9.int x4
              rw [ejn] at y2
              have hjn : j.toNat < G.length := by omega
              refine line_run M9 sq7 hjn hi' y2 y4 _ fun σA HA MA z2 z4 => ?_
              have sqA := sq7.map j.toNat i
              have hrs : j.toNat < rs.length := by rw [MA.len, sqA.1]; exact hjn
              refine ⟨.ref a, MA.sl, .int j.toNat, z2, a, rs.map V.ref, j.toNat, .ref rs[j.toNat], rfl, rfl, SqL.of MA.ha, ?_, ?_⟩
              · unfold atI
                rw [ixN_nat (by rw [List.length_map]; exact hrs)]
                show (rs.map V.ref)[j.toNat]? = _
                rw [List.getElem?_map, List.getElem?_eq_getElem hrs]
                rfl
              · have MB := MA.line (.ref rs[j.toNat])
                have lA : 5 < σA.length := by rw [MA.sr.len]; exact (List.getElem?_eq_some_iff.mp MA.n5).1
                refine put_run MB sqA hjn hi' (List.getElem?_eq_getElem hrs) (List.getElem?_set_self lA) (by rw [List.getElem?_set_ne (by decide)]; exact z4) _ fun HC MC => ?_
                refine ⟨O7, _, (List.getElem?_eq_some_iff.mp ej).1, _, MC, sqA.set hjn i, by rw [List.getElem?_set_ne (by decide)]; exact f0, x4, by rw [List.length_set]; exact l7, ?_⟩
                rw [farK_take ej, ← em7]
                rfl
      · exact h.elim
    · exact h.elim
  · exact h.elim
theorem mat_asg {tg iter elt : Expr} {pos : Pos} (i : Nat) {y : Str} {py : Pos} {spos : Pos} {ifs : List Expr} {scope : Scope} {own : List (Str × Nat)} {is : List Nat} {f : FK.D → Env → Option Env} {pt : Env → FK.R Bool} {pe : Env → FK.R DV} (hc : X.calm = true) (hN : X.N.Nodup) (hy : X.N[i]? = some y) (hyl : X.env.scope.names.lookup y = some .local)
    (hsw : swapsWith (.ListComp elt [⟨tg, iter, ifs, 0⟩] scope pos) (some (.Name y py)) spos.line X.env = pure true) (ok : BlkOk X.N X.env.scope scope own)
    (hg : ∀ (s : Shared) (H : Hp) (C : Addr) (cl : List (Str × Addr)) (fp : List Addr), DG (X.blk s H scope (compEnvC scope cl C X.env) fp) tg is f)
    (ht : ∀ (s : Shared) (H : Hp) (C : Addr) (cl : List (Str × Addr)) (fp : List Addr), DTs (X.blk s H scope (compEnvC scope cl C X.env) fp) FK.E0 ifs pt)
    (he : ∀ (s : Shared) (H : Hp) (C : Addr) (cl : List (Str × Addr)) (fp : List Addr), DE (X.blk s H scope (compEnvC scope cl C X.env) fp) FK.E0 elt pe) (hs : ∀ x, foldedSetIterable iter X.env x = pure x := by intro _; rfl) :
    MatS X tg iter (.Assign [.Name y py] (.ListComp elt [⟨tg, iter, ifs, 0⟩] scope pos) spos) is f pt pe (own.map (·.2)) i :=
  ⟨fun wi a1 => ps_setLc hc hN hy hyl hsw a1 ok (g := cG X.K is f) (tt := cTT X.K pt) (te := cT X.K pe) (fun s H C cl fp => (hg s H C cl fp).canon) (fun s H C cl fp => (ht s H C cl fp).ex) (fun s H C cl fp => (he s H C cl fp).canon) hs⟩
end
end FK
namespace FK
open PySem PySem.Spec L2
open PyProof.Rows hiding St
/-! FX8: keys that are tuples; tuple(range(n)); xs[::-1]; name = [.. two fors]. -/
def kT (k : List Key) : D := .tup (k.map kD)
theorem RepL.kTs {K : PySem.W.Frag} {H : Hp} : ∀ k : List Key, RepL K H (k.map kV) (k.map kD)
  | [] => .nil
  | x :: r => .cons (kD_rep x) (RepL.kTs r)
theorem RepT.same {K : PySem.W.Frag} {H : Hp} : ∀ {vs : List (List Key × V)} {ds : List (List Key × D)}, RepT K H vs ds → vs.map (·.1) = ds.map (·.1)
  | _, _, .nil => rfl
  | _, _, .cons a b => by
    rw [List.map_cons, List.map_cons, RepT.same b]
/-- the objects of the keys -/
theorem keysRep {K : PySem.W.Frag} {H : Hp} {G : Hp} (sub : ∀ (b : Addr) (k : List Key), H b = some (.tup (k.map kV)) → G b = some (.tup (k.map kV))) : ∀ {vs : List (List Key × V)} {bs : List Addr}, IsKeys H vs bs → RepL K G (bs.map V.ref) (vs.map fun kv => kT kv.1)
  | [], [], _ => .nil
  | _ :: _, _ :: _, .cons a b => .cons (.tup (sub _ _ a) (RepL.kTs _)) (keysRep sub b)
section
variable {X : Cx} {E : XK} {e a : Expr} {p : Env → R DV} {pos pp : Pos}
def gListT (x : DV) : R DV := match x.1 with
  | .dt kvs => .ok (.lst (kvs.map fun kv => kT kv.1), .ow)
  | _ => .no
abbrev mListT (p : Env → R DV) : Env → R DV := fun ρ => (p ρ).bind gListT
theorem de_listT (hc : X.calm = true) (hg : Gl X "list") (hm : X.mg "list" = none) (hv : bootBuiltins "list" = some (.type "list")) (ha : DE X E e p)
    (he : starEach [e] X.env = (false, eval e X.env) :: starEach [] X.env := by rfl) (hpl : (backTo pos (starEach [] X.env)).any (·.1) = false := by rfl) : DE X E (.Call (.Name "list" pp) [e] [] pos) (mListT p) := by
  obtain ⟨t, h1, h2⟩ := ha.ex
  refine ⟨_, pe_callTy (call_list_dT hc) hg hm hv (pa_cons h1 pa_nil he) (by decide) (by decide) he hpl, fun B F O0 H O σ ρ R => ?_⟩
  refine EvG.bind (T1 := fun (v : V) (H1 : Hp) (Q : VK) => ∃ (d : Addr) (kvs : List (List Key × V)), [v] = [V.ref d] ∧ Rd H1 d (.dT kvs) ∧ ∀ (p : Addr) (bs : List Addr), H1 p = none → IsKeys H1 kvs bs → Q (.ref p) (upd H1 p (.lst (bs.map V.ref)))) (h2 B F O0 H O σ ρ R) fun x v H1 s1 r1 => ?_
  have R1 := R.more s1
  obtain ⟨d, kk⟩ := x
  cases d <;> first | exact True.intro | skip
  rename_i kvs
  obtain ⟨a, vs, rfl, q1, q2⟩ := r1.dt
  intro Q hQ
  refine ⟨a, vs, rfl, .inl q1, fun p bs hp hk => ?_⟩
  have np : ¬ O p := fun z => R1.dom p z hp
  refine hQ _ _ (same_upd hp) ⟨p, rfl, s1.free hp, np, bs.map V.ref, upd_same, ?_⟩
  have e : kvs.map (fun kv => kT kv.1) = vs.map fun kv => kT kv.1 := by
    have := congrArg (List.map kT) q2.same
    rw [List.map_map, List.map_map] at this
    exact this.symm
  rw [e]
  refine keysRep (fun b k hb => ?_) hk
  refine off_of (fun z => z.elim (fun z => R1.nt b _ z hb) fun z => by subst z; rw [hp] at hb; cases hb) ?_
  rw [upd_ne (fun z => by subst z; rw [hp] at hb; cases hb)]
  exact hb
/-! tuple(range(n)) -/
def trg1 (x : DV) : R DV := match x.1 with
  | .int j => if 0 ≤ j ∧ j ≤ 16777216 then .ok (.tup (rangeL 0 1 j.toNat), .fz) else .no
  | _ => .no
abbrev mTrg1 (p : Env → R DV) : Env → R DV := fun ρ => (p ρ).bind trg1
theorem de_tupRg1 {pos2 : Pos} {pp2 : Pos} (hc : X.calm = true) (hg2 : Gl X "tuple") (hm2 : X.mg "tuple" = none) (hg : Gl X "range") (hm : X.mg "range" = none) (ha : DE X E e p)
    (na : starEach [e] X.env = (false, eval e X.env) :: starEach [] X.env := by rfl) (na2 : starEach [.Call (.Name "range" pp) [e] [] pos] X.env = (false, eval (.Call (.Name "range" pp) [e] [] pos) X.env) :: starEach [] X.env := by rfl) :
    DE X E (.Call (.Name "tuple" pp2) [.Call (.Name "range" pp) [e] [] pos] [] pos2) (mTrg1 p) := by
  obtain ⟨t, h1, h2⟩ := ha.ex
  refine ⟨_, pe_tupRg hc hg2 hm2 (prg_1 hg hm h1 na) na2, fun B F O0 H O σ ρ R => ?_⟩
  refine EvG.bind (T1 := fun x H1 Q => ∃ n, x = .int n ∧ RgOk 0 n ∧ ∀ q, H1 q = none → Q (V.ref q) (upd H1 q (.tup (rgV 0 n)))) (h2 B F O0 H O σ ρ R) fun x v H1 s1 r1 => ?_
  obtain ⟨d, kk⟩ := x
  cases d <;> first | exact True.intro | skip
  rename_i j
  obtain rfl := r1.int
  unfold trg1
  dsimp only
  split
  · rename_i c
    refine fun Q hQ => ⟨j, rfl, RgOk.of_le (Int.le_refl _) c.2 (by omega) c.1, ?_⟩
    exact ev_tup (mg := X.mg) (E := E) (B := B) (O0 := O0) (H := H1) (R.more s1).dom (repl_rg j) Q fun v' H' s' o => hQ v' H' s' (Out.mono o s1 (Same.refl _))
  · trivial
/-! xs[::-1] -/
def revL (x : DV) : R DV := match x.1 with
  | .lst xs => .ok (.lst xs.reverse, .ow)
  | _ => .no
abbrev mRevL (p : Env → R DV) : Env → R DV := fun ρ => (p ρ).bind revL
theorem de_revL {k : Nat} {p1 p2 p3 : Pos} (ha : DE X E a p) : DE X E (.Subscript a (.Slice none none (some (.UnaryOp .USub (.Constant (.int 1) k p1) p2)) p3) pos) (mRevL p) := by
  obtain ⟨t, h1, h2⟩ := ha.ex
  refine ⟨_, pe_revL h1, fun B F O0 H O σ ρ R => ?_⟩
  refine EvG.bind (T1 := fun (x : V) (H1 : Hp) (Q : VK) => ∃ (a : Addr) (xs : List V), x = V.ref a ∧ SqL X.K H1 a xs ∧ ∀ p, H1 p = none → Q (.ref p) (upd H1 p (.lst xs.reverse))) (h2 B F O0 H O σ ρ R) fun x v H1 s1 r1 => ?_
  obtain ⟨d, kk⟩ := x
  cases d <;> first | exact True.intro | skip
  obtain ⟨a, vs, rfl, q1, q2⟩ := r1.lst
  exact fun Q hQ => ⟨a, vs, rfl, q1, ev_lst (mg := X.mg) (E := E) (R.more s1).dom q2.reverse Q fun v H' s' r => hQ v H' s' (r.mono s1 (Same.refl _))⟩
end
section
variable {X : Cx} {E : XK} {tg iter tg1 iter1 elt : Expr} {is is1 : List Nat} {f f1 : D → Env → Option Env} {pt pt1 : Env → R Bool} {q1 : Env → R (List D × Kd)} {pe : Env → R DV} {pos : Pos}
theorem ds_setLc2 (i : Nat) {y : Str} {py : Pos} {spos : Pos} {ifs ifs1 : List Expr} {scope : Scope} {own : List (Str × Nat)} {vs1 : List Nat} {q : Env → R (List D × Kd)} (hc : X.calm = true) (hN : X.N.Nodup) (hy : X.N[i]? = some y) (hyl : X.env.scope.names.lookup y = some .local)
    (hsw : swapsWith (.ListComp elt [⟨tg, iter, ifs, 0⟩, ⟨tg1, iter1, ifs1, 0⟩] scope pos) (some (.Name y py)) spos.line X.env = pure true) (hi : DI X E tg iter q) (ok : BlkOk X.N X.env.scope scope own) (his : ∀ i ∈ is, i ∈ own.map (·.2)) (his1 : ∀ i ∈ is1, i ∈ vs1) (hv : ∀ i ∈ vs1, i ∈ own.map (·.2)) (tk : TgOk is f)
    (hg : ∀ (s : Shared) (H : Hp) (C : Addr) (cl : List (Str × Addr)) (fp : List Addr), DG (X.blk s H scope (compEnvC scope cl C X.env) fp) tg is f)
    (ht : ∀ (s : Shared) (H : Hp) (C : Addr) (cl : List (Str × Addr)) (fp : List Addr), DTs (X.blk s H scope (compEnvC scope cl C X.env) fp) FK.E0 ifs pt)
    (hi1 : ∀ (s : Shared) (H : Hp) (C : Addr) (cl : List (Str × Addr)) (fp : List Addr), DI (X.blk s H scope (compEnvC scope cl C X.env) fp) FK.E0 tg1 iter1 q1)
    (hg1 : ∀ (s : Shared) (H : Hp) (C : Addr) (cl : List (Str × Addr)) (fp : List Addr), DG (X.blk s H scope (compEnvC scope cl C X.env) fp) tg1 is1 f1)
    (ht1 : ∀ (s : Shared) (H : Hp) (C : Addr) (cl : List (Str × Addr)) (fp : List Addr), DTs (X.blk s H scope (compEnvC scope cl C X.env) fp) FK.E0 ifs1 pt1)
    (he : ∀ (s : Shared) (H : Hp) (C : Addr) (cl : List (Str × Addr)) (fp : List Addr), DE (X.blk s H scope (compEnvC scope cl C X.env) fp) FK.E0 elt pe) (hs : ∀ x, foldedSetIterable iter X.env x = pure x := by intro _; rfl) (hs1 : ∀ env x, foldedSetIterable iter1 env x = pure x := by intro _ _; rfl) :
    DS X E (.Assign [.Name y py] (.ListComp elt [⟨tg, iter, ifs, 0⟩, ⟨tg1, iter1, ifs1, 0⟩] scope pos) spos) (sSet i (mLc2 q f pt q1 f1 pt1 pe (own.map (·.2)) vs1)) := by
  obtain ⟨wi, a1, a2⟩ := hi.ex
  refine ⟨_, ps_setLc2 hc hN hy hyl hsw a1 ok hv (g := cG X.K is f) (tt := cTT X.K pt) (wi1 := cI X.K q1) (g1 := cG X.K is1 f1) (tt1 := cTT X.K pt1) (te := cT X.K pe) (fun s H C cl fp => (hg s H C cl fp).canon) (fun s H C cl fp => (ht s H C cl fp).ex) (fun s H C cl fp => (hi1 s H C cl fp).canon) (fun s H C cl fp => (hg1 s H C cl fp).canon) (fun s H C cl fp => (ht1 s H C cl fp).ex) (fun s H C cl fp => (he s H C cl fp).canon) hs hs1, fun B F O0 H O σ ρ D R h => ?_⟩
  exact ev_st (Q := fun v H1 => D.nx (σ.set i (some v)) H1) R.base R.sub (ev_lc2 R (a2 B F O0 H O σ ρ R) his his1 tk) h fun x v H1 ex s1 r1 h1 => setS_nx R s1 r1 h1
end
/-! name = [k for k in d], d a local's own dict with tuple keys -/
def keysS (i j k : Nat) (ρ : Env) : SO := match ρ[i]? with
  | some (some (.dt kvs, .ow)) => if kvs.length < sizeLine ∧ k < ρ.length then .nx (ρ.set j (some (.lst (kvs.map fun kv => kT kv.1), .ow))) else .no
  | _ => .no
theorem SR.forget {K : PySem.W.Frag} {B F H : Hp} {O0 O : Own} {σ : L2.St} {ρ : Env} (R : SR K B F O0 H O σ ρ) (i : Nat) : SR K B F O0 H O σ (ρ.set i none) where
  nt := R.nt
  len := by rw [List.length_set]; exact R.len
  base := R.base
  frz := R.frz
  fb := R.fb
  dom := R.dom
  dom0 := R.dom0
  sub := R.sub
  slot := fun j y e => by
    by_cases c : j = i
    · subst c
      by_cases hl : j < ρ.length
      · rw [List.getElem?_set_self hl] at e; cases e
      · rw [List.getElem?_eq_none (by rw [List.length_set]; omega)] at e; cases e
    · rw [List.getElem?_set_ne (Ne.symm c)] at e
      exact R.slot j y e
  sep := fun j l y z a hjl e1 k1 e2 k2 g1 g2 => by
    have f : ∀ {j : Nat} {y : DV}, (ρ.set i none)[j]? = some (some y) → ρ[j]? = some (some y) := fun {j y} e => by
      by_cases c : j = i
      · subst c
        by_cases hl : j < ρ.length
        · rw [List.getElem?_set_self hl] at e; cases e
        · rw [List.getElem?_eq_none (by rw [List.length_set]; omega)] at e; cases e
      · rwa [List.getElem?_set_ne (Ne.symm c)] at e
    exact R.sep j l y z a hjl (f e1) k1 (f e2) k2 g1 g2
theorem ds_setKeys {X : Cx} {E : XK} (i j k : Nat) {y x z : Str} {py px1 px2 pz pos spos : Pos} {scope : Scope} {own : List (Str × Nat)} (hc : X.calm = true) (hN : X.N.Nodup) (hy : X.N[j]? = some y) (hyl : X.env.scope.names.lookup y = some .local)
    (hsw : swapsWith (.ListComp (.Name x px1) [⟨.Name x px2, .Name z pz, [], 0⟩] scope pos) (some (.Name y py)) spos.line X.env = pure true) (hz : PE X (.Name z pz) (tVar i)) (ok : BlkOk X.N X.env.scope scope own) (hown : own.map (·.2) = [k])
    (hg : ∀ (s : Shared) (H : Hp) (C : Addr) (cl : List (Str × Addr)) (fp : List Addr), PG (X.blk s H scope (compEnvC scope cl C X.env) fp) (.Name x px2) (L2.gName k))
    (he : ∀ (s : Shared) (H : Hp) (C : Addr) (cl : List (Str × Addr)) (fp : List Addr), PE (X.blk s H scope (compEnvC scope cl C X.env) fp) (.Name x px1) (tVar k)) (hs : ∀ v, foldedSetIterable (.Name z pz) X.env v = pure v := by intro _; rfl) :
    DS X E (.Assign [.Name y py] (.ListComp (.Name x px1) [⟨.Name x px2, .Name z pz, [], 0⟩] scope pos) spos) (keysS i j k) := by
  refine ⟨_, ps_lock (ps_setLc hc hN hy hyl hsw (pi_keys hz) ok (g := L2.gName k) (tt := tYes) (te := tVar k) hg (fun _ _ _ _ _ => pts_nil) he hs), fun B F O0 H O σ ρ D R h => ?_⟩
  unfold keysS at h
  split at h
  · rename_i kvs e
    split at h
    · rename_i c
      obtain ⟨hsz, hkρ⟩ := c
      obtain ⟨w, h1, d, ew, od, nd, vs, hd, hvs⟩ := R.slot i _ e
      subst ew
      have hlen := hvs.length
      refine ⟨d, .dT vs, hd, True.intro, fun o => ?_⟩
      have hLd : upd H d (.frz o (.dT vs)) d = some (.frz o (.dT vs)) := upd_same
      refine ⟨.ref d, h1, d, o, rfl, .inr ⟨vs, hLd, fun P hP => ?_⟩⟩
      have hPd : P ≠ d := fun z => by subst z; rw [hLd] at hP; cases hP
      have hPH : H P = none := by rw [upd_ne hPd] at hP; exact hP
      have nP : ¬ O P := fun z => R.dom P z hPH
      rw [hown]
      refine ⟨fun n mm H' => mm = vs.length - n ∧ n ≤ vs.length ∧ (∀ b u, upd H d (.frz o (.dT vs)) b = some u → H' b = some u) ∧ ∃ acc : List V, H' P = some (.lst acc) ∧ acc.length = n ∧ ∀ (l : Nat) (kv : List Key × V), l < n → vs[l]? = some kv → ∃ q, acc[l]? = some (.ref q) ∧ H' q = some (.tup (kv.1.map kV)),
        ⟨vs.length, by omega, Nat.zero_le _, fun b u eb => by rw [upd_ne (ne_of_none eb hP)]; exact eb, [], upd_same, rfl, fun l kv hl => absurd hl (Nat.not_lt_zero _)⟩, ?_⟩
      rintro n mm H' ⟨rfl, hn, sH, acc, hacc, hal, hq⟩
      by_cases hlt : n < vs.length
      · refine .inr ⟨⟨sH _ _ hLd, hlt⟩, fun H' => (∀ b u, upd H d (.frz o (.dT vs)) b = some u → H' b = some u) ∧ ∃ acc : List V, H' P = some (.lst acc) ∧ acc.length = n + 1 ∧ ∀ (l : Nat) (kv : List Key × V), l < n + 1 → vs[l]? = some kv → ∃ q, acc[l]? = some (.ref q) ∧ H' q = some (.tup (kv.1.map kV)),
          fun H' h => ⟨vs.length - (n + 1), by omega, rfl, hlt, h⟩, fun v H4 yl => ?_⟩
        obtain ⟨rfl, kk, vv, q, g1, rfl, g2⟩ := yl
        have hkσ : k < σ.length := by rw [R.len]; exact hkρ
        refine ⟨?_, ?_⟩
        · show ((σ.set k none).set k (some (.ref q))).set k none = σ.set k none
          rw [List.set_set, List.set_set]
        · simp only [tYes, if_true]
          refine ⟨.ref q, List.getElem?_set_self (by show _ < (σ.set k none).length; rw [List.length_set]; exact hkσ), acc, hacc, by omega, ?_, acc ++ [.ref q], upd_same, by rw [List.length_append, hal]; rfl, fun l kv hl ek => ?_⟩
          · intro b u eb
            rw [upd_ne (ne_of_none eb hP)]
            exact sH b u eb
          · by_cases cl : l < n
            · obtain ⟨q', z1, z2⟩ := hq l kv cl ek
              refine ⟨q', by rw [List.getElem?_append_left (by omega)]; exact z1, ?_⟩
              rw [upd_ne (fun z => by subst z; rw [hacc] at z2; cases z2)]
              exact z2
            · have : l = n := by omega
              subst this
              rw [g1] at ek
              cases ek
              refine ⟨q, by rw [List.getElem?_append_right (by omega), hal, Nat.sub_self]; rfl, ?_⟩
              rw [upd_ne (fun z => by subst z; rw [hacc] at g2; cases g2)]
              exact g2
      · have en : n = vs.length := by omega
        subst en
        refine .inl ⟨⟨sH _ _ hLd, Nat.le_refl _⟩, sH _ _ hLd, ?_⟩
        have sF : Same H (upd H' d (.dT vs)) := fun b u eb => by
          by_cases cb : b = d
          · subst cb; rw [upd_same]; rw [hd] at eb; exact eb
          · rw [upd_ne cb]; exact sH b u (by rw [upd_ne cb]; exact eb)
        have RF := R.more sF
        have hPF : upd H' d (.dT vs) P = some (.lst acc) := by rw [upd_ne hPd]; exact hacc
        have hrep : RepL X.K (off (plus O P) (upd H' d (.dT vs))) acc (kvs.map fun kv => kT kv.1) := by
          have e : kvs.map (fun kv => kT kv.1) = vs.map fun kv => kT kv.1 := by
            have := congrArg (List.map kT) hvs.same
            rw [List.map_map, List.map_map] at this
            exact this.symm
          rw [e]
          refine repL_of _ _ (by rw [List.length_map]; exact hal) fun l v dd z1 z2 => ?_
          rw [List.getElem?_map] at z2
          cases ek : vs[l]? with
          | none => rw [ek] at z2; cases z2
          | some kv =>
            rw [ek] at z2
            cases z2
            obtain ⟨q, w1, w2⟩ := hq l kv (List.getElem?_eq_some_iff.mp ek).1 ek
            rw [w1] at z1
            cases z1
            have hqd : q ≠ d := fun z => by subst z; rw [sH _ _ hLd] at w2; cases w2
            have hqF : upd H' d (.dT vs) q = some (.tup (kv.1.map kV)) := by rw [upd_ne hqd]; exact w2
            exact .tup (off_of (fun z => z.elim (fun z => RF.nt q _ z hqF) fun z => by subst z; rw [hPF] at hqF; cases hqF) hqF) (RepL.kTs _)
        have ho : Out X.K B O0 H (upd H' d (.dT vs)) O (.ref P) (.lst (kvs.map fun kv => kT kv.1), .ow) := ⟨P, rfl, hPH, nP, acc, hPF, hrep⟩
        obtain ⟨O', R'⟩ := R.store (i := j) (y := (.lst (kvs.map fun kv => kT kv.1), .ow)) sF ho rfl
        exact h _ _ O' R'
    · exact h.elim
  · exact h.elim
end FK
namespace FK
open PySem PySem.Spec L2
open PyProof.Rows hiding St
/-! FX9: expressions that write a local's own list (a pool that a callee draws from). -/
/-- the frozen part stays; what is there stays there -/
structure Grw (O : Own) (w : Addr → Prop) (H H' : Hp) : Prop where
  fr : Same (off O H) (off O H')
  lv : ∀ b, H b ≠ none → H' b ≠ none
  kp : ∀ b o, ¬ w b → H b = some o → H' b = some o
/-- what a slot holds may be written -/
def Wr (σ : L2.St) (i : Nat) (b : Addr) : Prop := σ[i]? = some (some (.ref b))
theorem Grw.refl (O : Own) (w : Addr → Prop) (H : Hp) : Grw O w H H := ⟨Same.refl _, fun _ z => z, fun _ _ _ z => z⟩
theorem Grw.trans {O : Own} {w : Addr → Prop} {H H1 H2 : Hp} (a : Grw O w H H1) (b : Grw O w H1 H2) : Grw O w H H2 := ⟨a.fr.trans b.fr, fun x z => b.lv x (a.lv x z), fun x o n z => b.kp x o n (a.kp x o n z)⟩
theorem Grw.of {O : Own} {w : Addr → Prop} {H H' : Hp} (s : Same H H') : Grw O w H H' := ⟨off_mono s, fun b z e => z (s.free e), fun b o _ z => s b o z⟩
theorem Grw.free {O : Own} {w : Addr → Prop} {H H' : Hp} (g : Grw O w H H') {b : Addr} (e : H' b = none) : H b = none := Classical.byContradiction fun z => g.lv b z e
section
variable {K : PySem.W.Frag} {B F H0 H H1 H2 : Hp} {O0 O : Own} {σ : L2.St} {ρ : Env}
/-- a value that is no alias lives on -/
theorem Out.grw {v : V} {x : DV} {ρ' : Env} (h : Out K B O0 H0 H1 O v x) (na : x.2 ≠ .al) {wr : Addr → Prop} (g : Grw O wr H1 H2) (R : SR K B F O0 H2 O σ ρ') : Out K B O0 H0 H2 O v x := by
  obtain ⟨d, k⟩ := x
  cases k with
  | fz => exact Rep.mono g.fr h
  | ow =>
    obtain ⟨a, ea, n0, oa, c⟩ := h
    have f : Same (off (plus O a) H1) (off (plus O a) H2) := fun b o hb => by
      obtain ⟨z1, z2⟩ := off_some hb
      exact off_of z1 (off_some (g.fr _ _ (off_of (fun z => z1 (.inl z)) z2))).2
    exact ⟨a, ea, n0, oa, c.mono (fun o e => (off_some (g.fr _ _ (off_of oa e))).2) f⟩
  | bo =>
    obtain ⟨a, ea, c, _⟩ := h
    exact ⟨a, ea, c, c.mono R.base R.fb⟩
  | al => exact absurd rfl na
theorem Out.start {v : V} {x : DV} {H0' : Hp} (h : Out K B O0 H0 H O v x) (z : ∀ a, H0 a = none → H0' a = none) : Out K B O0 H0' H O v x := by
  obtain ⟨d, k⟩ := x
  cases k with
  | fz => exact h
  | ow =>
    obtain ⟨a, ea, n0, oa, c⟩ := h
    exact ⟨a, ea, z a n0, oa, c⟩
  | bo => exact h
  | al => exact h
end
def EvM (K : PySem.W.Frag) (B F : Hp) (O0 : Own) (H : Hp) (O : Own) (σ : L2.St) (ip : Nat) (r : R (DV × Env)) (T : VK → Prop) : Prop := match r with
  | .ok x => ∀ Q : VK, (∀ v H', Grw O (Wr σ ip) H H' → SR K B F O0 H' O σ x.2 → Out K B O0 H H' O v x.1 → Q v H') → T Q
  | _ => True
structure DEm (X : Cx) (E : XK) (ip : Nat) (e : Expr) (p : Env → R (DV × Env)) : Prop where
  ex : ∃ t, PE X e t ∧ ∀ (B F : Hp) (O0 : Own) (H : Hp) (O : Own) (σ : L2.St) (ρ : Env), SR X.K B F O0 H O σ ρ → EvM X.K B F O0 H O σ ip (p ρ) (t σ H)
def EvB (K : PySem.W.Frag) (B F : Hp) (O0 : Own) (H : Hp) (O : Own) (σ : L2.St) (ip : Nat) (r : R (Bool × Env)) (T : (Bool → Hp → Prop) → Prop) : Prop := match r with
  | .ok x => ∀ Q : Bool → Hp → Prop, (∀ H', Grw O (Wr σ ip) H H' → SR K B F O0 H' O σ x.2 → Q x.1 H') → T Q
  | _ => True
structure DTm (X : Cx) (E : XK) (ip : Nat) (e : Expr) (p : Env → R (Bool × Env)) : Prop where
  ex : ∃ t, PT X e t ∧ ∀ (B F : Hp) (O0 : Own) (H : Hp) (O : Own) (σ : L2.St) (ρ : Env), SR X.K B F O0 H O σ ρ → EvB X.K B F O0 H O σ ip (p ρ) (t σ H)
section
variable {X : Cx} {E : XK} {e a b : Expr} {es : List Expr} {p : Env → R DV} {pm pa pb : Env → R (DV × Env)} {pos : Pos} {ip : Nat}
abbrev mP (p : Env → R DV) : Env → R (DV × Env) := fun ρ => (p ρ).bind fun x => .ok (x, ρ)
theorem dm_of (h : DE X E e p) : DEm X E ip e (mP p) := by
  obtain ⟨t, a1, a2⟩ := h.ex
  refine ⟨t, a1, fun B F O0 H O σ ρ R => ?_⟩
  have := a2 B F O0 H O σ ρ R
  cases q : p ρ with
  | no => simp only [mP, q]; trivial
  | ex z => simp only [mP, q]; trivial
  | ok x =>
    rw [q] at this
    simp only [mP, q]
    exact fun Q hQ => this Q fun v H' s o => hQ v H' (Grw.of s) (R.more s) o
/-- an effect-free step at the end -/
theorem EvM.fin {B F H H1 : Hp} {O0 O : Own} {σ : L2.St} {ρ' : Env} {r : R DV} {T : VK → Prop} (R1 : SR X.K B F O0 H1 O σ ρ') (g : Grw O (Wr σ ip) H H1) (h : EvG X.K X.mg O E H1 r (ORel X.K B O0 H1 O) T) : EvM X.K B F O0 H O σ ip (r.bind fun z => .ok (z, ρ')) T := by
  cases q : r with
  | no => trivial
  | ex z => trivial
  | ok z =>
    rw [q] at h
    exact fun Q hQ => h Q fun v H' s o => hQ v H' (g.trans (Grw.of s)) (R1.more s) (o.start fun a e => g.free e)
abbrev m2 (f : DV → DV → R DV) (pa pb : Env → R (DV × Env)) : Env → R (DV × Env) := fun ρ => (pa ρ).bind fun x => (pb x.2).bind fun y => if x.1.2 = .al then .no else (f x.1 y.1).bind fun z => .ok (z, y.2)
theorem dm_two {t : TE} {e : Expr} {r : R2} {f : DV → DV → R DV} (ha : DEm X E ip a pa) (hb : DEm X E ip b pb)
    (mk : ∀ ta tb, PE X a ta → PE X b tb → PE X e (tOp r ta tb))
    (hf : ∀ (B : Hp) (O0 : Own) (H0 H : Hp) (O : Own) (x y : DV) (v w : V), Same H0 H → (∀ a, O a → H a ≠ none) → Out X.K B O0 H0 H O v x → Out X.K B O0 H0 H O w y → EvG X.K X.mg O E H (f x y) (ORel X.K B O0 H O) (fun Q => r v w H Q)) :
    DEm X E ip e (m2 f pa pb) := by
  obtain ⟨t, h1, h2⟩ := ha.ex
  obtain ⟨u, g1, g2⟩ := hb.ex
  refine ⟨_, mk _ _ h1 g1, fun B F O0 H O σ ρ R => ?_⟩
  have e1 := h2 B F O0 H O σ ρ R
  unfold m2
  cases q1 : pa ρ with
  | no => trivial
  | ex z => trivial
  | ok x =>
    obtain ⟨x, ρ1⟩ := x
    rw [q1] at e1
    show EvM _ _ _ _ _ _ _ _ ((pb ρ1).bind _) _
    cases q2 : pb ρ1 with
    | no => trivial
    | ex z => trivial
    | ok y =>
      obtain ⟨y, ρ2⟩ := y
      show EvM _ _ _ _ _ _ _ _ (if x.2 = .al then FK.R.no else (f x y).bind fun z => .ok (z, ρ2)) _
      split
      · trivial
      · rename_i na
        cases q3 : f x y with
        | no => trivial
        | ex z => trivial
        | ok z =>
          refine fun Q hQ => e1 _ fun v H1 gr1 R1 o1 => ?_
          have e2 := g2 B F O0 H1 O σ ρ1 R1
          rw [q2] at e2
          refine e2 _ fun w H2 gr2 R2 o2 => ?_
          have s0 : Same (off O H) H2 := (gr1.trans gr2).fr.trans off_sub
          have f0 : ∀ a, H a = none → off O H a = none := fun a z => by
            unfold off
            split
            · rfl
            · exact z
          have e3 := hf B O0 (off O H) H2 O x y v w s0 R2.dom ((o1.grw na gr2 R2).start f0) ((o2.start fun a z => gr1.free z).start f0)
          rw [q3] at e3
          exact e3 Q fun v3 H3 s3 o3 => hQ v3 H3 ((gr1.trans gr2).trans (Grw.of s3)) (R2.more s3) (o3.start fun a z => (gr1.trans gr2).free z)
theorem dm_bin {op : Operator} {r : R2} {f : DV → DV → R DV} (ho : OpR X (binaryOp op) r)
    (hf : ∀ (B : Hp) (O0 : Own) (H0 H : Hp) (O : Own) (x y : DV) (v w : V), Same H0 H → (∀ a, O a → H a ≠ none) → Out X.K B O0 H0 H O v x → Out X.K B O0 H0 H O w y → EvG X.K X.mg O E H (f x y) (ORel X.K B O0 H O) (fun Q => r v w H Q))
    (ha : DEm X E ip a pa) (hb : DEm X E ip b pb) : DEm X E ip (.BinOp a op b pos) (m2 f pa pb) :=
  dm_two (t := tOp r (fun _ _ _ => True) (fun _ _ _ => True)) ha hb (fun _ _ h g => pe_op ho h g) hf
theorem dm_ix {k : Nat} (hr : Room k X.A) (ha : DEm X E ip a pa) (hb : DEm X E ip b pb) (hs : PlainIx b := by exact fun _ _ => rfl) : DEm X E ip (.Subscript a b pos) (m2 ixD pa pb) :=
  dm_two (t := fun _ _ _ => True) ha hb (fun _ _ h g => pe_ix (IxR.or' ix_seq (IxR.dget hr)) h g hs) hf_ix
/-- one argument to a type -/
abbrev m1 (g : List DV → R DV) (pa : Env → R (DV × Env)) : Env → R (DV × Env) := fun ρ => (pa ρ).bind fun x => (g [x.1]).bind fun z => .ok (z, x.2)
theorem dm_callTy {x : Str} {T : String} {g : List DV → R DV} {pp : Pos} (o : CB X E (.type T) g) (hg : Gl X x) (hm : X.mg x = none) (hv : bootBuiltins x = some (.type T)) (ha : DEm X E ip e pa) (hn : x ≠ "__name__" := by decide) (hdb : (x == ("__debug__" : Str)) = false := by decide)
    (he : starEach [e] X.env = (false, eval e X.env) :: starEach [] X.env := by rfl) (hpl : (backTo pos (starEach [] X.env)).any (·.1) = false := by rfl) : DEm X E ip (.Call (.Name x pp) [e] [] pos) (m1 g pa) := by
  obtain ⟨r, c1, c2⟩ := o.ex
  obtain ⟨t, h1, h2⟩ := ha.ex
  refine ⟨_, pe_callTy c1 hg hm hv (pa_cons h1 pa_nil he) hn hdb he hpl, fun B F O0 H O σ ρ R => ?_⟩
  have e1 := h2 B F O0 H O σ ρ R
  unfold m1
  cases q1 : pa ρ with
  | no => trivial
  | ex z => trivial
  | ok y =>
    obtain ⟨y, ρ1⟩ := y
    rw [q1] at e1
    show EvM _ _ _ _ _ _ _ _ ((g [y]).bind fun z => .ok (z, ρ1)) _
    cases q2 : g [y] with
    | no => trivial
    | ex z => trivial
    | ok z =>
      refine fun Q hQ => e1 _ fun v H1 gr1 R1 o1 => ?_
      have e2 := c2 B O0 (off O H) H1 O [y] [v] (gr1.fr.trans off_sub) R1.dom (.cons (o1.start fun a z => by
        unfold off
        split
        · rfl
        · exact z) .nil)
      rw [q2] at e2
      exact e2 Q fun v3 H3 s3 o3 => hQ v3 H3 (gr1.trans (Grw.of s3)) (R1.more s3) (o3.start fun a z => gr1.free z)
/-- (e,) -/
abbrev mT1 (pa : Env → R (DV × Env)) : Env → R (DV × Env) := fun ρ => (pa ρ).bind fun x => (mkTup [x.1]).bind fun z => .ok (z, x.2)
theorem dm_tup1 {x1} (ha : DEm X E ip e pa) (he : starEach [e] X.env = (false, eval e X.env) :: starEach [] X.env := by rfl) : DEm X E ip (.Tuple [e] x1 pos) (mT1 pa) := by
  obtain ⟨t, h1, h2⟩ := ha.ex
  refine ⟨_, pe_tup (pa_cons h1 pa_nil he), fun B F O0 H O σ ρ R => ?_⟩
  have e1 := h2 B F O0 H O σ ρ R
  unfold mT1
  cases q1 : pa ρ with
  | no => trivial
  | ex z => trivial
  | ok y =>
    obtain ⟨y, ρ1⟩ := y
    rw [q1] at e1
    show EvM _ _ _ _ _ _ _ _ ((mkTup [y]).bind fun z => .ok (z, ρ1)) _
    unfold mkTup
    cases q : keepL [y] with
    | none => trivial
    | some ds =>
      dsimp only
      split
      · rename_i z
        refine fun Q hQ => e1 _ fun v H1 gr1 R1 o1 => ?_
        have rr : RepL X.K (off O H1) [v] ds := OutL.keep (.cons o1 .nil) q
        refine ⟨by rw [rr.length]; exact z, ?_⟩
        exact ev_tup (mg := X.mg) (E := E) (B := B) (O0 := O0) R1.dom rr Q fun v3 H3 s3 o3 => hQ v3 H3 (gr1.trans (Grw.of s3)) (R1.more s3) (o3.start fun a z => gr1.free z)
      · trivial
theorem dm_add (ha : DEm X E ip a pa) (hb : DEm X E ip b pb) : DEm X E ip (.BinOp a .Add b pos) (m2 opAdd pa pb) := dm_bin op_addG (fun _ _ _ _ _ _ _ _ _ s d hx hy => ev_add s d hx hy) ha hb
/-- the two operands, then what is done with them -/
theorem m2_ev {ta tb : TE} {r : R2} {f : DV → DV → R DV} (h2 : ∀ (B F : Hp) (O0 : Own) (H : Hp) (O : Own) (σ : L2.St) (ρ : Env), SR X.K B F O0 H O σ ρ → EvM X.K B F O0 H O σ ip (pa ρ) (ta σ H)) (g2 : ∀ (B F : Hp) (O0 : Own) (H : Hp) (O : Own) (σ : L2.St) (ρ : Env), SR X.K B F O0 H O σ ρ → EvM X.K B F O0 H O σ ip (pb ρ) (tb σ H))
    (hf : ∀ (B : Hp) (O0 : Own) (H0 H : Hp) (O : Own) (x y : DV) (v w : V), Same H0 H → (∀ a, O a → H a ≠ none) → Out X.K B O0 H0 H O v x → Out X.K B O0 H0 H O w y → EvG X.K X.mg O E H (f x y) (ORel X.K B O0 H O) (fun Q => r v w H Q))
    (B F : Hp) (O0 : Own) (H : Hp) (O : Own) (σ : L2.St) (ρ : Env) (R : SR X.K B F O0 H O σ ρ) : EvM X.K B F O0 H O σ ip (m2 f pa pb ρ) (fun Q => ta σ H fun v H1 => tb σ H1 fun w H2 => r v w H2 Q) := by
  have e1 := h2 B F O0 H O σ ρ R
  unfold m2
  cases q1 : pa ρ with
  | no => trivial
  | ex z => trivial
  | ok x =>
    obtain ⟨x, ρ1⟩ := x
    rw [q1] at e1
    show EvM _ _ _ _ _ _ _ _ ((pb ρ1).bind _) _
    cases q2 : pb ρ1 with
    | no => trivial
    | ex z => trivial
    | ok y =>
      obtain ⟨y, ρ2⟩ := y
      show EvM _ _ _ _ _ _ _ _ (if x.2 = .al then FK.R.no else (f x y).bind fun z => .ok (z, ρ2)) _
      split
      · trivial
      · rename_i na
        cases q3 : f x y with
        | no => trivial
        | ex z => trivial
        | ok z =>
          refine fun Q hQ => e1 _ fun v H1 gr1 R1 o1 => ?_
          have e2 := g2 B F O0 H1 O σ ρ1 R1
          rw [q2] at e2
          refine e2 _ fun w H2 gr2 R2 o2 => ?_
          have s0 : Same (off O H) H2 := (gr1.trans gr2).fr.trans off_sub
          have f0 : ∀ a, H a = none → off O H a = none := fun a z => by
            unfold off
            split
            · rfl
            · exact z
          have e3 := hf B O0 (off O H) H2 O x y v w s0 R2.dom ((o1.grw na gr2 R2).start f0) ((o2.start fun a z => gr1.free z).start f0)
          rw [q3] at e3
          exact e3 Q fun v3 H3 s3 o3 => hQ v3 H3 ((gr1.trans gr2).trans (Grw.of s3)) (R2.more s3) (o3.start fun a z => (gr1.trans gr2).free z)
abbrev mCmp (f : DV → DV → R DV) (pa pb : Env → R (DV × Env)) : Env → R (Bool × Env) := fun ρ => (m2 f pa pb ρ).bind fun z => (boolD z.1).bind fun b => .ok (b, z.2)
theorem dtm_c {op : CmpOp} {f : DV → DV → R DV} (o : CO X E op f) (ha : DEm X E ip a pa) (hb : DEm X E ip b pb) (hm : behindInMarks op b = false := by first | exact nomark _ | rfl) : DTm X E ip (.Compare a [op] [b] pos) (mCmp f pa pb) := by
  obtain ⟨r, ho, hf⟩ := o.ex
  obtain ⟨t, h1, h2⟩ := ha.ex
  obtain ⟨u, g1, g2⟩ := hb.ex
  refine ⟨_, pt_cmpR ho h1 g1 hm, fun B F O0 H O σ ρ R => ?_⟩
  have e := m2_ev h2 g2 hf B F O0 H O σ ρ R
  unfold mCmp
  cases q : m2 f pa pb ρ with
  | no => trivial
  | ex z => trivial
  | ok z =>
    obtain ⟨z, ρ'⟩ := z
    rw [q] at e
    show EvB _ _ _ _ _ _ _ _ ((boolD z).bind fun b => .ok (b, ρ')) _
    cases q2 : boolD z with
    | no => trivial
    | ex w => trivial
    | ok bb =>
      refine fun Q hQ => e _ fun v H' g R' o' => ?_
      cases boolD_ok q2
      exact ⟨bb, o'.bl, hQ H' g R'⟩
end

/-! ### a callee that writes its first argument, a list -/
/-- all but what stands at a -/
def but (a : Addr) (H : Hp) : Hp := fun b => if b = a then none else H b
theorem but_ne {a b : Addr} {H : Hp} {o : HO} (h : but a H b = some o) : b ≠ a ∧ H b = some o := by
  unfold but at h
  split at h
  · cases h
  · exact ⟨by assumption, h⟩
theorem but_of {a b : Addr} {H : Hp} (n : b ≠ a) : but a H b = H b := if_neg n
def spM (K : PySem.W.Frag) (mg : Str → Option Value) (n : Nat) (m : D → List DV → R (DV × D)) : Sp := fun vs H Q E =>
  vs.length = n + 1 ∧ ∃ (O : Own) (a : Addr) (d0 : D) (ws : List V) (as : List DV), vs = .ref a :: ws ∧ O a ∧ (∀ b, O b → H b ≠ none ∧ ∀ xs, H b ≠ some (.tup xs)) ∧ OwnC K H O a d0 ∧ ArgsOk K H O ws as ∧ (∀ x ∈ as, x.2 = .fz) ∧
    match m d0 as with
    | .ok (x, d') => ∀ v H', Same (but a H) H' → OwnC K H' O a d' → (x.2 = .fz → Rep K (off O H') v x.1) → x.2 = .fz → Q v H'
    | _ => False
structure CallM (P : Program) (w : World) (K : PySem.W.Frag) (mg : Str → Option Value) (base : Heap) (x : Str) (k n : Nat) (m : D → List DV → R (DV × D)) : Prop where
  ex : ∃ (f : Addr) (fd : FuncData) (ps : List Str), mg x = some (.ref f) ∧ FnOk P w K mg base (L2.CX P w) k f fd ps (spM K mg n m) ∧ PySem.W.keepIn K (.ref f) = true ∧ Binds K fd ps []
section
variable {K : PySem.W.Frag} {B F H H' : Hp} {O0 O : Own} {σ : L2.St} {ρ : Env}
/-- an own object was written by a callee -/
theorem SR.mut {i : Nat} {a : Addr} {d d' : D} (R : SR K B F O0 H O σ ρ) (e : ρ[i]? = some (some (d, .ow))) (ea : σ[i]? = some (some (.ref a))) (s : Same (but a H) H') (c : OwnC K H' O a d') : SR K B F O0 H' O σ (ρ.set i (some (d', .ow))) := by
  obtain ⟨v, h1, h2⟩ := R.slot i _ e
  rw [ea] at h1
  cases h1
  obtain ⟨b, eb, ob, nb, _⟩ := h2
  cases eb
  have st : ∀ {b : Addr} {o : HO}, b ≠ a → H b = some o → H' b = some o := fun {b o} n h => s _ _ (by rw [but_of n]; exact h)
  have neB : ∀ {b : Addr} {o : HO}, B b = some o → b ≠ a := fun h z => by rw [z, nb] at h; cases h
  have fr : Same (off O H) (off O H') := fun b o h => by
    obtain ⟨z1, z2⟩ := off_some h
    exact off_of z1 (st (fun z => z1 (by rw [z]; exact ob)) z2)
  have hi : i < ρ.length := by
    by_cases hl : i < ρ.length
    · exact hl
    · rw [List.getElem?_eq_none (by omega)] at e; cases e
  have back : ∀ {j : Nat} {y : DV}, (ρ.set i (some (d', Kd.ow)))[j]? = some (some y) → y.2 = .ow → ∃ y', ρ[j]? = some (some y') ∧ y'.2 = .ow := fun {j y} e1 k1 => by
    by_cases q : j = i
    · subst q; exact ⟨_, e, rfl⟩
    · rw [List.getElem?_set_ne (Ne.symm q)] at e1; exact ⟨y, e1, k1⟩
  refine ⟨by rw [List.length_set]; exact R.len, fun b x h => st (neB h) (R.base b x h), R.frz.trans fr, R.fb.trans fr, fun b z => ?_, R.dom0, R.sub, fun j y ej => ?_, fun j l y z w hjl e1 k1 e2 k2 g1 g2 => ?_, fun b xs ob' => ?_⟩
  · by_cases q : b = a
    · subst q; exact c.some
    · intro hn
      cases q2 : H b with
      | none => exact R.dom b z q2
      | some o => rw [st q q2] at hn; cases hn
  · by_cases q : j = i
    · subst q
      rw [List.getElem?_set_self hi] at ej
      cases ej
      exact ⟨_, ea, a, rfl, ob, nb, c⟩
    · rw [List.getElem?_set_ne (Ne.symm q)] at ej
      obtain ⟨v, h1, h2⟩ := R.slot j y ej
      refine ⟨v, h1, ?_⟩
      obtain ⟨d2, k2⟩ := y
      cases k2 with
      | fz => exact Rep.mono fr h2
      | ow =>
        obtain ⟨b, eb, ob2, nb2, c2⟩ := h2
        subst eb
        have hne : b ≠ a := fun z => by subst z; exact R.sep j i _ _ _ q ej rfl e rfl h1 ea
        exact ⟨b, rfl, ob2, nb2, c2.mono (fun o' h => st hne h) fr⟩
      | bo => exact h2
      | al => exact h2
  · obtain ⟨y1, p1, p2⟩ := back e1 k1
    obtain ⟨y2, q1, q2⟩ := back e2 k2
    exact R.sep j l y1 y2 w hjl p1 p2 q1 q2 g1 g2
  · by_cases q : b = a
    · subst q; exact ownC_nt c xs
    · intro hn
      cases q2 : H b with
      | none => exact R.dom b ob' q2
      | some o =>
        rw [st q q2] at hn
        cases hn
        exact R.nt b xs ob' q2
end
section
variable {X : Cx} {E : XK} {e : Expr} {es : List Expr} {pl : Env → R (List DV)} {pos pp : Pos} {x y : Str} {k n : Nat} {m : D → List DV → R (DV × D)}
abbrev mCall (n : Nat) (m : D → List DV → R (DV × D)) (i : Nat) (pl : Env → R (List DV)) : Env → R (DV × Env) := fun ρ => match ρ[i]? with
  | some (some (d0, .ow)) => (pl ρ).bind fun xs => if xs.length = n ∧ (xs.map argD).all (fun z => decide (z.2 = .fz)) = true then (m d0 (xs.map argD)).bind fun z => if z.1.2 = .fz then .ok (z.1, ρ.set i (some (z.2, .ow))) else .no else .no
  | _ => .no
theorem dm_call (i : Nat) {p2 : Pos} (c : CallM X.prog X.w X.K X.mg X.base x k n m) (hr : Room k X.A) (hg : Gl X x) (hx : Passes (L2.CX X.prog X.w) X E) (hp : PE X (.Name y p2) (tVar i)) (ha : DA X E es pl) (hdb : (x == ("__debug__" : Str)) = false := by decide)
    (he : starEach (.Name y p2 :: es) X.env = (false, eval (.Name y p2) X.env) :: starEach es X.env := by rfl) (hpl : (backTo pos (starEach es X.env)).any (·.1) = false := by rfl) : DEm X E i (.Call (.Name x pp) (.Name y p2 :: es) [] pos) (mCall n m i pl) := by
  obtain ⟨f, fd, ps, hm, F, hk, hb⟩ := c.ex
  obtain ⟨t, h1, h2⟩ := ha.ex
  refine ⟨_, pe_call F hr hg hm hk hb .nil hx (pa_cons hp h1 he) hdb he hpl, fun B F' O0 H O σ ρ R => ?_⟩
  unfold mCall
  cases q0 : ρ[i]? with
  | none => trivial
  | some o =>
    cases o with
    | none => trivial
    | some z =>
      obtain ⟨d0, kd⟩ := z
      cases kd with
      | fz => trivial
      | bo => trivial
      | al => trivial
      | ow =>
        obtain ⟨v, hv, a, ea, oa, na, c0⟩ := R.slot i _ q0
        subst ea
        dsimp only
        have e1 := h2 B F' O0 H O σ ρ R
        cases q1 : pl ρ with
        | no => trivial
        | ex z => trivial
        | ok xs =>
          rw [q1] at e1
          show EvM _ _ _ _ _ _ _ _ (if _ then _ else _) _
          split
          · rename_i cnd
            obtain ⟨hl, hall⟩ := cnd
            cases q2 : m d0 (xs.map argD) with
            | no => trivial
            | ex z => trivial
            | ok z =>
              obtain ⟨z, d'⟩ := z
              show EvM _ _ _ _ _ _ _ _ (if z.2 = .fz then _ else _) _
              split
              · rename_i hz
                refine fun Q hQ => ⟨.ref a, hv, e1 _ fun vs H1 s1 o1 => ?_⟩
                have R1 := R.more s1
                have hlen : vs.length = n := by rw [(OutL.args o1).length, List.length_map]; exact hl
                refine ⟨by simp [hlen], O, a, d0, vs ++ [], xs.map argD, rfl, oa, fun b ob => ⟨R1.dom b ob, fun ys => R1.nt b ys ob⟩, c0.mono (fun o => s1 _ _) (off_mono s1), by rw [List.append_nil]; exact OutL.args o1, fun w hw => of_decide_eq_true (List.all_eq_true.mp hall w hw), ?_⟩
                rw [q2]
                intro w H2 s2 c2 rp hz2
                have c01 : OwnC X.K H1 O a d0 := c0.mono (fun o => s1 _ _) (off_mono s1)
                have R2 := R1.mut q0 hv s2 c2
                have lv : ∀ b, H1 b ≠ none → H2 b ≠ none := fun b hb' hn => by
                  by_cases q : b = a
                  · subst q; exact c2.some hn
                  · cases q3 : H1 b with
                    | none => exact hb' q3
                    | some o => rw [s2 b o (by rw [but_of q]; exact q3)] at hn; cases hn
                have g2 : Grw O (Wr σ i) H1 H2 := ⟨fun b o h => by
                  obtain ⟨z1, z2⟩ := off_some h
                  exact off_of z1 (s2 _ _ (by rw [but_of (fun zz => z1 (by rw [zz]; exact oa))]; exact z2)), lv, fun b o nw hb' => s2 b o (by rw [but_of (fun q => nw (by rw [q]; exact hv))]; exact hb')⟩
                refine hQ w H2 ((Grw.of s1).trans g2) R2 ?_
                obtain ⟨dz, kz⟩ := z
                cases (show kz = .fz from hz)
                exact rp rfl
              · trivial
          · trivial
end
end FK
namespace FK
open PySem PySem.Spec L2
open PyProof.Rows hiding St
/-! FX10: defs that write their first argument. -/
inductive SOp where | nx (ρ : Env) | rt (x : DV) (ρ : Env) | no
def SOp.seq (r : SOp) (f : Env → SOp) : SOp := match r with | .nx ρ => f ρ | r => r
def R.sp {α : Type} (r : R α) (f : α → SOp) : SOp := match r with | .ok x => f x | _ => .no
def EndsP (K : PySem.W.Frag) (B F : Hp) (O0 : Own) (D : Ends) (a : Addr) : SOp → Prop
  | .nx ρ => ∀ σ H O, SR K B F O0 H O σ ρ → σ[0]? = some (some (.ref a)) → D.nx σ H
  | .rt x ρ => ∀ v σ H O, SR K B F O0 H O σ ρ → σ[0]? = some (some (.ref a)) → Rep K (off O H) v x.1 → D.rt v H
  | .no => False
structure DSp (X : Cx) (E : XK) (st : Stmt) (m : Env → SOp) : Prop where
  ex : ∃ t, PS X st t ∧ ∀ (B F : Hp) (O0 : Own) (H : Hp) (O : Own) (σ : L2.St) (ρ : Env) (D : Ends) (a : Addr), SR X.K B F O0 H O σ ρ → σ[0]? = some (some (.ref a)) → EndsP X.K B F O0 D a (m ρ) → t D σ H
structure DSps (X : Cx) (E : XK) (st : List Stmt) (m : Env → SOp) : Prop where
  ex : ∃ t, PSs X st t ∧ ∀ (B F : Hp) (O0 : Own) (H : Hp) (O : Own) (σ : L2.St) (ρ : Env) (D : Ends) (a : Addr), SR X.K B F O0 H O σ ρ → σ[0]? = some (some (.ref a)) → EndsP X.K B F O0 D a (m ρ) → t D σ H
section
variable {X : Cx} {E : XK} {e v key c : Expr} {st : Stmt} {rest s1 s2 : List Stmt} {p pk pv : Env → R DV} {pm : Env → R (DV × Env)} {pt : Env → R Bool} {m m1 m2 : Env → SOp} {pos pos' : Pos} {i ip : Nat} {x : Str}
abbrev pNil : Env → SOp := fun ρ => .nx ρ
abbrev pSeq (m1 m2 : Env → SOp) : Env → SOp := fun ρ => (m1 ρ).seq m2
theorem dps_nil : DSps X E [] pNil := ⟨_, pss_nil, fun B F O0 H O σ ρ D a R ha h => h σ H O R ha⟩
theorem dps_cons (h1 : DSp X E st m1) (h2 : DSps X E rest m2) : DSps X E (st :: rest) (pSeq m1 m2) := by
  obtain ⟨t, a1, a2⟩ := h1.ex
  obtain ⟨u, b1, b2⟩ := h2.ex
  refine ⟨_, pss_cons a1 b1, fun B F O0 H O σ ρ D a R ha h => a2 B F O0 H O σ ρ { D with nx := u D } a R ha ?_⟩
  unfold pSeq at h
  cases q : m1 ρ with
  | nx ρ' => rw [q] at h; exact fun σ' H' O' R' ha' => b2 B F O0 H' O' σ' ρ' D a R' ha' h
  | rt x ρ' => rw [q] at h; exact h
  | no => rw [q] at h; exact h
theorem dps_one (h1 : DSp X E st m) : DSps X E [st] m := let ⟨t, a, b⟩ := h1.ex; ⟨t, pss_one a, b⟩
abbrev pSet (i : Nat) (p : Env → R DV) : Env → SOp := fun ρ => (p ρ).sp fun x => match slotK x with | some y => .nx (ρ.set i (some y)) | none => .no
theorem dp_set (i : Nat) (h0 : i ≠ 0) (he : DE X E e p) (hN : X.N.Nodup) (hi : X.N[i]? = some x) (hx : Loc X.env.scope x) (hs : swapsWith e (some (.Name x pos')) pos.line X.env = pure false := by rfl) (hf : X.fn x = true ∨ X.env.scope.names.lookup x = some .local := by first | exact .inl rfl | exact .inr rfl | assumption) :
    DSp X E (.Assign [.Name x pos'] e pos) (pSet i p) := by
  obtain ⟨t, a1, a2⟩ := he.ex
  refine ⟨_, ps_set hN hi hx a1 hs hf, fun B F O0 H O σ ρ D a R ha h => ?_⟩
  have e1 := a2 B F O0 H O σ ρ R
  unfold pSet at h
  cases q : p ρ with
  | no => rw [q] at h; exact h.elim
  | ex z => rw [q] at h; exact h.elim
  | ok z =>
    rw [q] at h e1
    refine e1 _ fun v H1 s1 o1 => ?_
    cases q2 : slotK z with
    | none => simp only [FK.R.sp, q2] at h; exact h.elim
    | some y =>
      simp only [FK.R.sp, q2] at h
      obtain ⟨O', R'⟩ := R.store (i := i) s1 o1 q2
      exact h _ H1 O' R' (by rw [List.getElem?_set_ne h0]; exact ha)
abbrev pSetM (i : Nat) (pm : Env → R (DV × Env)) : Env → SOp := fun ρ => (pm ρ).sp fun x => if x.1.2 = .fz then .nx (x.2.set i (some x.1)) else .no
theorem dp_setM (i : Nat) (h0 : i ≠ 0) (he : DEm X E ip e pm) (hN : X.N.Nodup) (hi : X.N[i]? = some x) (hx : Loc X.env.scope x) (hs : swapsWith e (some (.Name x pos')) pos.line X.env = pure false := by rfl) (hf : X.fn x = true ∨ X.env.scope.names.lookup x = some .local := by first | exact .inl rfl | exact .inr rfl | assumption) :
    DSp X E (.Assign [.Name x pos'] e pos) (pSetM i pm) := by
  obtain ⟨t, a1, a2⟩ := he.ex
  refine ⟨_, ps_set hN hi hx a1 hs hf, fun B F O0 H O σ ρ D a R ha h => ?_⟩
  have e1 := a2 B F O0 H O σ ρ R
  unfold pSetM at h
  cases q : pm ρ with
  | no => rw [q] at h; exact h.elim
  | ex z => rw [q] at h; exact h.elim
  | ok z =>
    obtain ⟨⟨d, k⟩, ρ'⟩ := z
    rw [q] at h e1
    refine e1 _ fun v H1 g1 R1 o1 => ?_
    simp only [FK.R.sp] at h
    split at h
    · rename_i hk
      cases (show k = .fz from hk)
      exact h _ H1 O (R1.set (i := i) (x := (d, .fz)) o1 fun z => nomatch z) (by rw [List.getElem?_set_ne h0]; exact ha)
    · exact h.elim
/-- in a def that owns the list -/
abbrev sSetM (i : Nat) (pm : Env → R (DV × Env)) : Env → SO := fun ρ => (pm ρ).quiet.st fun x => if x.1.2 = .fz then .nx (x.2.set i (some x.1)) else .no
theorem ds_setM (i : Nat) (he : DEm X E ip e pm) (hN : X.N.Nodup) (hi : X.N[i]? = some x) (hx : Loc X.env.scope x) (hs : swapsWith e (some (.Name x pos')) pos.line X.env = pure false := by rfl) (hf : X.fn x = true ∨ X.env.scope.names.lookup x = some .local := by first | exact .inl rfl | exact .inr rfl | assumption) :
    DS X E (.Assign [.Name x pos'] e pos) (sSetM i pm) := by
  obtain ⟨t, a1, a2⟩ := he.ex
  refine ⟨_, ps_set hN hi hx a1 hs hf, fun B F O0 H O σ ρ D R h => ?_⟩
  have e1 := a2 B F O0 H O σ ρ R
  unfold sSetM at h
  cases q : pm ρ with
  | no => rw [q] at h; exact h.elim
  | ex z => rw [q] at h; exact h.elim
  | ok z =>
    obtain ⟨⟨d, k⟩, ρ'⟩ := z
    rw [q] at h e1
    refine e1 _ fun v H1 g1 R1 o1 => ?_
    simp only [FK.R.st, FK.R.quiet] at h
    split at h
    · rename_i hk
      cases (show k = .fz from hk)
      exact h _ H1 O (R1.set (i := i) (x := (d, .fz)) o1 fun z => nomatch z)
    · exact h.elim
abbrev pIf (pt : Env → R Bool) (m1 m2 : Env → SOp) : Env → SOp := fun ρ => (pt ρ).sp fun b => if b then m1 ρ else m2 ρ
theorem dp_if (hc : DT X E c pt) (h1 : DSps X E s1 m1) (h2 : DSps X E s2 m2) : DSp X E (.If c s1 s2 pos) (pIf pt m1 m2) := by
  obtain ⟨t, a1, a2⟩ := hc.ex
  obtain ⟨u, b1, b2⟩ := h1.ex
  obtain ⟨w, c1, c2⟩ := h2.ex
  refine ⟨_, ps_if a1 b1 c1, fun B F O0 H O σ ρ D a R ha h => ?_⟩
  have e1 := a2 B F O0 H O σ ρ R
  unfold pIf at h
  cases q : pt ρ with
  | no => rw [q] at h; exact h.elim
  | ex z => rw [q] at h; exact h.elim
  | ok z =>
    rw [q] at h e1
    refine e1 _ fun bb H1 s1 o1 => ?_
    subst o1
    simp only [FK.R.sp] at h
    cases bb with
    | true => exact b2 B F O0 H1 O σ ρ D a (R.more s1) ha h
    | false => exact c2 B F O0 H1 O σ ρ D a (R.more s1) ha h
abbrev pRet (p : Env → R DV) : Env → SOp := fun ρ => (p ρ).sp fun x => if x.2 = .fz then .rt x ρ else .no
theorem dp_ret (he : DE X E e p) : DSp X E (.Return (some e) pos) (pRet p) := by
  obtain ⟨t, a1, a2⟩ := he.ex
  refine ⟨_, ps_ret a1, fun B F O0 H O σ ρ D a R ha h => ?_⟩
  have e1 := a2 B F O0 H O σ ρ R
  unfold pRet at h
  cases q : p ρ with
  | no => rw [q] at h; exact h.elim
  | ex z => rw [q] at h; exact h.elim
  | ok z =>
    obtain ⟨d, k⟩ := z
    rw [q] at h e1
    refine e1 _ fun v H1 s1 o1 => ?_
    simp only [FK.R.sp] at h
    split at h
    · rename_i hk
      cases (show k = .fz from hk)
      exact h v σ H1 O (R.more s1) ha o1
    · exact h.elim
abbrev pPut (pv pk : Env → R DV) : Env → SOp := fun ρ => (pv ρ).sp fun v => match (ρ[0]? : Option (Option DV)) with
  | some (some (.lst xs, .ow)) => (pk ρ).sp fun k => (match keep1 v, k.1 with | some d, .int n => (match ixN xs.length n with | some j => .nx (ρ.set 0 (some (.lst (xs.set j d), .ow))) | none => .no) | _, _ => .no)
  | _ => .no
theorem dp_put {n : Nat} (hr : Room n X.A) {p2 : Pos} (hp : PE X (.Name x p2) (tVar 0)) (hk : DE X E key pk) (hv : DE X E v pv)
    (ha : ∀ u, assign (.Subscript (.Name x p2) key pos') X.env u = (do
      let ov ← holding [u] (eval (.Name x p2) X.env)
      let iv ← holding [u, ov] (eval key X.env)
      standAt pos'
      holding [u, ov, iv] (setItem ov iv u)
      release [u, ov, iv] []) := by intro _; rfl)
    (hs : swapsWithSole [.Subscript (.Name x p2) key pos'] v pos.line X.env = pure false := by rfl) (hw : swappedStores [.Subscript (.Name x p2) key pos'] v X.env = pure none := by rfl)
    (h1 : (assignEach [.Subscript (.Name x p2) key pos'] X.env).map (·.2) = [assign (.Subscript (.Name x p2) key pos') X.env] := by rfl) :
    DSp X E (.Assign [.Subscript (.Name x p2) key pos'] v pos) (pPut pv pk) := by
  obtain ⟨t, a1, a2⟩ := hv.ex
  obtain ⟨u, b1, b2⟩ := hk.ex
  refine ⟨_, ps_asg a1 (pg_sub hp b1 set_list ha) hs hw h1, fun B F O0 H O σ ρ D a R haσ h => ?_⟩
  have e1 := a2 B F O0 H O σ ρ R
  unfold pPut at h
  cases q : pv ρ with
  | no => rw [q] at h; exact h.elim
  | ex z => rw [q] at h; exact h.elim
  | ok z =>
    rw [q] at h e1
    refine e1 _ fun v1 H1 s1 o1 => ?_
    have R1 := R.more s1
    simp only [FK.R.sp] at h
    split at h
    · rename_i xs e0
      obtain ⟨w, g1, b, eb, ob, nb, vs, c1, c2⟩ := R1.slot 0 _ e0
      subst eb
      refine ⟨.ref b, g1, ?_⟩
      have e2 := b2 B F O0 H1 O σ ρ R1
      cases q2 : pk ρ with
      | no => rw [q2] at h; exact h.elim
      | ex z => rw [q2] at h; exact h.elim
      | ok y =>
        rw [q2] at h e2
        refine e2 _ fun kx H2 s2 o2 => ?_
        have R2 := R1.more s2
        dsimp only at h
        obtain ⟨yd, yk⟩ := y
        cases qv : keep1 z with
        | none => simp only [qv] at h; exact h.elim
        | some dd =>
          cases yd <;> first | (simp only [qv] at h; exact h.elim) | skip
          rename_i n'
          simp only [qv] at h
          cases q3 : ixN xs.length n' with
          | none => simp only [q3] at h; exact h.elim
          | some j =>
            simp only [q3] at h
            cases Out.int o2
            have rv : Rep X.K (off O H2) v1 dd := Rep.mono (off_mono s2) (o1.keep qv)
            refine ⟨b, vs, n', j, rfl, rfl, s2 _ _ c1, by rw [c2.length]; exact q3, ?_⟩
            refine h σ _ O (R2.write e0 g1 ⟨_, upd_same, ?_⟩) haσ
            rw [off_upd ob]
            exact (c2.mono (off_mono s2)).set j rv
    · exact h.elim
/-! for k in range(e), e written with -/
def forP (i : Nat) (body : Env → SOp) : List D → Env → SOp
  | [], ρ => .nx ρ
  | d :: ds, ρ => match body (ρ.set i (some (d, .fz))) with
    | .nx ρ2 => forP i body ds ρ2
    | _ => .no
abbrev pFor (i : Nat) (pm : Env → R (DV × Env)) (body : Env → SOp) : Env → SOp := fun ρ => (pm ρ).sp fun x => match x.1.1 with
  | .int j => if -(2 ^ 62) ≤ j ∧ j < 2 ^ 62 then forP i body (rangeL 0 1 j.toNat) x.2 else .no
  | _ => .no
theorem dp_for (i : Nat) (h0 : i ≠ 0) {pp pr ptg : Pos} {body : List Stmt} (hp : PassesOwn (model X.prog X.w) X.A X.env X.xe) (hc : X.calm = true) (hg : Gl X "range") (hm : X.mg "range" = none) (he : DEm X E ip e pm) (hN : X.N.Nodup) (hi : X.N[i]? = some x) (hx : Loc X.env.scope x) (hb : DSps X E body m)
    (hse : starEach [e] X.env = [(false, eval e X.env)] := by rfl) (hse1 : starEach [e] X.env = (false, eval e X.env) :: starEach [] X.env := by rfl)
    (hf : X.fn x = true ∨ X.env.scope.names.lookup x = some .local := by first | exact .inl rfl | exact .inr rfl | assumption)
    (hs : ∀ v, foldedSetIterable (.Call (.Name "range" pp) [e] [] pr) X.env v = pure v := by intro _; rfl) :
    DSp X E (.For (.Name x ptg) (.Call (.Name "range" pp) [e] [] pr) body [] pos) (pFor i pm m) := by
  obtain ⟨t, a1, a2⟩ := he.ex
  obtain ⟨u, c1, c2⟩ := hb.ex
  refine ⟨_, ps_for hp hc (pi_range1 hg hm (pa_cons a1 pa_nil hse1) hse) (pg_name hN hi hx hf) c1 hs, fun B F O0 H O σ ρ D a R ha h => ?_⟩
  have e1 := a2 B F O0 H O σ ρ R
  unfold pFor at h
  cases q : pm ρ with
  | no => rw [q] at h; exact h.elim
  | ex z => rw [q] at h; exact h.elim
  | ok z =>
    obtain ⟨⟨d, kk⟩, ρ'⟩ := z
    rw [q] at h e1
    simp only [FK.R.sp] at h
    refine e1 _ fun v H1 g1 R1 o1 => ?_
    cases d <;> first | exact h.elim | skip
    rename_i j
    cases Out.int o1
    dsimp only at h
    split at h
    · rename_i cb
      refine ⟨j, rfl, cb.1, cb.2, ?_⟩
      have hrl : (rangeL 0 1 j.toNat).length = j.toNat := by simp [rangeL]
      refine for_range (fun l σ' H' => σ'[0]? = some (some (.ref a)) ∧ ∃ O' ρ', SR X.K B F O0 H' O' σ' ρ' ∧ EndsP X.K B F O0 D a (forP i m ((rangeL 0 1 j.toNat).drop l) ρ')) ⟨ha, O, ρ', R1, h⟩ ?_ ?_
      · rintro l σ' H' hl ⟨ha', O', ρ2, R2, hh⟩
        have hl' : l < (rangeL 0 1 j.toNat).length := by rw [hrl]; exact hl
        have ed : (rangeL 0 1 j.toNat)[l] = FK.D.int (0 + (l : Nat)) := by simp [rangeL]
        rw [List.drop_eq_getElem_cons hl', ed] at hh
        unfold forP at hh
        have R3 := R2.set (i := i) (v := .int (0 + (l : Nat))) (x := (.int (0 + (l : Nat)), .fz)) (show Rep _ _ _ _ from .int _) fun z => nomatch z
        refine c2 B F O0 H' O' _ _ _ a R3 (by rw [List.getElem?_set_ne h0]; exact ha') ?_
        cases q2 : m (ρ2.set i (some (FK.D.int (0 + (l : Nat)), Kd.fz))) with
        | nx ρ3 =>
          simp only [q2] at hh
          exact fun σ4 H4 O4 R4 ha4 => ⟨ha4, O4, ρ3, R4, hh⟩
        | rt y ρ3 => simp only [q2] at hh; exact hh.elim
        | no => simp only [q2] at hh; exact hh.elim
      · rintro σ' H' ⟨ha', O', ρ2, R2, hh⟩
        rw [List.drop_of_length_le (by rw [hrl]; exact Nat.le_refl _)] at hh
        exact hh σ' H' O' R2 ha'
    · exact h.elim
end
end FK
namespace FK
open PySem PySem.Spec L2
open PyProof.Rows hiding St
/-! FX11: [e for k in range(..) if <a test that writes the list>]; the rule for a def that writes its first argument. -/
def owSub : Env → Env → Bool
  | [], _ => true
  | x :: r, [] => (match x with | some (_, .ow) => false | _ => true) && owSub r []
  | x :: r, y :: s => (match x, y with | some (_, .ow), some (_, .ow) => true | some (_, .ow), _ => false | _, _ => true) && owSub r s
theorem owSub_ok : ∀ {ρ ρ' : Env}, owSub ρ ρ' = true → ∀ (j : Nat) (y : DV), ρ[j]? = some (some y) → y.2 = .ow → ∃ y', ρ'[j]? = some (some y') ∧ y'.2 = .ow
  | [], _, _, j, y, e, _ => by simp at e
  | x :: r, [], h, 0, y, e, k => by
    simp at e
    subst e
    obtain ⟨d, k'⟩ := y
    cases (show k' = .ow from k)
    simp [owSub] at h
  | x :: r, [], h, j + 1, y, e, k => by
    unfold owSub at h
    rw [Bool.and_eq_true] at h
    exact absurd (owSub_ok h.2 j y (by simpa using e) k) (by simp)
  | x :: r, z :: s, h, 0, y, e, k => by
    simp at e
    subst e
    obtain ⟨d, k'⟩ := y
    cases (show k' = .ow from k)
    unfold owSub at h
    rw [Bool.and_eq_true] at h
    have h := h.1
    cases z with
    | none => simp at h
    | some w =>
      obtain ⟨d2, k2⟩ := w
      cases k2 <;> first | (simp at h; done) | exact ⟨(d2, .ow), by simp, rfl⟩
  | x :: r, z :: s, h, j + 1, y, e, k => by
    unfold owSub at h
    rw [Bool.and_eq_true] at h
    obtain ⟨y', h1, h2⟩ := owSub_ok h.2 j y (by simpa using e) k
    exact ⟨y', by simpa using h1, h2⟩
def lcMm (f : D → Env → Option Env) (pt : Env → R (Bool × Env)) (pe : Env → R DV) (vs : List Nat) : List D → Env → R (List D × Env)
  | [], ρ => .ok ([], ρ)
  | d :: ds, ρ => match f d ρ with
    | none => .no
    | some ρ1 => (pt ρ1).bind fun z => if owSub (wipeD z.2 vs) ρ = true then (if z.1 then (pe z.2).quiet.bind fun x => (match keep1 x with
        | none => .no
        | some y => (lcMm f pt pe vs ds (wipeD z.2 vs)).bind fun r => .ok (y :: r.1, r.2))
      else lcMm f pt pe vs ds (wipeD z.2 vs)) else .no
def isOw (ρ : Env) (i : Nat) : Bool := match ρ[i]? with | some (some (_, .ow)) => true | _ => false
abbrev mLcM (ip : Nat) (q : Env → R (List D × Kd)) (f : D → Env → Option Env) (pt : Env → R (Bool × Env)) (pe : Env → R DV) (vs : List Nat) : Env → R (DV × Env) := fun ρ => (q ρ).bind fun x => if x.2 = .fz ∧ x.1.length ≤ sizeLine ∧ isOw ρ ip = true ∧ ip ∉ vs then (lcMm f pt pe vs x.1 (wipeD ρ vs)).bind fun r => .ok ((.lst r.1, .ow), r.2) else .no
def cTTm (K : PySem.W.Frag) (ip : Nat) (p : Env → R (Bool × Env)) : TT := fun σ H Q => ∃ (B F : Hp) (O0 O : Own) (ρ : Env) (x : Bool × Env), SR K B F O0 H O σ ρ ∧ p ρ = .ok x ∧ ∀ H', Grw O (Wr σ ip) H H' → SR K B F O0 H' O σ x.2 → Q x.1 H'
theorem DTm.canon {X : Cx} {E : XK} {ip : Nat} {e : Expr} {p : Env → R (Bool × Env)} (h : DTm X E ip e p) : PT X e (cTTm X.K ip p) := by
  obtain ⟨t, h1, h2⟩ := h.ex
  refine ⟨fun pins s σ H Q I q => ?_⟩
  obtain ⟨B, F, O0, O, ρ, x, R, ex, hQ⟩ := q
  have := h2 B F O0 H O σ ρ R
  rw [ex] at this
  exact h1.run pins s σ H Q I (this Q hQ)
theorem wipeD_none : ∀ (vs : List Nat) (ρ : Env) (v : Nat) (x : Option DV), v ∈ vs → (wipeD ρ vs)[v]? = some x → x = none
  | [], _, _, _, h, _ => nomatch h
  | w :: vs, ρ, v, x, h, e => by
    have e : ((wipeD ρ vs).set w none)[v]? = some x := e
    by_cases c : v = w
    · subst c
      by_cases hl : v < (wipeD ρ vs).length
      · rw [List.getElem?_set_self hl] at e; exact (Option.some.inj e).symm
      · rw [List.getElem?_eq_none (by rw [List.length_set]; omega)] at e; cases e
    · rw [List.getElem?_set_ne (Ne.symm c)] at e
      refine wipeD_none vs ρ v x ?_ e
      rcases List.mem_cons.mp h with z | z
      · exact absurd z c
      · exact z
theorem wipe_len : ∀ (vs : List Nat) (σ : L2.St), (wipe σ vs).length = σ.length
  | [], _ => rfl
  | v :: vs, σ => by
    show ((wipe σ vs).set v none).length = _
    rw [List.length_set, wipe_len vs]
section
variable {K : PySem.W.Frag} {B F H : Hp} {O0 O : Own} {σ : L2.St} {ρ : Env}
/-- what was wiped comes back, unlooked at -/
theorem SR.unwipe (vs : List Nat) (R : SR K B F O0 H O (L2.wipe σ vs) ρ) (n : ∀ v x, v ∈ vs → ρ[v]? = some x → x = none) : SR K B F O0 H O σ ρ where
  nt := R.nt
  len := by rw [← R.len, wipe_len]
  base := R.base
  frz := R.frz
  fb := R.fb
  dom := R.dom
  dom0 := R.dom0
  sub := R.sub
  slot := fun j y e => by
    have hj : j ∉ vs := fun z => by cases n j _ z e
    obtain ⟨v, h1, h2⟩ := R.slot j y e
    exact ⟨v, by rw [wipe_get vs σ j hj] at h1; exact h1, h2⟩
  sep := fun j l y z a hjl e1 k1 e2 k2 g1 g2 => by
    have hj : j ∉ vs := fun w => by cases n j _ w e1
    have hl : l ∉ vs := fun w => by cases n l _ w e2
    exact R.sep j l y z a hjl e1 k1 e2 k2 (by rw [wipe_get vs σ j hj]; exact g1) (by rw [wipe_get vs σ l hl]; exact g2)
/-- an own object that no slot holds is given up -/
theorem SR.drop {p : Addr} (R : SR K B F O0 H (plus O p) σ ρ) (n : ¬ O p) (n0 : ¬ O0 p) (ns : ∀ (j : Nat) (y : DV), ρ[j]? = some (some y) → y.2 = .ow → σ[j]? ≠ some (some (.ref p))) : SR K B F O0 H O σ ρ where
  nt := fun a xs z => R.nt a xs (.inl z)
  len := R.len
  base := R.base
  frz := R.frz.trans (off_anti fun b z => .inl z)
  fb := R.fb.trans (off_anti fun b z => .inl z)
  dom := fun a z => R.dom a (.inl z)
  dom0 := R.dom0
  sub := fun b z => (R.sub b z).elim id fun e => absurd (e ▸ z) n0
  slot := fun j y e => by
    obtain ⟨v, h1, h2⟩ := R.slot j y e
    refine ⟨v, h1, ?_⟩
    have hn := ns j y e
    obtain ⟨d, k⟩ := y
    cases k with
    | fz => exact Rep.mono (off_anti fun b z => .inl z) h2
    | ow =>
      obtain ⟨a, ea, oa, na, c⟩ := h2
      subst ea
      refine ⟨a, rfl, oa.elim id fun e => absurd (by rw [← e]; exact h1) (hn rfl), na, c.mono (fun _ z => z) (off_anti fun b z => .inl z)⟩
    | bo => exact h2
    | al => exact h2
  sep := R.sep
end
section
variable {X : Cx} {E : XK} {tg iter elt : Expr} {is : List Nat} {f : D → Env → Option Env} {pt : Env → R (Bool × Env)} {pe : Env → R DV} {pos : Pos} {ip : Nat}
theorem ev_lcM {wi : TI} {own : List (Str × Nat)} {q : Env → R (List D × Kd)} {B F H : Hp} {O0 O : Own} {σ : L2.St} {ρ : Env} (R : SR X.K B F O0 H O σ ρ) (hi : EvG X.K X.mg O E H (q ρ) (fun x J H' => ItOk X.K (off O H') (srcH B O H' x.2) J x.1) (wi σ H)) (his : ∀ i ∈ is, i ∈ own.map (·.2)) :
    EvM X.K B F O0 H O σ ip (mLcM ip q f pt pe (own.map (·.2)) ρ) (tLc wi (cG X.K is f) (cTTm X.K ip pt) (cT X.K pe) (own.map (·.2)) σ H) := by
  generalize hvs : own.map (·.2) = vs at *
  unfold mLcM
  cases q0 : q ρ with
  | no => trivial
  | ex z => trivial
  | ok x =>
    obtain ⟨ds, kk⟩ := x
    rw [q0] at hi
    show EvM _ _ _ _ _ _ _ _ (if _ then _ else _) _
    split
    · rename_i cnd
      obtain ⟨hk, hsz, how, hip⟩ := cnd
      cases (show kk = .fz from hk)
      dsimp only at hsz
      cases qr : lcMm f pt pe vs ds (wipeD ρ vs) with
      | no => trivial
      | ex z => trivial
      | ok r =>
        refine fun Q hQ => hi _ fun J H1 s1 it D hD => ?_
        dsimp only at it
        have R1 := R.more s1
        have nD : ¬ O D := fun z => R1.dom D z hD
        have oD : plus O D D := .inr rfl
        have bD : B D = none := R1.base.free hD
        have n0 : ¬ O0 D := fun z => nD (R1.sub D z)
        have hw := R1.wipe vs
        have noslot : ∀ (j : Nat) (y : DV), (wipeD ρ vs)[j]? = some (some y) → y.2 = .ow → (wipe σ vs)[j]? ≠ some (some (.ref D)) := fun j y e1 e2 e3 => by
          obtain ⟨v, g1, g2⟩ := hw.slot j y e1
          rw [e3] at g1
          cases g1
          obtain ⟨d2, k2⟩ := y
          cases (show k2 = .ow from e2)
          obtain ⟨b, eb, ob, _, _⟩ := g2
          cases eb
          exact nD ob
        have notW : ¬ Wr σ ip D := fun z => by
          unfold isOw at how
          split at how
          · rename_i d0 e0
            obtain ⟨v, g1, a, ea, oa, _⟩ := R1.slot ip _ e0
            unfold Wr at z
            rw [z] at g1
            cases g1
            cases ea
            exact nD oa
          · cases how
        refine ⟨fun i m H' => m = ds.length - i ∧ i ≤ ds.length ∧ Same (off O H1) (off (plus O D) H') ∧ (∀ b, H1 b ≠ none → H' b ≠ none) ∧ (∀ b o, ¬ Wr σ ip b → H1 b = some o → H' b = some o) ∧ ∃ acc done ρi rr, H' D = some (.lst acc) ∧ RepL X.K (off (plus O D) H') acc done ∧ done.length ≤ i ∧ lcMm f pt pe vs (ds.drop i) ρi = .ok rr ∧ done ++ rr.1 = r.1 ∧ rr.2 = r.2 ∧ SR X.K B F O0 H' (plus O D) (wipe σ vs) ρi ∧ (∀ (j : Nat) (y : DV), ρi[j]? = some (some y) → y.2 = .ow → (wipe σ vs)[j]? ≠ some (some (.ref D))) ∧ ∀ v x, v ∈ vs → ρi[v]? = some x → x = none,
          ⟨ds.length, by omega, Nat.zero_le _, fun b o h => ?_, fun b z e => ?_, fun b o _ h => ?_, [], [], wipeD ρ vs, r, upd_same, .nil, Nat.le_refl _, qr, rfl, rfl, hw.grow (same_upd hD) hD (by rw [upd_same]; exact fun z => nomatch z) (by rw [upd_same]; exact fun _ z => nomatch z), noslot, fun v x hv e => wipeD_none vs ρ v x hv e⟩, ?_⟩
        · obtain ⟨z1, z2⟩ := off_some h
          exact off_of (fun z => z.elim z1 fun e => by subst e; rw [hD] at z2; cases z2) (same_upd hD _ _ z2)
        · by_cases q : b = D
          · subst q; exact z hD
          · rw [upd_ne q] at e; exact z e
        · exact same_upd hD _ _ h
        rintro i m H' ⟨rfl, hi, fr, lv, kp, acc, done, ρi, rr, hacc, hdone, hlen, hrr, htot, hend, R', ns, nn⟩
        obtain ⟨i1, i2, i3⟩ := it i H' (fr.trans off_sub)
        by_cases hlt : i < ds.length
        · rw [List.drop_eq_getElem_cons hlt] at hrr
          unfold lcMm at hrr
          cases q1 : f ds[i] ρi with
          | none => simp only [q1] at hrr; cases hrr
          | some ρ1 =>
            simp only [q1] at hrr
            cases q2 : pt ρ1 with
            | no => rw [q2] at hrr; cases hrr
            | ex z => rw [q2] at hrr; cases hrr
            | ok z =>
              obtain ⟨bb, ρ2⟩ := z
              rw [q2] at hrr
              simp only [FK.R.bind] at hrr
              split at hrr
              · rename_i hsub
                refine .inr ⟨i1 hlt, fun H' => Same (off O H1) (off (plus O D) H') ∧ (∀ b, H1 b ≠ none → H' b ≠ none) ∧ (∀ b o, ¬ Wr σ ip b → H1 b = some o → H' b = some o) ∧ ∃ acc done ρi rr, H' D = some (.lst acc) ∧ RepL X.K (off (plus O D) H') acc done ∧ done.length ≤ i + 1 ∧ lcMm f pt pe vs (ds.drop (i + 1)) ρi = .ok rr ∧ done ++ rr.1 = r.1 ∧ rr.2 = r.2 ∧ SR X.K B F O0 H' (plus O D) (wipe σ vs) ρi ∧ (∀ (j : Nat) (y : DV), ρi[j]? = some (some y) → y.2 = .ow → (wipe σ vs)[j]? ≠ some (some (.ref D))) ∧ ∀ v x, v ∈ vs → ρi[v]? = some x → x = none,
                  fun H' h => ⟨ds.length - (i + 1), by omega, rfl, hlt, h⟩, fun v H4 y => ?_⟩
                obtain ⟨s4, r4⟩ := i3 v H4 ds[i] y (List.getElem?_eq_getElem hlt)
                have R4 := R'.more s4
                refine ⟨B, F, O0, plus O D, ρi, ρ1, ds[i], R4, r4 _ R'.dom fr, q1, fun σ5 R5 w5 => ?_⟩
                have w5' : wipe σ5 vs = wipe (wipe σ vs) vs := w5 vs fun i hi => by exact his i hi
                have ww : ∀ (vs : List Nat) (σ : L2.St), wipe (wipe σ vs) vs = wipe σ vs := by
                  intro vs
                  induction vs with
                  | nil => intro σ; rfl
                  | cons v r ih =>
                    intro σ
                    show (wipe ((wipe σ r).set v none) r).set v none = (wipe σ r).set v none
                    by_cases c : v ∈ r
                    · rw [wipe_set v r _ c, ih]
                    · have comm : ∀ (r : List Nat) (τ : L2.St), v ∉ r → wipe (τ.set v none) r = (wipe τ r).set v none := by
                        intro r
                        induction r with
                        | nil => intro _ _; rfl
                        | cons w r ih2 =>
                          intro τ h
                          have h1 : v ≠ w := fun e => h (by rw [e]; exact List.mem_cons_self)
                          have h2 : v ∉ r := fun e => h (List.mem_cons_of_mem _ e)
                          show (wipe (τ.set v none) r).set w none = ((wipe τ r).set w none).set v none
                          rw [ih2 τ h2, List.set_comm _ _ h1]
                      rw [comm r _ c, ih, List.set_set]
                rw [ww] at w5'
                have g5i : σ5[ip]? = σ[ip]? := by
                  have := congrArg (fun l => l[ip]?) w5'
                  rwa [wipe_get vs σ5 ip hip, wipe_get vs σ ip hip] at this
                have notW5 : ¬ Wr σ5 ip D := fun z => notW (by unfold Wr at z ⊢; rw [← g5i]; exact z)
                refine ⟨w5', B, F, O0, plus O D, ρ1, (bb, ρ2), R5, q2, fun H5 g5 R5' => ?_⟩
                have hD5 : H5 D = some (.lst acc) := g5.kp D _ notW5 (s4 _ _ hacc)
                have fr5 : Same (off O H1) (off (plus O D) H5) := (fr.trans (off_mono s4)).trans g5.fr
                have lv5 : ∀ b, H1 b ≠ none → H5 b ≠ none := fun b z => g5.lv b fun e => lv b z (s4.free e)
                have kp5 : ∀ b o, ¬ Wr σ ip b → H1 b = some o → H5 b = some o := fun b o nw h => g5.kp b o (fun z => nw (by unfold Wr at z ⊢; rw [← g5i]; exact z)) (s4 _ _ (kp b o nw h))
                have Rw : SR X.K B F O0 H5 (plus O D) (wipe σ vs) (wipeD ρ2 vs) := by
                  have := R5'.wipe vs
                  rwa [w5'] at this
                have ns2 : ∀ (j : Nat) (y : DV), (wipeD ρ2 vs)[j]? = some (some y) → y.2 = .ow → (wipe σ vs)[j]? ≠ some (some (.ref D)) := fun j y e1 e2 => by
                  obtain ⟨y', z1, z2⟩ := owSub_ok hsub j y e1 e2
                  exact ns j y' z1 z2
                have nn2 : ∀ v x, v ∈ vs → (wipeD ρ2 vs)[v]? = some x → x = none := fun v x hv e => wipeD_none vs ρ2 v x hv e
                have hd5 : RepL X.K (off (plus O D) H5) acc done := (hdone.mono (off_mono s4)).mono g5.fr
                cases bb with
                | false =>
                  show (if false = true then _ else _)
                  rw [if_neg Bool.false_ne_true]
                  simp only [Bool.false_eq_true, if_false] at hrr
                  exact ⟨fr5, lv5, kp5, acc, done, wipeD ρ2 vs, rr, hD5, hd5, by omega, hrr, htot, hend, Rw, ns2, nn2⟩
                | true =>
                  simp only [if_true] at hrr ⊢
                  cases q3 : pe ρ2 with
                  | no => rw [q3] at hrr; cases hrr
                  | ex z => rw [q3] at hrr; cases hrr
                  | ok xx =>
                    rw [q3] at hrr
                    simp only [FK.R.quiet] at hrr
                    cases q4 : keep1 xx with
                    | none => simp only [q4] at hrr; cases hrr
                    | some yd =>
                      simp only [q4] at hrr
                      cases q5 : lcMm f pt pe vs (ds.drop (i + 1)) (wipeD ρ2 vs) with
                      | no => rw [q5] at hrr; cases hrr
                      | ex z => rw [q5] at hrr; cases hrr
                      | ok rr2 =>
                        rw [q5] at hrr
                        cases hrr
                        refine ⟨B, F, O0, plus O D, ρ2, xx, R5', q3, fun yv H6 s6 o6 => ?_⟩
                        have hD6 : H6 D = some (.lst acc) := s6 _ _ hD5
                        have hal : acc.length = done.length := hdone.length
                        have rep : Rep X.K (off (plus O D) H6) yv yd := o6.keep q4
                        have hoff : off (plus O D) (upd H6 D (.lst (acc ++ [yv]))) = off (plus O D) H6 := off_upd oD
                        refine ⟨acc, hD6, by omega, ?_, ?_, ?_, acc ++ [yv], done ++ [yd], wipeD ρ2 vs, rr2, upd_same, ?_, by rw [List.length_append]; exact Nat.succ_le_succ hlen, q5, by rw [← htot, List.append_assoc]; rfl, hend, ?_, ns2, nn2⟩
                        · rw [hoff]; exact fr5.trans (off_mono s6)
                        · intro b z e
                          by_cases c : b = D
                          · subst c; exact z hD
                          · rw [upd_ne c] at e; exact lv5 b z (s6.free e)
                        · intro b o nw h
                          rw [upd_ne (ne_of_none h hD)]
                          exact s6 _ _ (kp5 b o nw h)
                        · rw [hoff]
                          exact (hd5.mono (off_mono s6)).append (.cons rep .nil)
                        · exact (Rw.more s6).writeT oD bD ns2 (fun _ z => nomatch z)
              · cases hrr
        · have e : i = ds.length := by omega
          subst e
          rw [List.drop_length] at hrr
          cases hrr
          rw [List.append_nil] at htot
          subst htot
          dsimp only at hend
          subst hend
          refine .inl ⟨i2 (Nat.le_refl _), hQ _ _ ⟨fun b o h => ?_, fun b z => lv b fun e => z (s1.free e), fun b o nw h => kp b o nw (s1 _ _ h)⟩ ?_ ⟨D, rfl, s1.free hD, nD, acc, hacc, hdone⟩⟩
          · exact off_anti (fun b z => .inl z) _ _ (fr _ _ (off_mono s1 _ _ h))
          · exact (R'.drop nD n0 ns).unwipe vs nn
    · trivial
theorem dm_lc {ifc : Expr} {scope : Scope} {own : List (Str × Nat)} {q : Env → R (List D × Kd)} (ip : Nat) (hc : X.calm = true) (hN : X.N.Nodup) (hi : DI X E tg iter q) (ok : BlkOk X.N X.env.scope scope own) (his : ∀ i ∈ is, i ∈ own.map (·.2))
    (hg : ∀ (s : Shared) (H : Hp) (C : Addr) (cl : List (Str × Addr)) (fp : List Addr), DG (X.blk s H scope (compEnvC scope cl C X.env) fp) tg is f)
    (ht : ∀ (s : Shared) (H : Hp) (C : Addr) (cl : List (Str × Addr)) (fp : List Addr), DTm (X.blk s H scope (compEnvC scope cl C X.env) fp) FK.E0 ip ifc pt)
    (he : ∀ (s : Shared) (H : Hp) (C : Addr) (cl : List (Str × Addr)) (fp : List Addr), DE (X.blk s H scope (compEnvC scope cl C X.env) fp) FK.E0 elt pe) (hs : ∀ x, foldedSetIterable iter X.env x = pure x := by intro _; rfl) :
    DEm X E ip (.ListComp elt [⟨tg, iter, [ifc], 0⟩] scope pos) (mLcM ip q f pt pe (own.map (·.2))) := by
  obtain ⟨wi, a1, a2⟩ := hi.ex
  refine ⟨_, pe_lc hc hN a1 ok (g := cG X.K is f) (tt := cTTm X.K ip pt) (te := cT X.K pe) (fun s H C cl fp => (hg s H C cl fp).canon) (fun s H C cl fp => pts_one (ht s H C cl fp).canon) (fun s H C cl fp => (he s H C cl fp).canon) hs, fun B F O0 H O σ ρ R => ?_⟩
  exact ev_lcM R (a2 B F O0 H O σ ρ R) his
end
end FK
namespace FK
open PySem PySem.Spec L2
open PyProof.Rows hiding St
/-! FX12: the rule for a def that writes its first argument. -/
def slotOw (ρ : Env) (i : Nat) : Option D := match ρ[i]? with | some (some (d, .ow)) => some d | _ => none
theorem slotOw_eq {ρ : Env} {i : Nat} {d : D} (h : slotOw ρ i = some d) : ρ[i]? = some (some (d, .ow)) := by
  unfold slotOw at h
  split at h
  · cases h; assumption
  · cases h
def runP (N : Nat) (m : Env → SOp) (d0 : D) (as : List DV) : R (DV × D) := match m (some (d0, .ow) :: (as.map some ++ List.replicate (N - (as.length + 1)) none)) with
  | .rt x ρ' => if x.2 = .fz then (match slotOw ρ' 0 with | some d' => .ok (x, d') | none => .no) else .no
  | _ => .no
theorem start_srM {K : PySem.W.Frag} {N : List Str} {H : Hp} {O : Own} {a : Addr} {d0 : D} {ws : List V} {as : List DV} (oa : O a) (dom2 : ∀ b, O b → H b ≠ none ∧ ∀ xs, H b ≠ some (.tup xs)) (c : OwnC K H O a d0) (h : ArgsOk K H O ws as) (hz : ∀ x ∈ as, x.2 = .fz) :
    SR K (but a H) (off O H) (fun b => O b ∧ b ≠ a) H O (L2.start N (.ref a :: ws)) (some (d0, .ow) :: (as.map some ++ List.replicate (N.length - (as.length + 1)) none)) := by
  have hl := h.length
  have own : ∀ (i : Nat) (x : DV), (as.map some ++ List.replicate (N.length - (as.length + 1)) none)[i]? = some (some x) → as[i]? = some x := fun i x e => by
    by_cases c : i < as.length
    · rw [List.getElem?_append_left (by simpa using c), List.getElem?_map] at e
      cases q : as[i]? with
      | none => rw [q] at e; cases e
      | some y => rw [q] at e; cases e; rfl
    · rw [List.getElem?_append_right (by simpa using c), List.getElem?_replicate] at e
      split at e <;> cases e
  have fzs : ∀ (i : Nat) (x : DV), as[i]? = some x → x.2 = .fz := fun i x e => hz x (List.mem_of_getElem? e)
  have sb : Same (but a H) H := fun b o e => (but_ne e).2
  refine ⟨by unfold L2.start; simp [hl], sb, Same.refl _, fun b o e => ?_, fun b z => (dom2 b z).1, fun b z => by rw [but_of z.2]; exact (dom2 b z.1).1, fun b z => z.1, fun i x e => ?_, fun i j x y b hij e1 k1 e2 k2 g1 g2 => ?_, fun b xs z => (dom2 b z).2 xs⟩
  · obtain ⟨z1, z2⟩ := off_some e
    obtain ⟨z3, z4⟩ := but_ne z2
    exact off_of (fun z => z1 ⟨z, z3⟩) z4
  · cases i with
    | zero =>
      simp at e
      subst e
      exact ⟨.ref a, by unfold L2.start; simp, a, rfl, oa, if_pos rfl, c⟩
    | succ i =>
      have e' := own i x (by simpa using e)
      obtain ⟨v, h1, h2⟩ := args_slot h e'
      refine ⟨v, ?_, ?_⟩
      · unfold L2.start
        have cc : i < ws.length := (List.getElem?_eq_some_iff.mp h1).1
        rw [List.getElem?_append_left (by simp; omega), List.getElem?_map]
        simp [h1]
      · obtain ⟨d, k⟩ := x
        cases (show k = .fz from fzs i _ e')
        exact h2
  · cases i with
    | zero =>
      cases j with
      | zero => exact hij rfl
      | succ j =>
        have := fzs j y (own j y (by simpa using e2))
        rw [k2] at this
        cases this
    | succ i =>
      have := fzs i x (own i x (by simpa using e1))
      rw [k1] at this
      cases this
section
variable {P : Program} {w : World} {K : PySem.W.Frag} {mg : Str → Option Value} {base : Heap}
theorem fn_ruleM {x qual : Str} {st : Stmt} {f : Addr} {fd : FuncData} {N ps : List Str} {k n : Nat} {m : Env → SOp} (F : Fun K x qual st f fd) (S : FnScope N ps (defScope st)) (hn : ps.length = n + 1) (hm : mg x = some (.ref f)) (hb : Binds K fd ps [])
    (body : ∀ (cdv : Value) (A : Around) (outer : List PySem.Env) (s : Shared) (H : Hp) (E : XK), Room k (bodyX P w K mg base N qual st f cdv A outer s H E).A → DSps (bodyX P w K mg base N qual st f cdv A outer s H E) E (defBody st) m) :
    CallM P w K mg base x (k + 1) n (runP N.length m) := by
  refine ⟨f, fd, ps, hm, F.okX S (fun vs H Q E h => by rw [hn]; exact h.1) fun cdv A outer s H vs Q E hr h => ?_, F.kp, hb⟩
  obtain ⟨hl, O, a, d0, ws, as, rfl, oa, dom2, c, hargs, hz, hend⟩ := h
  obtain ⟨t, h1, h2⟩ := (body cdv A outer s H E hr).ex
  have R := start_srM (N := N) oa dom2 c hargs hz
  refine ⟨t, h1, h2 _ _ _ H O _ _ _ a R (by unfold L2.start; simp) ?_⟩
  unfold runP at hend
  cases q : m (some (d0, .ow) :: (as.map some ++ List.replicate (N.length - (as.length + 1)) none)) with
  | nx ρ => rw [q] at hend; exact hend.elim
  | no => rw [q] at hend; exact hend.elim
  | rt y ρ' =>
    rw [q] at hend
    dsimp only at hend
    intro v σ' H' O' R' ha rv
    by_cases hk : y.2 = .fz
    · rw [if_pos hk] at hend
      cases e0 : slotOw ρ' 0 with
      | none => rw [e0] at hend; exact hend.elim
      | some d' =>
        rw [e0] at hend
        dsimp only at hend
        have e2 := slotOw_eq e0
        obtain ⟨v0, g1, b, eb, ob, nb, c2⟩ := R'.slot 0 _ e2
        rw [ha] at g1
        cases g1
        cases eb
        have sub : ∀ b, O b → O' b := fun b z => by
          by_cases e : b = a
          · rw [e]; exact ob
          · exact R'.sub b ⟨z, e⟩
        exact hend v H' R'.base (c2.mono (fun _ z => z) (off_anti sub)) (fun _ => Rep.mono (off_anti sub) rv) hk
    · rw [if_neg hk] at hend
      exact hend.elim
end
end FK
namespace FK
open PySem PySem.Spec L2
open PyProof.Rows hiding St
/-! FX13: sorted of a tuple. -/
section
open PySem.W
variable {pg : Program} {ww : World} {AA : Around} {EE : Value → Shared → Prop} {t : Shared}
theorem coll_tup {a : Addr} {ws : List Value} {P : List Value → Shared → Prop} (ha : PyProof.Rows.IsTup t.heap a ws.toArray) (hz : ws.length ≤ sizeLine)
    (k : P ws { t with heap := (t.heap.push (seqObj "list" #[] 0)).update t.heap.objs.size (Obj.mapSeq (· ++ ws.toArray)) }) : wpAny (model pg ww) AA (collect (.ref a)) P EE t := by
  obtain ⟨ob, h1, h2, m, h3⟩ := id ha
  have h1' : (t.heap.push (seqObj "list" #[] 0)).get? a = some ob := by exact Heap.get?_push_of_some _ h1
  have fresh : (t.heap.push (seqObj "list" #[] 0)).get? t.heap.objs.size = some (seqObj "list" #[] 0) := by exact Heap.get?_push_size _ rfl
  unfold collect; refine wpAny_bind (wpAny_runValue (codeAny_builtin entry_proto_collect' ?_))
  show wpAny _ _ (do again (.builtin "list.__iadd__" ⟨[← newList [], .ref a], []⟩)) _ _ t
  have qu : ∀ c : Args, (Code.builtin "list.__iadd__" c).quiet = true := fun c => Code.quiet_builtin _ (by decide +kernel)
  refine wpAny_bind (wpAny_newList (wpAny_pure ⟨qu _, codeAny_builtin entry_list_iadd' ?_⟩))
  show wpAny _ _ (Builtin.List.listExtendWith (.ref t.heap.objs.size) (.ref a) (.ref t.heap.objs.size)) _ _ { t with heap := t.heap.push (seqObj "list" #[] 0) }
  unfold Builtin.List.listExtendWith; refine wpAny_bind (wpAny_typeOf (T := "tuple") ⟨ob, h1', h2⟩ ?_)
  have e : (Value.type "tuple" == Value.type "tuple") = true := by rfl
  rw [if_pos (by rw [e]; simp)]; refine wpAny_bind (listItems_at h1' h3 ?_)
  refine wpAny_bind (listItems_at (xs := #[]) (n := 0) fresh rfl ?_)
  rw [if_neg (by simp)]; refine wpAny_bind (listUpdate_at (xs := #[]) (n := 0) fresh rfl ?_ (Nat.zero_le _) ?_)
  · refine wpAny_pure ?_
    show wpAny (model pg ww) AA (do
        let ob ← load t.heap.objs.size
        match ob.data with | .seq ys _ => pure ys.toList | _ => unsupported "internal:collect") P EE { t with heap := (t.heap.push (seqObj "list" #[] 0)).update t.heap.objs.size (Obj.mapSeq (· ++ ws.toArray)) }
    refine wpAny_bind (wpAny_load (get?_update_seq fresh _) ?_)
    show wpAny _ _ (pure ((#[] : Array Value) ++ ws.toArray).toList) P EE _
    rw [show ((#[] : Array Value) ++ ws.toArray).toList = ws by simp]; exact wpAny_pure k
  · show (#[] ++ ws.toArray).size ≤ sizeLine + 1
    simp only [Array.size_append, List.size_toArray, List.length_nil]; omega
theorem tup_of_sort {a : Addr} {ws : List Value} {P : Value → Shared → Prop} (ha : PyProof.Rows.IsTup t.heap a ws.toArray) (hz : ws.length ≤ sizeLine)
    (body : ∀ E' : Value → Shared → Prop, wpAny (model pg ww) AA.in1.in1 (Builtin.«list.sort» ⟨[.ref (t.heap.objs.size + 1)], []⟩) (fun f s' => f = .done (.ret .none) ∧ P (.ref (t.heap.objs.size + 1)) s') E' { t with heap := copyHeap t.heap ws }) :
    wpAny (model pg ww) AA (call (.builtin "sorted") [.ref a] []) P EE t := by
  refine call_function_entry_kw kind_sorted plain_sorted entry_sorted (by exact args_sorted1 _) ?_
  unfold Builtin.«sorted»; refine wpAny_bind (m := checkCount "sorted" 1 1 _) (wpAny_pure ?_)
  refine wpAny_bind (coll_tup ha hz ?_); refine wpAny_bind (wpAny_newList ?_ hz)
  have hs : ((t.heap.push (seqObj "list" #[] 0)).update t.heap.objs.size (Obj.mapSeq (· ++ ws.toArray))).objs.size = t.heap.objs.size + 1 := by
    rw [Heap.size_update, size_push']
  show wpAny _ _ _ _ _ { t with heap := copyHeap t.heap ws }
  rw [hs]; refine wpAny_bind (wpAny_holding (wpAny_call_entry_kw slot_list_sort ⟨_, copyHeap_at t.heap ws, rfl⟩ entry_list_sort ?b (args_list_sort _)))
  case b =>
    show wpAny (model pg ww) AA.in1.in1 (Builtin.«list.sort» ⟨[.ref (t.heap.objs.size + 1)], []⟩) _ _ _
    refine wpAny_mono (body _) (fun f s' hf => ?_) fun _ _ z => z
    obtain ⟨rfl, q⟩ := hf; exact ⟨_, rfl, wpAny_pure ⟨_, rfl, q⟩⟩
theorem tup_sorted {β : Type} {R : Value → β → Prop} {enc : β → PyData} {bs : List β} {a : Addr} {ws : List Value} {P : Value → Shared → Prop} (ha : PyProof.Rows.IsTup t.heap a ws.toArray) (e : EachIs R ws bs) (er : EachIs (fun v b => ∃ as, Reads t.heap v (enc b) as) ws bs) (hal : AllAlike (bs.map enc)) (hk : Sortable (bs.map enc)) (hL : bs.length ≤ sizeLine)
    (hu : ∀ b, b ∈ bs → AA.units + 2 + (enc b).depth < cLine) (k : ∀ out, out.length = bs.length → EachIs R out (bs.mergeSort (dataLe false enc)) → P (.ref (t.heap.objs.size + 1)) { t with heap := sortedAll t.heap ws (List.toArray out) }) :
    wpAny (model pg ww) AA (call (.builtin "sorted") [.ref a]) P EE t := by
  have er' : EachIs (fun v b => ∃ as, Reads (sortingHeap (copyHeap t.heap ws) (t.heap.objs.size + 1) ws) v (enc b) as) ws bs := er.mono fun _ _ ⟨as, r⟩ => ⟨as, by exact PyProof.Rows.Reads.keeps (fun _ _ => sorting_copy_old) r⟩
  have S : SortsAt pg ww AA.in1.in1 { t with heap := sortingHeap (copyHeap t.heap ws) (t.heap.objs.size + 1) ws } (dataKind (sortingHeap (copyHeap t.heap ws) (t.heap.objs.size + 1) ws) (bs.map enc)) ws :=
    SortsAt.data (s := { t with heap := sortingHeap (copyHeap t.heap ws) (t.heap.objs.size + 1) ws }) (each_map (R := fun v d => ∃ as, Reads (sortingHeap (copyHeap t.heap ws) (t.heap.objs.size + 1) ws) v d as) enc er') hal hk (bound_map hu)
  have hz : ws.length ≤ sizeLine := by rw [e.length]; exact hL
  exact tup_of_sort ha hz fun _ => list_sort_vals (s := { t with heap := copyHeap t.heap ws }) (copyHeap_at t.heap ws) S hz ⟨rfl, k _ (by rw [sortVals_length false rfl]; exact e.length) (sortVals_data false e er' hal)⟩
end
section
variable {X : Cx} {E : XK} {k : Nat}
def rSortT (K : PySem.W.Frag) : List V → Hp → VK → Prop := fun vs H Q => ∃ a xs ds, vs = [V.ref a] ∧ SqT K H a xs ∧ DpAll K H xs (D.pyL ds) ∧ sortOk ds = true ∧ ∀ (ps : List (V × D)) (p : Addr), ps.map (·.2) = sortD ds → (∀ q ∈ ps, q ∈ xs.zip ds) → ps.length = ds.length → H p = none → Q (.ref p) (upd H p (.lst (ps.map (·.1))))
theorem cr_sortT (hr : Room k X.A) : CallR X (.builtin "sorted") (rSortT X.K) := by
  intro pins s σ H vs us Q I rv hq
  obtain ⟨a, xs, ds, rfl, hs, hd, ok, q⟩ := hq
  obtain ⟨its, ri, hl, hz⟩ := I.tuple hs
  rw [Vals.ref1 rv]
  obtain ⟨e1, e2⟩ := each_zip (K := X.K) I hd ri
  have hlen := DpAll.len hd
  have hsnd : (xs.zip ds).map (·.2) = ds := zip_snd hlen
  have hmem : ∀ b ∈ xs.zip ds, b.2 ∈ ds := fun b hb => by rw [← hsnd]; exact List.mem_map_of_mem hb
  simp only [sortOk, Bool.and_eq_true, Bool.or_eq_true, decide_eq_true_eq] at ok
  obtain ⟨⟨⟨⟨k1, k2⟩, k3⟩, k4⟩, k5⟩ := ok
  have hlz : (xs.zip ds).length = ds.length := by rw [List.length_zip]; omega
  have hu := hr.un
  refine tup_sorted (enc := fun b : V × D => b.2.py) hl e1 e2 ?_ ?_ (by omega) (fun b hb => ?_) fun out ho eo => ?_
  · intro d h1 d' h2
    obtain ⟨b, hb, rfl⟩ := List.mem_map.mp h1
    obtain ⟨b', hb', rfl⟩ := List.mem_map.mp h2
    have := List.all_eq_true.mp k3 _ (hmem b hb)
    exact List.all_eq_true.mp this _ (hmem b' hb')
  · rcases k4 with c | c
    · refine .inr fun d h1 => ?_
      obtain ⟨b, hb, rfl⟩ := List.mem_map.mp h1
      have := List.all_eq_true.mp c _ (hmem b hb)
      cases e : b.2 <;> rw [e] at this <;> first | (cases this; done) | exact ⟨(fun z => by simp only [D.py] at z; cases z), (fun ys z => by simp only [D.py] at z; cases z)⟩
    · refine .inl fun d h1 => ?_
      obtain ⟨b, hb, rfl⟩ := List.mem_map.mp h1
      have := List.all_eq_true.mp c _ (hmem b hb)
      cases e : b.2 <;> rw [e] at this <;> first | (cases this; done) | skip
      rename_i ys
      cases ys with
      | nil => cases this
      | cons y r => exact ⟨y.py, D.pyL r, by simp only [D.py, D.pyL]⟩
  · have := List.all_eq_true.mp k5 _ (hmem b hb)
    have : b.2.py.depth ≤ 100 := of_decide_eq_true this
    omega
  · obtain ⟨ep, he'⟩ := PyProof.Rows.sortedAll_at s.heap its out.toArray
    have hp : ((xs.zip ds).mergeSort (PySem.W.dataLe false fun b => b.2.py)).length = ds.length := by rw [List.length_mergeSort]; exact hlz
    refine ⟨.ref _, upd H (s.heap.objs.size + 1) (.lst (((xs.zip ds).mergeSort (PySem.W.dataLe false fun b => b.2.py)).map (·.1))), I.laid (t' := s.toks) (fun _ _ => PyProof.Rows.sortedAll_old) (Nat.le_succ _) ⟨by rw [List.length_map]; omega, out, ep, each_vals eo, he'⟩, rfl, q _ _ ?_ ?_ hp (I.hok.fresh (Nat.le_succ _))⟩
    · unfold sortD
      rw [List.map_mergeSort (s := fun a b : D => !PySem.W.dataLt b.py a.py), hsnd]
      intro a _ b _
      rfl
    · exact fun z hz => (List.mergeSort_perm _ _).mem_iff.mp hz
def gSortedT (x : DV) : R DV := match x.1 with
  | .tup ds => if sortOk ds = true then .ok (.lst (sortD ds), .ow) else .no
  | _ => .no
def gSortedA (x : DV) : R DV := match x.1 with
  | .tup _ => gSortedT x
  | _ => gSorted x
theorem cr_sortA (hr : Room k X.A) : CallR X (.builtin "sorted") (fun vs H Q => rSortG X.K vs H Q ∨ rSortT X.K vs H Q) := by
  intro pins s σ H vs us Q I rv hq
  rcases hq with h | h
  · exact cr_sortG hr pins s σ H vs us Q I rv h
  · exact cr_sortT hr pins s σ H vs us Q I rv h
theorem cb_sortedA (hr : Room k X.A) : CB X E (.builtin "sorted") (one gSortedA) := cb1 (cr_sortA hr) fun B O0 H0 H O x v s dom hx => by
  obtain ⟨d, kk⟩ := x
  have go : ∀ (f : List D → D) (ds : List D) (r : List V → Hp → VK → Prop), (sortOk ds = true → ∀ Q : VK, (∀ p vs', H p = none → RepL X.K (off O H) vs' (sortD ds) → vs'.length ≤ sizeLine → Q (.ref p) (upd H p (.lst vs'))) → r [v] H Q) →
      EvG X.K X.mg O E H (if sortOk ds = true then .ok (.lst (sortD ds), .ow) else .no) (ORel X.K B O0 H O) (fun Q => r [v] H Q) := fun f ds r h => by
    split
    · rename_i c
      exact fun Q hQ => h c Q fun p vs' hp rr hz => (ev_lst (mg := X.mg) (E := E) (B := B) (O0 := O0) dom rr Q fun v' H' s' o => hQ v' H' s' o) p hp
    · trivial
  cases d <;> first | exact True.intro | skip
  · rename_i ds
    obtain ⟨a, vs, rfl, h1, h2⟩ := hx.lst
    refine go (fun x => .lst x) ds (fun vs H Q => rSortG X.K vs H Q ∨ rSortT X.K vs H Q) fun c Q hQ => .inl ⟨a, vs, ds, rfl, h1, (h2.mono off_sub).dp ?_, c, fun ps p e1 e2 e3 hp => ?_⟩
    · simp only [sortOk, Bool.and_eq_true] at c
      exact c.1.1.1.2
    · have rr : RepL X.K (off O H) (ps.map (·.1)) (ps.map (·.2)) := repl_of fun q hq => repl_zip h2 q (e2 q hq)
      rw [e1] at rr
      refine hQ p _ hp rr ?_
      rw [List.length_map, e3]
      simp only [sortOk, Bool.and_eq_true, decide_eq_true_eq] at c
      exact c.1.1.1.1
  · rename_i ds
    obtain ⟨a, vs, rfl, h1, h2⟩ := hx.tup
    refine go (fun x => .tup x) ds (fun vs H Q => rSortG X.K vs H Q ∨ rSortT X.K vs H Q) fun c Q hQ => .inr ⟨a, vs, ds, rfl, h1, (h2.mono off_sub).dp ?_, c, fun ps p e1 e2 e3 hp => ?_⟩
    · simp only [sortOk, Bool.and_eq_true] at c
      exact c.1.1.1.2
    · have rr : RepL X.K (off O H) (ps.map (·.1)) (ps.map (·.2)) := repl_of fun q hq => repl_zip h2 q (e2 q hq)
      rw [e1] at rr
      refine hQ p _ hp rr ?_
      rw [List.length_map, e3]
      simp only [sortOk, Bool.and_eq_true, decide_eq_true_eq] at c
      exact c.1.1.1.1
end
end FK
namespace FK
open PySem PySem.Spec L2
open PyProof.Rows hiding St
/-! FX14: reversed; min of data; dicts of one pair with a tuple as key. -/
section
variable {X : Cx} {E : XK} {tg e : Expr} {p : Env → R DV} {pos pp : Pos}
theorem it_rev {K : PySem.W.Frag} {S Src : Hp} {a : Addr} {vs : List V} {ds : List D} (h : SqL K Src a vs) (r : RepL K S vs ds) : ItOk K S Src (Itv K a vs.length) ds.reverse := fun i H3 s => by
  have hl := r.length
  rw [List.length_reverse]
  refine ⟨fun hi => ?_, fun hi => by show vs.length ≤ i; omega, fun x H4 d y e => ?_⟩
  · obtain ⟨u, h1, _⟩ := r.get (List.getElem?_eq_getElem (show ds.length - 1 - i < ds.length by omega))
    exact ⟨by omega, vs, u, s.seq h, by rw [hl]; exact h1⟩
  · obtain ⟨rfl, y⟩ := y
    have hi : i < ds.length := by
      have := (List.getElem?_eq_some_iff.mp e).1
      rwa [List.length_reverse] at this
    rw [List.getElem?_reverse hi] at e
    obtain ⟨u, h1, h2⟩ := r.get e
    have := y vs (s.seq h)
    rw [hl, h1] at this
    cases this
    exact ⟨Same.refl _, fun O3 _ s3 => h2.mono s3⟩
theorem it_revT {K : PySem.W.Frag} {S Src : Hp} {a : Addr} {vs : List V} {ds : List D} (h : SqT K Src a vs) (r : RepL K S vs ds) : ItOk K S Src (RT.ItvT K a vs.length) ds.reverse := fun i H3 s => by
  have hl := r.length
  rw [List.length_reverse]
  refine ⟨fun hi => ?_, fun hi => by show vs.length ≤ i; omega, fun x H4 d y e => ?_⟩
  · obtain ⟨u, h1, _⟩ := r.get (List.getElem?_eq_getElem (show ds.length - 1 - i < ds.length by omega))
    exact ⟨by omega, vs, u, same_seqT s h, by rw [hl]; exact h1⟩
  · obtain ⟨rfl, y⟩ := y
    have hi : i < ds.length := by
      have := (List.getElem?_eq_some_iff.mp e).1
      rwa [List.length_reverse] at this
    rw [List.getElem?_reverse hi] at e
    obtain ⟨u, h1, h2⟩ := r.get e
    have := y vs (same_seqT s h)
    rw [hl, h1] at this
    cases this
    exact ⟨Same.refl _, fun O3 _ s3 => h2.mono s3⟩
def revD (x : DV) : R (List D × Kd) := match x.1 with
  | .lst xs => .ok (xs.reverse, x.2)
  | .tup xs => .ok (xs.reverse, x.2)
  | _ => .no
theorem di_rev (hc : X.calm = true) (hm : X.mg "reversed" = none) (hl : DE X E e p) (hg : Gl X "reversed" := by rfl) (hs : starEach [e] X.env = (false, eval e X.env) :: starEach [] X.env := by rfl) : DI X E tg (.Call (.Name "reversed" pp) [e] [] pos) (fun ρ => (p ρ).bind revD) := by
  obtain ⟨t, a1, a2⟩ := hl.ex
  refine ⟨_, RT.pi_revA hg hm a1 hs, fun B F O0 H O σ ρ R => ?_⟩
  refine EvG.bind (T1 := fun v H1 R => ∃ (a : Addr) (xs : List V), v = .ref a ∧ ((SqL X.K H1 a xs ∧ R (Itv X.K a xs.length) H1) ∨ (SqT X.K H1 a xs ∧ R (RT.ItvT X.K a xs.length) H1))) (a2 B F O0 H O σ ρ R) fun x v H1 s1 r1 => ?_
  have R1 := R.more s1
  unfold revD
  obtain ⟨d, kk⟩ := x
  cases d <;> first | exact True.intro | skip
  · obtain ⟨a, vs, rfl, h1, h2, h3⟩ := Out.src R1.base R1.fb r1 rfl
    exact fun Q hQ => ⟨a, vs, rfl, .inl ⟨h3, hQ _ _ (Same.refl _) (it_rev h1 h2)⟩⟩
  · obtain ⟨a, vs, rfl, h1, h2, h3⟩ := Out.srcT R1.base R1.fb r1 rfl
    exact fun Q hQ => ⟨a, vs, rfl, .inr ⟨h3, hQ _ _ (Same.refl _) (it_revT h1 h2)⟩⟩
def rgRev (x : DV) : R (List D × Kd) := match x.1 with | .int j => if 0 ≤ j ∧ j < 2 ^ 62 then .ok (rangeL (j - 1) (-1) j.toNat, .fz) else .no | _ => .no
theorem di_revRg {pos2 pp2 : Pos} (hm : X.mg "reversed" = none) (hm2 : X.mg "range" = none) (ha : DE X E e p) (hg : Gl X "reversed" := by rfl) (hg2 : Gl X "range" := by rfl) (hs : starEach [e] X.env = (false, eval e X.env) :: starEach [] X.env := by rfl)
    (hs2 : starEach [.Call (.Name "range" pp2) [e] [] pos2] X.env = (false, eval (.Call (.Name "range" pp2) [e] [] pos2) X.env) :: starEach [] X.env := by rfl) : DI X E tg (.Call (.Name "reversed" pp) [.Call (.Name "range" pp2) [e] [] pos2] [] pos) (fun ρ => (p ρ).bind rgRev) := by
  obtain ⟨t, a1, a2⟩ := ha.ex
  refine ⟨_, pi_revR hg hm (prg_1 hg2 hm2 a1 hs) hs2, fun B F O0 H O σ ρ R => ?_⟩
  refine EvG.bind (T1 := fun v H1 R => ∃ n : Int, v = .int n ∧ (-(2 ^ 62) ≤ (0 : Int) ∧ (0 : Int) < 2 ^ 62 ∧ -(2 ^ 62) ≤ n ∧ n < 2 ^ 62 ∧ R (Itc (0 + (((n - 0).toNat : Nat) : Int) - 1) (-1) (n - 0).toNat) H1)) (a2 B F O0 H O σ ρ R) fun x v H1 s1 r1 => ?_
  obtain ⟨d, kk⟩ := x
  cases d <;> first | exact True.intro | skip
  rename_i j
  obtain rfl := r1.int
  unfold rgRev
  dsimp only
  split
  · rename_i c
    refine fun Q hQ => ⟨j, rfl, by omega, by omega, by omega, by omega, hQ _ _ (Same.refl _) ?_⟩
    have e1 : (0 : Int) + (((j - 0).toNat : Nat) : Int) - 1 = j - 1 := by omega
    have e2 : (j - 0).toNat = j.toNat := by omega
    rw [e1, e2]
    exact it_range _ _ _
  · trivial
end
/-! ### min of data -/
mutual
theorem py_inj : ∀ {d e : D}, d.py = e.py → d.py.plain = true → d = e
  | .non, .non, _, _ => rfl
  | .bl _, .bl _, h, _ => by simp only [D.py] at h; cases h; rfl
  | .int _, .int _, h, _ => by simp only [D.py] at h; cases h; rfl
  | .str _, .str _, h, _ => by simp only [D.py] at h; cases h; rfl
  | .lst xs, .lst ys, h, p => by
    simp only [D.py, PyData.list.injEq] at h
    rw [pyL_inj h (by simpa only [D.py, PyData.plain] using p)]
  | .tup xs, .tup ys, h, p => by
    simp only [D.py, PyData.tuple.injEq] at h
    rw [pyL_inj h (by simpa only [D.py, PyData.plain] using p)]
  | .dk _, _, _, p => by simp only [D.py, PyData.plain] at p; cases p
  | .dt _, _, _, p => by simp only [D.py, PyData.plain] at p; cases p
  | .non, .bl _, h, _ => by simp only [D.py] at h; cases h
  | .non, .int _, h, _ => by simp only [D.py] at h; cases h
  | .non, .str _, h, _ => by simp only [D.py] at h; cases h
  | .non, .lst _, h, _ => by simp only [D.py] at h; cases h
  | .non, .tup _, h, _ => by simp only [D.py] at h; cases h
  | .non, .dk _, h, _ => by simp only [D.py] at h; cases h
  | .non, .dt _, h, _ => by simp only [D.py] at h; cases h
  | .bl _, .non, h, _ => by simp only [D.py] at h; cases h
  | .bl _, .int _, h, _ => by simp only [D.py] at h; cases h
  | .bl _, .str _, h, _ => by simp only [D.py] at h; cases h
  | .bl _, .lst _, h, _ => by simp only [D.py] at h; cases h
  | .bl _, .tup _, h, _ => by simp only [D.py] at h; cases h
  | .bl _, .dk _, h, _ => by simp only [D.py] at h; cases h
  | .bl _, .dt _, h, _ => by simp only [D.py] at h; cases h
  | .int _, .non, h, _ => by simp only [D.py] at h; cases h
  | .int _, .bl _, h, _ => by simp only [D.py] at h; cases h
  | .int _, .str _, h, _ => by simp only [D.py] at h; cases h
  | .int _, .lst _, h, _ => by simp only [D.py] at h; cases h
  | .int _, .tup _, h, _ => by simp only [D.py] at h; cases h
  | .int _, .dk _, h, _ => by simp only [D.py] at h; cases h
  | .int _, .dt _, h, _ => by simp only [D.py] at h; cases h
  | .str _, .non, h, _ => by simp only [D.py] at h; cases h
  | .str _, .bl _, h, _ => by simp only [D.py] at h; cases h
  | .str _, .int _, h, _ => by simp only [D.py] at h; cases h
  | .str _, .lst _, h, _ => by simp only [D.py] at h; cases h
  | .str _, .tup _, h, _ => by simp only [D.py] at h; cases h
  | .str _, .dk _, h, _ => by simp only [D.py] at h; cases h
  | .str _, .dt _, h, _ => by simp only [D.py] at h; cases h
  | .lst _, .non, h, _ => by simp only [D.py] at h; cases h
  | .lst _, .bl _, h, _ => by simp only [D.py] at h; cases h
  | .lst _, .int _, h, _ => by simp only [D.py] at h; cases h
  | .lst _, .str _, h, _ => by simp only [D.py] at h; cases h
  | .lst _, .tup _, h, _ => by simp only [D.py] at h; cases h
  | .lst _, .dk _, h, _ => by simp only [D.py] at h; cases h
  | .lst _, .dt _, h, _ => by simp only [D.py] at h; cases h
  | .tup _, .non, h, _ => by simp only [D.py] at h; cases h
  | .tup _, .bl _, h, _ => by simp only [D.py] at h; cases h
  | .tup _, .int _, h, _ => by simp only [D.py] at h; cases h
  | .tup _, .str _, h, _ => by simp only [D.py] at h; cases h
  | .tup _, .lst _, h, _ => by simp only [D.py] at h; cases h
  | .tup _, .dk _, h, _ => by simp only [D.py] at h; cases h
  | .tup _, .dt _, h, _ => by simp only [D.py] at h; cases h
theorem pyL_inj : ∀ {xs ys : List D}, D.pyL xs = D.pyL ys → PyData.plainAll (D.pyL xs) = true → xs = ys
  | [], [], _, _ => rfl
  | [], _ :: _, h, _ => by simp only [D.pyL] at h; cases h
  | _ :: _, [], h, _ => by simp only [D.pyL] at h; cases h
  | x :: xs, y :: ys, h, p => by
    simp only [D.pyL, List.cons.injEq] at h
    simp only [D.pyL, PyData.plainAll, Bool.and_eq_true] at p
    rw [py_inj h.1 p.1, pyL_inj h.2 p.2]
end
def minDD (d : D) (r : List D) : D := r.foldl (fun a y => if PySem.W.dataLt y.py a.py then y else a) d
theorem minDD_py : ∀ (r : List D) (d : D), (minDD d r).py = PySem.W.minD d.py (D.pyL r)
  | [], _ => rfl
  | y :: r, d => by
    have ih := minDD_py r (if PySem.W.dataLt y.py d.py then y else d)
    unfold minDD PySem.W.minD at ih ⊢
    simp only [D.pyL, List.foldl_cons]
    rw [ih]
    congr 1
    split <;> rfl
theorem minDD_mem : ∀ (r : List D) (d : D), minDD d r = d ∨ minDD d r ∈ r
  | [], _ => .inl rfl
  | y :: r, d => by
    have ih := minDD_mem r (if PySem.W.dataLt y.py d.py then y else d)
    show minDD (if PySem.W.dataLt y.py d.py then y else d) r = d ∨ minDD (if PySem.W.dataLt y.py d.py then y else d) r ∈ y :: r
    rcases ih with h | h
    · rw [h]
      split
      · exact .inr List.mem_cons_self
      · exact .inl rfl
    · exact .inr (List.mem_cons_of_mem _ h)
def minOk (ds : List D) : Bool := PyData.plainAll (D.pyL ds) && (ds.all fun a => ds.all fun b => PySem.W.alike a.py b.py) && (ds.all D.tup1) && ds.all fun a => decide (a.py.depth ≤ 100)
section
variable {X : Cx} {E : XK} {k : Nat}
def rMinT (K : PySem.W.Frag) : List V → Hp → VK → Prop := fun vs H Q => ∃ a xs d ds, vs = [V.ref a] ∧ SqL K H a xs ∧ DpAll K H xs (D.pyL (d :: ds)) ∧ minOk (d :: ds) = true ∧ ∀ (i : Nat) (v : V) (e : D), xs[i]? = some v → (d :: ds)[i]? = some e → e = minDD d ds → Q v H
theorem dpAll_len {K : PySem.W.Frag} {H : Hp} : ∀ {vs : List V} {ds : List D}, DpAll K H vs (D.pyL ds) → vs.length = ds.length
  | _, [], .nil => rfl
  | _, _ :: _, .cons _ b => congrArg (· + 1) (dpAll_len b)
theorem dpAll_reads {pins : List (Addr × Obj)} {σ : L2.St} {H : Hp} {s : Shared} (I : Inv X pins σ H s) : ∀ {xs : List V} {ds : List D} {us : List Value}, DpAll X.K H xs (D.pyL ds) → Vals xs us → ∃ as, ReadsAll s.heap us (D.pyL ds) as
  | _, [], _, .nil, .nil => ⟨_, .nil⟩
  | _, d :: ds, _, .cons a b, .cons r rs => by
    obtain ⟨as, h1⟩ := dpAll_reads I b rs
    obtain ⟨bs, h2⟩ := Dp.reads I _ _ _ a r
    exact ⟨_, .cons h2 h1⟩
theorem readsAll_nth {h : Heap} : ∀ {us : List Value} {ds : List PyData} {as : List Addr} {i : Nat} {u : Value}, ReadsAll h us ds as → us[i]? = some u → ∃ d bs, ds[i]? = some d ∧ Reads h u d bs
  | _, _, _, _, _, .nil, e => by simp at e
  | _, _, _, 0, _, .cons a b, e => by simp at e; subst e; exact ⟨_, _, rfl, a⟩
  | _, _, _, i + 1, _, .cons a b, e => by
    obtain ⟨d, bs, h1, h2⟩ := readsAll_nth (i := i) b (by simpa using e)
    exact ⟨d, bs, by simpa using h1, h2⟩
theorem cr_minT (hc : X.calm = true) (hr : Room k X.A) : CallR X (.builtin "min") (rMinT X.K) := by
  intro pins s σ H vs us Q I rv hq
  obtain ⟨a, xs, d, ds, rfl, hs, hd, ok, q⟩ := hq
  obtain ⟨its, ri, hl, hz⟩ := I.list hs
  rw [Vals.ref1 rv]
  obtain ⟨as, hR⟩ := dpAll_reads I hd ri
  have hlen := dpAll_len hd
  simp only [minOk, Bool.and_eq_true] at ok
  obtain ⟨⟨⟨k2, k3⟩, k4⟩, k5⟩ := ok
  have hu := hr.un
  have hall : D.pyL (d :: ds) = d.py :: D.pyL ds := rfl
  have hdep : PyData.depthAll (d.py :: D.pyL ds) ≤ 100 := by
    rw [← hall, D.pyL_map]
    have go : ∀ l : List D, (∀ x ∈ l, x.py.depth ≤ 100) → PyData.depthAll (l.map D.py) ≤ 100 := by
      intro l
      induction l with
      | nil => intro _; simp only [List.map_nil, PyData.depthAll]; omega
      | cons x r ih =>
        intro h
        have h1 := h x List.mem_cons_self
        have h2 := ih fun y hy => h y (List.mem_cons_of_mem _ hy)
        simp only [List.map_cons, PyData.depthAll]
        omega
    exact go _ fun x hx => of_decide_eq_true (List.all_eq_true.mp k5 x hx)
  have hal : PySem.W.AlikeAll (d.py :: D.pyL ds) := by
    rw [← hall, D.pyL_map]
    refine ⟨fun x hx y hy => ?_, fun x hx z => ?_⟩
    · obtain ⟨x', hx', rfl⟩ := List.mem_map.mp hx
      obtain ⟨y', hy', rfl⟩ := List.mem_map.mp hy
      exact List.all_eq_true.mp (List.all_eq_true.mp k3 x' hx') y' hy'
    · obtain ⟨x', hx', rfl⟩ := List.mem_map.mp hx
      have := List.all_eq_true.mp k4 x' hx'
      cases x' <;> first | (cases this; done) | (simp only [D.py] at z; cases z)
  refine PySem.W.min_list_data (x := d.py) (xs := D.pyL ds) (I.ok.hd hc) hl.isList hR hal (by omega) fun i v h' tk bs hv hr' hk => ?_
  have hv' : its[i]? = some v := by simpa using hv
  obtain ⟨e, bs', g1, g2⟩ := readsAll_nth hR hv'
  have e1 := (reads_det (fun b o h _ => hk b o h) g2 hr').1
  rw [← minDD_py] at e1
  obtain ⟨x, hx, rx⟩ : ∃ x, xs[i]? = some x ∧ RelV x v := by
    have hi : i < xs.length := by
      have := (List.getElem?_eq_some_iff.mp hv').1
      rw [ri.length]
      exact this
    obtain ⟨u, hu1, hu2⟩ := ri.get (List.getElem?_eq_getElem hi)
    rw [hv'] at hu1
    cases hu1
    exact ⟨_, List.getElem?_eq_getElem hi, hu2⟩
  obtain ⟨ed, ed1, ed2⟩ : ∃ ed, (d :: ds)[i]? = some ed ∧ ed.py = e := by
    rw [D.pyL_map, List.getElem?_map] at g1
    cases q : (d :: ds)[i]? with
    | none => rw [q] at g1; cases g1
    | some ed => rw [q] at g1; cases g1; exact ⟨ed, rfl, rfl⟩
  have pl : ed.py.plain = true := by
    have go : ∀ (l : List D) (i : Nat) (x : D), PyData.plainAll (D.pyL l) = true → l[i]? = some x → x.py.plain = true := by
      intro l
      induction l with
      | nil => intro i x _ h; simp at h
      | cons y r ih =>
        intro i x p h
        simp only [D.pyL, PyData.plainAll, Bool.and_eq_true] at p
        cases i with
        | zero => simp at h; subst h; exact p.1
        | succ i => exact ih i x p.2 (by simpa using h)
    exact go _ i ed k2 ed1
  subst ed2
  exact ⟨x, H, I.kept hk, rx, q i x ed hx ed1 (py_inj e1.symm pl)⟩
def gMinT (x : DV) : R DV := match x.1 with
  | .lst (d :: ds) => if minOk (d :: ds) = true then .ok (minDD d ds, .fz) else .no
  | _ => .no
theorem cb_minT (hc : X.calm = true) (hr : Room k X.A) : CB X E (.builtin "min") (one gMinT) := cb1 (cr_minT hc hr) fun B O0 H0 H O x v s dom hx => by
  obtain ⟨dd, kk⟩ := x
  cases dd <;> first | exact True.intro | skip
  rename_i ds
  cases ds with
  | nil => exact True.intro
  | cons d ds =>
    obtain ⟨a, vs, rfl, h1, h2⟩ := hx.lst
    unfold gMinT
    dsimp only
    split
    · rename_i c
      have pl : PyData.plainAll (D.pyL (d :: ds)) = true := by
        simp only [minOk, Bool.and_eq_true] at c
        exact c.1.1.1
      refine fun Q hQ => ⟨a, vs, d, ds, rfl, h1, (h2.mono off_sub).dp pl, c, fun i w e hw he hm => ?_⟩
      obtain ⟨u, u1, u2⟩ := h2.get he
      rw [hw] at u1
      cases u1
      subst hm
      exact hQ _ _ (Same.refl _) u2
    · trivial
end
/-! {k: v}, k a tuple -/
section
variable {X : Cx}
def tDispT (tk tv : TE) : TE := fun σ H Q => ∀ p, H p = none → tk σ (upd H p (.dT [])) fun x H1 => tv σ H1 fun y H2 => H2 p = some (.dT []) ∧ ∃ (ks : List Key) (b : Addr), x = .ref b ∧ H2 b = some (.tup (ks.map kV)) ∧ Q (.ref p) (upd H2 p (.dT [(ks, y)]))
theorem pe_dispT {ke ve : Expr} {tk tv : TE} {pos : Pos} (hu : X.A.units < cLine) (hk : PE X ke tk) (hv : PE X ve tv) : PE X (.Dict [some ke] [ve] pos) (tDispT tk tv) := by
  refine ⟨fun pins s σ H Q I q => ?_⟩
  have free : H s.heap.objs.size = none := I.hok.fresh (Nat.le_refl _)
  have I1 := I.laid (a := s.heap.objs.size) (o := .dT []) (h' := s.heap.push { cls := .type "dict", data := .dict #[] }) (t' := s.toks) (fun b u z => by exact Heap.get?_push_of_some _ z) (Nat.le_refl _) (dt_empty s.heap I.big)
  have hn : (pairTrees [some ke] [ve] X.env pos).length = 1 := pairTrees_length _ _ _ _ rfl rfl
  rw [arm_eval_Dict, zip_pairTrees [some ke] [ve] X.env pos rfl rfl, dictDisplay_pairs (pairTrees [some ke] [ve] X.env pos) (fun z => by rw [z] at hn; cases hn) (by omega)]
  refine wpAny_bind (wpAny_standAt (wpAny_bind (wpAny_subDictH (knd := tupleKind (mixKind X.prog X.w)) hu (by omega) ?_)))
  refine pairTrees_cons_walk (thn (hk.run pins _ σ _ _ I1 (q _ free)) fun u s1 ⟨x, H1, J1, rx, q1⟩ => thn (hv.run pins s1 σ H1 _ J1 q1) fun w2 s2 ⟨y, H2, J2, ry, e, ks, b, ex, eb, q2⟩ => pairTrees_nil_walk ?_)
  subst ex
  cases (show u = Value.ref b from rx)
  obtain ⟨z, hd, xs, rel, dd⟩ := dt_of J2.hok e
  have hxs : xs = [] := by
    have := Paired.length rel
    exact List.eq_nil_of_length_eq_zero (by simpa using this.symm)
  subst hxs
  refine ⟨[(ks, b, w2)], ⟨rfl, rfl, key_of J2.hok eb, True.intro⟩, dd, fun h' tk' dd' hs => wpAny_pure ⟨.ref s.heap.objs.size, _, ?_, rfl, q2⟩⟩
  obtain ⟨o, es, ep, ho, g2, g3, g4, _, g5⟩ := dd'
  refine d_write J2 (by rw [e]; exact True.intro) hs ⟨o, ho⟩ ⟨by rw [List.length_singleton, sizeLine_eq]; omega, hd, [(ks, b, w2)], ?_, o, es, ep, ho, g2, g3, g4, g5⟩
  have hbp : b ≠ s.heap.objs.size := fun zz => by rw [zz, e] at eb; cases eb
  exact .cons ⟨rfl, by rw [upd_ne hbp]; exact eb, ry⟩ .nil
end
def mkDt1 (x y : DV) : R DV := match x.2, keysD x.1, keep1 y with
  | .fz, some ks, some d => .ok (.dt [(ks, d)], .ow)
  | _, _, _ => .no
abbrev mDt1 (pk pv : Env → R DV) : Env → R DV := fun ρ => (pk ρ).quiet.bind fun x => (pv ρ).quiet.bind fun y => mkDt1 x y
section
variable {X : Cx} {E : XK} {ke ve : Expr} {pk pv : Env → R DV} {pos : Pos} {k : Nat}
theorem de_dt1 (hr : Room k X.A) (hk : DE X E ke pk) (hv : DE X E ve pv) : DE X E (.Dict [some ke] [ve] pos) (mDt1 pk pv) := by
  obtain ⟨t, a1, a2⟩ := hk.ex
  obtain ⟨u, b1, b2⟩ := hv.ex
  refine ⟨_, pe_dispT (by have := hr.un; omega) a1 b1, fun B F O0 H O σ ρ R => ?_⟩
  show EvG _ _ _ _ _ ((pk ρ).quiet.bind fun x => (pv ρ).quiet.bind fun y => mkDt1 x y) _ _
  cases q1 : pk ρ with
  | no => trivial
  | ex e => trivial
  | ok x =>
    cases q2 : pv ρ with
    | no => trivial
    | ex e => trivial
    | ok y =>
      show EvG _ _ _ _ _ (mkDt1 x y) _ _
      unfold mkDt1
      obtain ⟨d, kk⟩ := x
      cases kk <;> first | exact True.intro | skip
      cases q4 : keysD d with
      | none => trivial
      | some ks =>
        cases q3 : keep1 y with
        | none => trivial
        | some dd =>
          intro Q hQ p hp
          have s0 : Same H (upd H p (.dT [])) := same_upd hp
          have R0 := R.grow s0 hp (by rw [upd_same]; exact fun z => nomatch z) (by rw [upd_same]; exact fun _ z => nomatch z)
          have e1 := a2 B F O0 _ (plus O p) σ ρ R0
          rw [q1] at e1
          refine e1 _ fun v H1 s1 r1 => ?_
          have R1 := R0.more s1
          have e2 := b2 B F O0 _ (plus O p) σ ρ R1
          rw [q2] at e2
          refine e2 _ fun w H2 s2 r2 => ?_
          have hp2 : H2 p = some (.dT []) := s2 _ _ (s1 _ _ upd_same)
          obtain ⟨b, rfl, eb⟩ := keysD_out q4 (r1.mono (Same.refl _) s2)
          refine ⟨hp2, ks, b, rfl, eb, ?_⟩
          have np : ¬ O p := fun z => R.dom p z hp
          have sH : Same H (upd H2 p (.dT [(ks, w)])) := fun b o eb => by
            rw [upd_ne (ne_of_none eb hp)]
            exact s2 _ _ (s1 _ _ (s0 _ _ eb))
          have rk := Out.keep r2 q3
          refine hQ _ _ sH ⟨p, rfl, hp, np, [(ks, w)], upd_same, .cons ?_ .nil⟩
          rw [off_upd (.inr rfl)]
          exact rk
end
end FK
namespace FK
open PySem PySem.Spec L2
open PyProof.Rows hiding St
/-! FX15: zip; dicts by comprehension, keys numbers and texts, or tuples of these. -/
section
variable {X : Cx} {E : XK} {e e2 : Expr} {p p2 : Env → R DV} {pos pp tpos : Pos}
def zipL : List D → List D → List D
  | a :: r, b :: s => .tup [a, b] :: zipL r s
  | _, _ => []
theorem zipL_len : ∀ xs ys : List D, (zipL xs ys).length = min xs.length ys.length
  | [], _ => by simp [zipL]
  | _ :: _, [] => by simp [zipL]
  | a :: r, b :: s => by
    show (zipL r s).length + 1 = _
    rw [zipL_len r s, List.length_cons, List.length_cons]
    omega
theorem zipL_get : ∀ (xs ys : List D) (i : Nat) (d : D), (zipL xs ys)[i]? = some d → ∃ x y, xs[i]? = some x ∧ ys[i]? = some y ∧ d = .tup [x, y]
  | [], _, _, _, h => by simp [zipL] at h
  | _ :: _, [], _, _, h => by simp [zipL] at h
  | a :: r, b :: s, 0, d, h => ⟨a, b, rfl, rfl, (Option.some.inj h).symm⟩
  | a :: r, b :: s, i + 1, d, h => zipL_get r s i d h
theorem it_zip {K : PySem.W.Frag} {S Src : Hp} {a b : Addr} {vs ws : List V} {ds es : List D} (h : SqL K Src a vs) (r : RepL K S vs ds) (h' : SqL K Src b ws) (r' : RepL K S ws es) : ItOk K S Src (Itz K a b) (zipL ds es) := fun i H3 s => by
  have hl := r.length
  have hl' := r'.length
  rw [zipL_len]
  refine ⟨fun hi => ?_, fun hi => ⟨vs, ws, s.seq h, s.seq h', by omega⟩, fun x H4 d y e => ?_⟩
  · obtain ⟨u, h1, _⟩ := r.get (List.getElem?_eq_getElem (show i < ds.length by omega))
    obtain ⟨w, h2, _⟩ := r'.get (List.getElem?_eq_getElem (show i < es.length by omega))
    exact ⟨vs, ws, u, w, s.seq h, s.seq h', h1, h2⟩
  · obtain ⟨T, u, w, rfl, hT, rfl, y1, y2⟩ := y
    obtain ⟨d1, d2, g1, g2, rfl⟩ := zipL_get _ _ _ _ e
    obtain ⟨u', k1, k2⟩ := r.get g1
    obtain ⟨w', k3, k4⟩ := r'.get g2
    have e1 := y1 vs (s.seq h)
    have e2 := y2 ws (s.seq h')
    rw [k1] at e1
    rw [k3] at e2
    cases e1
    cases e2
    exact ⟨same_upd hT, fun O3 dom s3 => rep_pair dom s3 hT k2 k4⟩
def zipD (x y : DV) : R (List D × Kd) := match x.1, y.1 with
  | .lst xs, .lst ys => (match x.2, y.2 with
    | .fz, .fz => .ok (zipL xs ys, .fz)
    | .fz, .ow => .ok (zipL xs ys, .fz)
    | .ow, .fz => .ok (zipL xs ys, .fz)
    | .ow, .ow => .ok (zipL xs ys, .fz)
    | _, _ => .no)
  | _, _ => .no
theorem Out.offL {K : PySem.W.Frag} {B H0 H : Hp} {O0 O : Own} {v : V} {d : List D} {k : Kd} (h : Out K B O0 H0 H O v (.lst d, k)) (hk : k = .fz ∨ k = .ow) : ∃ a vs, v = .ref a ∧ SqL K (off O H) a vs ∧ RepL K (off O H) vs d ∧ SqL K H a vs := by
  rcases hk with rfl | rfl
  · cases (show Rep _ _ _ _ from h) with
    | lst h1 h2 => exact ⟨_, _, rfl, h1, h2, Same.seq off_sub h1⟩
  · obtain ⟨a, ea, na, oa, vs, c1, c2⟩ := h
    exact ⟨a, vs, ea, SqL.of (off_of oa c1), c2.mono (off_anti fun b z => .inl z), SqL.of c1⟩
theorem di_zip {elts : List Expr} {kk : Nat} (hg : Gl X "zip") (hm : X.mg "zip" = none) (ha : DE X E e p) (hb : DE X E e2 p2)
    (hs : starEach [e, e2] X.env = (false, eval e X.env) :: starEach [e2] X.env := by rfl) (hs2 : starEach [e2] X.env = (false, eval e2 X.env) :: starEach [] X.env := by rfl) (hpl : (backTo pos (starEach [e2] X.env)).any (·.1) = false := by rfl) :
    DI X E (.Tuple elts kk tpos) (.Call (.Name "zip" pp) [e, e2] [] pos) (fun ρ => (p ρ).bind fun x => (p2 ρ).bind fun y => zipD x y) := by
  obtain ⟨t, a1, a2⟩ := ha.ex
  obtain ⟨u, b1, b2⟩ := hb.ex
  refine ⟨_, pi_zip hg hm (pa_cons a1 (pa_cons b1 pa_nil hs2) hs) hs hpl, fun B F O0 H O σ ρ R => ?_⟩
  refine EvG.bind (T1 := fun x H1 R => u σ H1 fun y H2 => ∃ (a b : Addr) (xs ys : List V), [x, y] = [V.ref a, V.ref b] ∧ SqL X.K H2 a xs ∧ SqL X.K H2 b ys ∧ R (Itz X.K a b) H2) (a2 B F O0 H O σ ρ R) fun x v H1 s1 r1 => ?_
  refine EvG.bind (T1 := fun y H2 R => ∃ (a b : Addr) (xs ys : List V), [v, y] = [V.ref a, V.ref b] ∧ SqL X.K H2 a xs ∧ SqL X.K H2 b ys ∧ R (Itz X.K a b) H2) (b2 B F O0 H1 O σ ρ (R.more s1)) fun y w H2 s2 r2 => ?_
  obtain ⟨d1, k1⟩ := x
  obtain ⟨d2, k2⟩ := y
  have fin : ∀ (xs ys : List D), d1 = .lst xs → d2 = .lst ys → (k1 = .fz ∨ k1 = .ow) → (k2 = .fz ∨ k2 = .ow) → EvG X.K X.mg O E H2 (.ok (zipL xs ys, Kd.fz)) (fun x J H' => ItOk X.K (off O H') (srcH B O H' x.2) J x.1) (fun R => ∃ (a b : Addr) (xs ys : List V), [v, w] = [V.ref a, V.ref b] ∧ SqL X.K H2 a xs ∧ SqL X.K H2 b ys ∧ R (Itz X.K a b) H2) := fun xs ys e1 e2 h1 h2 => by
    subst e1
    subst e2
    obtain ⟨a, vs, rfl, c1, c2, c3⟩ := (r1.mono (Same.refl _) s2).offL h1
    obtain ⟨b, ws, rfl, c4, c5, c6⟩ := r2.offL h2
    exact fun Q hQ => ⟨a, b, vs, ws, rfl, c3, c6, hQ _ _ (Same.refl _) (it_zip c1 c2 c4 c5)⟩
  unfold zipD
  cases d1 <;> cases d2 <;> first | exact True.intro | skip
  cases k1 <;> cases k2 <;> first | exact True.intro | skip
  · exact fin _ _ rfl rfl (.inl rfl) (.inl rfl)
  · exact fin _ _ rfl rfl (.inl rfl) (.inr rfl)
  · exact fin _ _ rfl rfl (.inr rfl) (.inl rfl)
  · exact fin _ _ rfl rfl (.inr rfl) (.inr rfl)
end
/-! ### dicts by comprehension -/
section
variable {κ : Type} [DecidableEq κ]
inductive RepG (K : PySem.W.Frag) (H : Hp) : List (κ × V) → List (κ × D) → Prop
  | nil : RepG K H [] []
  | cons {k : κ} {v : V} {vs : List (κ × V)} {d : D} {ds : List (κ × D)} : Rep K H v d → RepG K H vs ds → RepG K H ((k, v) :: vs) ((k, d) :: ds)
theorem RepG.mono {K : PySem.W.Frag} {H H' : Hp} (s : Same H H') : ∀ {vs : List (κ × V)} {ds : List (κ × D)}, RepG K H vs ds → RepG K H' vs ds
  | _, _, .nil => .nil
  | _, _, .cons a b => .cons (a.mono s) (RepG.mono s b)
theorem RepG.len {K : PySem.W.Frag} {H : Hp} : ∀ {vs : List (κ × V)} {ds : List (κ × D)}, RepG K H vs ds → vs.length = ds.length
  | _, _, .nil => rfl
  | _, _, .cons _ b => congrArg (· + 1) (RepG.len b)
theorem RepG.put {K : PySem.W.Frag} {H : Hp} {vs : List (κ × V)} {ds : List (κ × D)} {v : V} {d : D} (r : RepG K H vs ds) (k : κ) (h : Rep K H v d) : RepG K H (putK vs k v) (putD ds k d) := by
  have any : ∀ {vs : List (κ × V)} {ds : List (κ × D)}, RepG K H vs ds → (vs.any fun kv => decide (kv.1 = k)) = ds.any fun kv => decide (kv.1 = k) := by
    intro vs ds r
    induction r with
    | nil => rfl
    | cons a b ih => rw [List.any_cons, List.any_cons, ih]
  have rpl : ∀ {vs : List (κ × V)} {ds : List (κ × D)}, RepG K H vs ds → RepG K H (vs.map fun kv => if kv.1 = k then (kv.1, v) else kv) (ds.map fun kv => if kv.1 = k then (kv.1, d) else kv) := by
    intro vs ds r
    induction r with
    | nil => exact .nil
    | @cons k' _ _ _ _ a b ih =>
      rw [List.map_cons, List.map_cons]
      by_cases e : k' = k
      · rw [if_pos e, if_pos e]; exact .cons h ih
      · rw [if_neg e, if_neg e]; exact .cons a ih
  have app : ∀ {vs : List (κ × V)} {ds : List (κ × D)}, RepG K H vs ds → RepG K H (vs ++ [(k, v)]) (ds ++ [(k, d)]) := by
    intro vs ds r
    induction r with
    | nil => exact .cons h .nil
    | cons a b ih => exact .cons a ih
  unfold putK putD
  rw [any r]
  split
  · exact rpl r
  · exact app r
theorem RepG.k {K : PySem.W.Frag} {H : Hp} : ∀ {vs : List (Key × V)} {ds : List (Key × D)}, RepG K H vs ds → RepK K H vs ds
  | _, _, .nil => .nil
  | _, _, .cons a b => .cons a (RepG.k b)
theorem RepG.t {K : PySem.W.Frag} {H : Hp} : ∀ {vs : List (List Key × V)} {ds : List (List Key × D)}, RepG K H vs ds → RepT K H vs ds
  | _, _, .nil => .nil
  | _, _, .cons a b => .cons a (RepG.t b)
def tDcG (mk : List (κ × V) → HO) (kr : Hp → V → κ → Prop) (wi : TI) (g : TG) (tt : TT) (tk tv : TE) (vs : List Nat) : TE := fun σ H Q => wi σ H fun J H1 => ∀ D, H1 D = none → ∃ W : Nat → Nat → Hp → Prop, (∃ m, W 0 m (upd H1 D (mk []))) ∧ ∀ i m H, W i m H →
  (J.stop i H ∧ Q (.ref D) H) ∨ (J.go i H ∧ ∃ Nx : Hp → Prop, (∀ H', Nx H' → ∃ m', m' < m ∧ W (i + 1) m' H') ∧ ∀ x H', J.yld i H x H' → g x (wipe σ vs) H' fun σ2 H2 => wipe σ2 vs = wipe σ vs ∧ tt σ2 H2 fun b H3 =>
    if b = true then tk σ2 H3 fun y H4 => tv σ2 H4 fun z H5 => ∃ kvs k, kr H5 y k ∧ H5 D = some (mk kvs) ∧ kvs.length < sizeLine ∧ Nx (upd H5 D (mk (putK kvs k z))) else Nx H3)
def dcM (kf : DV → Option κ) (f : D → Env → Option Env) (pt : Env → R Bool) (pk pv : Env → R DV) : List D → Env → List (κ × D) → R (List (κ × D))
  | [], _, acc => .ok acc
  | d :: ds, ρ, acc => match f d ρ with
    | none => .no
    | some ρ1 => (pt ρ1).quiet.bind fun b => if b then (pk ρ1).quiet.bind fun x => (pv ρ1).quiet.bind fun y => (match kf x, keep1 y with
        | some k, some v => dcM kf f pt pk pv ds ρ (putD acc k v)
        | _, _ => .no)
      else dcM kf f pt pk pv ds ρ acc
theorem qbind_ok {α β : Type} {r : R α} {g : α → R β} {y : β} (h : (r.quiet.bind g) = .ok y) : ∃ x, r = .ok x ∧ g x = .ok y := by
  cases r with
  | ok x => exact ⟨x, rfl, h⟩
  | ex e => cases h
  | no => cases h
theorem qbind_ex {α β : Type} {r : R α} {g : α → R β} {e : Exn} (h : (r.quiet.bind g) = .ex e) : ∃ x, r = .ok x ∧ g x = .ex e := by
  cases r with
  | ok x => exact ⟨x, rfl, h⟩
  | ex e => cases h
  | no => cases h
theorem dcM_nex (kf : DV → Option κ) (f : D → Env → Option Env) (pt : Env → R Bool) (pk pv : Env → R DV) : ∀ (ds : List D) (ρ : Env) (acc : List (κ × D)) (e : Exn), dcM kf f pt pk pv ds ρ acc ≠ .ex e
  | [], _, _, _, h => by cases h
  | d :: ds, ρ, acc, e, h => by
    unfold dcM at h
    split at h
    · cases h
    · obtain ⟨b, _, h⟩ := qbind_ex h
      cases b with
      | false => exact dcM_nex kf f pt pk pv ds ρ acc e h
      | true =>
        obtain ⟨x, _, h⟩ := qbind_ex h
        obtain ⟨y, _, h⟩ := qbind_ex h
        split at h
        · exact dcM_nex kf f pt pk pv ds ρ _ e h
        · cases h
theorem putD_len (kvs : List (κ × D)) (k : κ) (v : D) : (putD kvs k v).length ≤ kvs.length + 1 := by
  unfold putD
  split
  · rw [List.length_map]; omega
  · rw [List.length_append]; exact Nat.le_refl _
/-- the reading by the mirror's -/
theorem ev_dc {X : Cx} {E : XK} {is : List Nat} {f : D → Env → Option Env} {pt : Env → R Bool} {pk pv : Env → R DV} {wi : TI} {vs : List Nat} {q : Env → R (List D × Kd)} {B F H : Hp} {O0 O : Own} {σ : L2.St} {ρ : Env} (mk : List (κ × V) → HO) (kr : Hp → V → κ → Prop) (kf : DV → Option κ) (fin : List (κ × D) → D)
    (hmk : ∀ (l : List (κ × V)) (xs : List V), mk l ≠ .tup xs) (hinj : ∀ l l', mk l = mk l' → l = l') (hkr : ∀ (B H0 H H2 : Hp) (O0 O : Own) (v : V) (x : DV) (k : κ), kf x = some k → Out X.K B O0 H0 H O v x → Same H H2 → kr H2 v k)
    (hfin : ∀ (H : Hp) (O : Own) (a : Addr) (vs : List (κ × V)) (ds : List (κ × D)), H a = some (mk vs) → RepG X.K (off O H) vs ds → OwnC X.K H O a (fin ds))
    (R : SR X.K B F O0 H O σ ρ) (hi : EvG X.K X.mg O E H (q ρ) (fun x J H' => ItOk X.K (off O H') (srcH B O H' x.2) J x.1) (wi σ H)) (his : ∀ i ∈ is, i ∈ vs) :
    EvG X.K X.mg O E H ((q ρ).bind fun x => if x.1.length ≤ sizeLine then (dcM kf f pt pk pv x.1 (wipeD ρ vs) []).bind fun r => .ok (fin r, .ow) else .no) (ORel X.K B O0 H O) (tDcG mk kr wi (cG X.K is f) (cTT X.K pt) (cT X.K pk) (cT X.K pv) vs σ H) := by
  refine EvG.bind (T1 := fun J H1 Q => ∀ D, H1 D = none → ∃ W : Nat → Nat → Hp → Prop, (∃ m, W 0 m (upd H1 D (mk []))) ∧ ∀ i m H, W i m H →
    (J.stop i H ∧ Q (V.ref D) H) ∨ (J.go i H ∧ ∃ Nx : Hp → Prop, (∀ H', Nx H' → ∃ m', m' < m ∧ W (i + 1) m' H') ∧ ∀ x H', J.yld i H x H' → cG X.K is f x (wipe σ vs) H' fun σ2 H2 => wipe σ2 vs = wipe σ vs ∧ cTT X.K pt σ2 H2 fun b H3 =>
      if b = true then cT X.K pk σ2 H3 fun y H4 => cT X.K pv σ2 H4 fun z H5 => ∃ kvs k, kr H5 y k ∧ H5 D = some (mk kvs) ∧ kvs.length < sizeLine ∧ Nx (upd H5 D (mk (putK kvs k z))) else Nx H3)) hi fun x J H1 s1 it => ?_
  obtain ⟨ds, kk⟩ := x
  dsimp only at it ⊢
  split
  · rename_i hsz
    cases qr : dcM kf f pt pk pv ds (wipeD ρ vs) [] with
    | no => trivial
    | ex z => exact absurd qr (dcM_nex kf f pt pk pv _ _ _ _)
    | ok r =>
      refine fun Q hQ D hD => ?_
      have R1 := R.more s1
      have nD : ¬ O D := fun z => R1.dom D z hD
      have oD : plus O D D := .inr rfl
      have bD : B D = none := R1.base.free hD
      have hw := R1.wipe vs
      have noslot : ∀ (j : Nat) (y : DV), (wipeD ρ vs)[j]? = some (some y) → y.2 = .ow → (wipe σ vs)[j]? ≠ some (some (.ref D)) := fun j y e1 e2 e3 => by
        obtain ⟨v, g1, g2⟩ := hw.slot j y e1
        rw [e3] at g1
        cases g1
        obtain ⟨d2, k2⟩ := y
        cases (show k2 = .ow from e2)
        obtain ⟨b, eb, ob, _, _⟩ := g2
        cases eb
        exact nD ob
      have srcS : Same (srcH B O H1 kk) H1 := by
        cases kk with
        | fz => exact off_sub
        | ow => exact off_sub
        | bo => exact R1.base
        | al => exact Same.refl _
      have ww : wipe (wipe σ vs) vs = wipe σ vs := by
        have ga : ∀ (vs : List Nat) (τ : L2.St) (w : Nat), (wipe τ vs).set w none = wipe (τ.set w none) vs := by
          intro vs
          induction vs with
          | nil => intro τ w; rfl
          | cons v r ih =>
            intro τ w
            show ((wipe τ r).set v none).set w none = (wipe (τ.set w none) r).set v none
            rw [← ih τ w]
            by_cases e : v = w
            · rw [e]
            · exact List.set_comm _ _ e
        have gb : ∀ (vs : List Nat) (τ : L2.St), wipe (wipe τ vs) vs = wipe τ vs := by
          intro vs
          induction vs with
          | nil => intro τ; rfl
          | cons v r ih =>
            intro τ
            show (wipe ((wipe τ r).set v none) r).set v none = (wipe τ r).set v none
            rw [← ga r (wipe τ r) v, ih, List.set_set]
        exact gb vs σ
      refine ⟨fun i m H' => m = ds.length - i ∧ i ≤ ds.length ∧ Same H1 H' ∧ ∃ acc done, H' D = some (mk acc) ∧ RepG X.K (off (plus O D) H') acc done ∧ done.length ≤ i ∧ dcM kf f pt pk pv (ds.drop i) (wipeD ρ vs) done = .ok r ∧ SR X.K B F O0 H' (plus O D) (wipe σ vs) (wipeD ρ vs),
        ⟨ds.length, by omega, Nat.zero_le _, same_upd hD, [], [], upd_same, .nil, Nat.le_refl _, qr, hw.grow (same_upd hD) hD (by rw [upd_same]; exact fun z => nomatch z) (by rw [upd_same]; exact fun xs z => hmk _ xs (Option.some.inj z))⟩, ?_⟩
      rintro i m H' ⟨rfl, hi, sH, acc, done, hacc, hdone, hlen, hrr, R'⟩
      obtain ⟨i1, i2, i3⟩ := it i H' (srcS.trans sH)
      by_cases hlt : i < ds.length
      · rw [List.drop_eq_getElem_cons hlt] at hrr
        unfold dcM at hrr
        cases q1 : f ds[i] (wipeD ρ vs) with
        | none => simp only [q1] at hrr; cases hrr
        | some ρ1 =>
          simp only [q1] at hrr
          refine .inr ⟨i1 hlt, fun H' => Same H1 H' ∧ ∃ acc done, H' D = some (mk acc) ∧ RepG X.K (off (plus O D) H') acc done ∧ done.length ≤ i + 1 ∧ dcM kf f pt pk pv (ds.drop (i + 1)) (wipeD ρ vs) done = .ok r ∧ SR X.K B F O0 H' (plus O D) (wipe σ vs) (wipeD ρ vs),
            fun H' h => ⟨ds.length - (i + 1), by omega, rfl, hlt, h⟩, fun v H4 y => ?_⟩
          obtain ⟨s4, r4⟩ := i3 v H4 ds[i] y (List.getElem?_eq_getElem hlt)
          have R4 := R'.more s4
          have fS : Same (off O H1) (off (plus O D) H') := fun b o h => by
            obtain ⟨h1, h2⟩ := off_some h
            exact off_of (fun z => z.elim h1 fun e => by subst e; rw [hD] at h2; cases h2) (sH _ _ h2)
          refine ⟨B, F, O0, plus O D, wipeD ρ vs, ρ1, ds[i], R4, r4 _ R'.dom fS, q1, fun σ5 R5 w5 => ?_⟩
          have w5' : wipe σ5 vs = wipe (wipe σ vs) vs := w5 vs fun i hi => his i hi
          refine ⟨w5'.trans ww, ?_⟩
          obtain ⟨b, q2, hrr⟩ := qbind_ok hrr
          refine ⟨B, F, O0, plus O D, ρ1, b, R5, q2, fun H6 s6 => ?_⟩
          have s46 := s4.trans s6
          cases b with
          | false => exact ⟨sH.trans s46, acc, done, s46 _ _ hacc, hdone.mono (off_mono s46), by omega, hrr, R'.more s46⟩
          | true =>
            obtain ⟨x, q3, hrr⟩ := qbind_ok hrr
            obtain ⟨y2, q4, hrr⟩ := qbind_ok hrr
            show cT X.K pk σ5 H6 _
            refine ⟨B, F, O0, plus O D, ρ1, x, R5.more s6, q3, fun yk H7 s7 o7 => ?_⟩
            refine ⟨B, F, O0, plus O D, ρ1, y2, (R5.more s6).more s7, q4, fun yv H8 s8 o8 => ?_⟩
            have s48 := (s46.trans s7).trans s8
            split at hrr
            · rename_i k v2 e1 e2
              have hl := hdone.len
              refine ⟨acc, k, hkr _ _ _ _ _ _ _ _ _ e1 o7 s8, s48 _ _ hacc, by omega, ?_⟩
              have hk : Rep X.K (off (plus O D) H8) yv v2 := Out.keep o8 e2
              have hoff : off (plus O D) (upd H8 D (mk (putK acc k yv))) = off (plus O D) H8 := off_upd oD
              refine ⟨fun b o h => by rw [upd_ne (ne_of_none h hD)]; exact s48 _ _ (sH _ _ h), putK acc k yv, putD done k v2, upd_same, ?_, ?_, hrr, (R'.more s48).writeT oD bD noslot (fun xs z => hmk _ xs z)⟩
              · rw [hoff]
                exact (hdone.mono (off_mono s48)).put k hk
              · have := putD_len done k v2
                omega
            · cases hrr
      · have e : i = ds.length := by omega
        subst e
        rw [List.drop_length] at hrr
        cases hrr
        refine .inl ⟨i2 (Nat.le_refl _), hQ _ _ sH ⟨D, rfl, s1.free hD, nD, hfin _ _ _ _ _ hacc hdone⟩⟩
  · trivial
end
abbrev mDcK (q : Env → R (List D × Kd)) (f : D → Env → Option Env) (pt : Env → R Bool) (pk pv : Env → R DV) (vs : List Nat) : Env → R DV := fun ρ => (q ρ).bind fun x => if x.1.length ≤ sizeLine then (dcM (fun x => keyD x.1) f pt pk pv x.1 (wipeD ρ vs) []).bind fun r => .ok (.dk r, .ow) else .no
section
variable {X : Cx} {E : XK} {is : List Nat} {f : D → Env → Option Env} {pt : Env → R Bool} {pk pv : Env → R DV} {q : Env → R (List D × Kd)}
theorem de_dcK {kx vx tg iter : Expr} {ifs : List Expr} {scope : Scope} {own : List (Str × Nat)} {pos : Pos} (hc : X.calm = true) (hN : X.N.Nodup) (hi : DI X E tg iter q) (ok : BlkOk X.N X.env.scope scope own) (his : ∀ i ∈ is, i ∈ own.map (·.2))
    (hg : ∀ (s : Shared) (H : Hp) (C : Addr) (cl : List (Str × Addr)) (fp : List Addr), DG (X.blk s H scope (compEnvC scope cl C X.env) fp) tg is f)
    (ht : ∀ (s : Shared) (H : Hp) (C : Addr) (cl : List (Str × Addr)) (fp : List Addr), DTs (X.blk s H scope (compEnvC scope cl C X.env) fp) FK.E0 ifs pt)
    (hk : ∀ (s : Shared) (H : Hp) (C : Addr) (cl : List (Str × Addr)) (fp : List Addr), DE (X.blk s H scope (compEnvC scope cl C X.env) fp) FK.E0 kx pk)
    (he : ∀ (s : Shared) (H : Hp) (C : Addr) (cl : List (Str × Addr)) (fp : List Addr), DE (X.blk s H scope (compEnvC scope cl C X.env) fp) FK.E0 vx pv) (hs : ∀ x, foldedSetIterable iter X.env x = pure x := by intro _; rfl) :
    DE X E (.DictComp kx vx [⟨tg, iter, ifs, 0⟩] scope pos) (mDcK q f pt pk pv (own.map (·.2))) := by
  obtain ⟨wi, a1, a2⟩ := hi.ex
  refine ⟨_, pe_dc hc hN a1 ok (g := cG X.K is f) (tt := cTT X.K pt) (tk := cT X.K pk) (tv := cT X.K pv) (fun s H C cl fp => (hg s H C cl fp).canon) (fun s H C cl fp => (ht s H C cl fp).ex) (fun s H C cl fp => (hk s H C cl fp).canon) (fun s H C cl fp => (he s H C cl fp).canon) hs, fun B F O0 H O σ ρ R => ?_⟩
  exact ev_dc (κ := Key) HO.dK (fun _ y k => y = kV k) (fun x => keyD x.1) D.dk (fun _ _ z => nomatch z) (fun l l' z => HO.dK.inj z) (fun B H0 H H2 O0 O v x k e o _ => keyD_out e o) (fun H O a vs ds h r => ⟨vs, h, r.k⟩) R (a2 B F O0 H O σ ρ R) his
end
end FK
namespace FK
open PySem PySem.Spec L2
open PyProof.Rows hiding St
/-! PL: what the mirrors' words compute, in plain Lean. -/
@[simp] theorem ty_int_non  : isTy "int" (.non) = .ok (.bl false, .fz) := Eq.trans rfl rfl
@[simp] theorem ty_int_bl (b : Bool) : isTy "int" (.bl b) = .ok (.bl true, .fz) := Eq.trans rfl rfl
@[simp] theorem ty_int_int (i : Int) : isTy "int" (.int i) = .ok (.bl true, .fz) := Eq.trans rfl rfl
@[simp] theorem ty_int_str (s : Str) : isTy "int" (.str s) = .ok (.bl false, .fz) := Eq.trans rfl rfl
@[simp] theorem ty_int_lst (xs : List D) : isTy "int" (.lst xs) = .ok (.bl false, .fz) := Eq.trans rfl rfl
@[simp] theorem ty_int_tup (xs : List D) : isTy "int" (.tup xs) = .ok (.bl false, .fz) := Eq.trans rfl rfl
@[simp] theorem ty_int_dk (xs : List (Key × D)) : isTy "int" (.dk xs) = .ok (.bl false, .fz) := Eq.trans rfl rfl
@[simp] theorem ty_bool_non  : isTy "bool" (.non) = .ok (.bl false, .fz) := Eq.trans rfl rfl
@[simp] theorem ty_bool_bl (b : Bool) : isTy "bool" (.bl b) = .ok (.bl true, .fz) := Eq.trans rfl rfl
@[simp] theorem ty_bool_int (i : Int) : isTy "bool" (.int i) = .ok (.bl false, .fz) := Eq.trans rfl rfl
@[simp] theorem ty_bool_str (s : Str) : isTy "bool" (.str s) = .ok (.bl false, .fz) := Eq.trans rfl rfl
@[simp] theorem ty_bool_lst (xs : List D) : isTy "bool" (.lst xs) = .ok (.bl false, .fz) := Eq.trans rfl rfl
@[simp] theorem ty_bool_tup (xs : List D) : isTy "bool" (.tup xs) = .ok (.bl false, .fz) := Eq.trans rfl rfl
@[simp] theorem ty_bool_dk (xs : List (Key × D)) : isTy "bool" (.dk xs) = .ok (.bl false, .fz) := Eq.trans rfl rfl
@[simp] theorem ty_str_non  : isTy "str" (.non) = .ok (.bl false, .fz) := Eq.trans rfl rfl
@[simp] theorem ty_str_bl (b : Bool) : isTy "str" (.bl b) = .ok (.bl false, .fz) := Eq.trans rfl rfl
@[simp] theorem ty_str_int (i : Int) : isTy "str" (.int i) = .ok (.bl false, .fz) := Eq.trans rfl rfl
@[simp] theorem ty_str_str (s : Str) : isTy "str" (.str s) = .ok (.bl true, .fz) := Eq.trans rfl rfl
@[simp] theorem ty_str_lst (xs : List D) : isTy "str" (.lst xs) = .ok (.bl false, .fz) := Eq.trans rfl rfl
@[simp] theorem ty_str_tup (xs : List D) : isTy "str" (.tup xs) = .ok (.bl false, .fz) := Eq.trans rfl rfl
@[simp] theorem ty_str_dk (xs : List (Key × D)) : isTy "str" (.dk xs) = .ok (.bl false, .fz) := Eq.trans rfl rfl
@[simp] theorem ty_tuple_non  : isTy "tuple" (.non) = .ok (.bl false, .fz) := Eq.trans rfl rfl
@[simp] theorem ty_tuple_bl (b : Bool) : isTy "tuple" (.bl b) = .ok (.bl false, .fz) := Eq.trans rfl rfl
@[simp] theorem ty_tuple_int (i : Int) : isTy "tuple" (.int i) = .ok (.bl false, .fz) := Eq.trans rfl rfl
@[simp] theorem ty_tuple_str (s : Str) : isTy "tuple" (.str s) = .ok (.bl false, .fz) := Eq.trans rfl rfl
@[simp] theorem ty_tuple_lst (xs : List D) : isTy "tuple" (.lst xs) = .ok (.bl false, .fz) := Eq.trans rfl rfl
@[simp] theorem ty_tuple_tup (xs : List D) : isTy "tuple" (.tup xs) = .ok (.bl true, .fz) := Eq.trans rfl rfl
@[simp] theorem ty_tuple_dk (xs : List (Key × D)) : isTy "tuple" (.dk xs) = .ok (.bl false, .fz) := Eq.trans rfl rfl
@[simp] theorem ty_list_non  : isTy "list" (.non) = .ok (.bl false, .fz) := Eq.trans rfl rfl
@[simp] theorem ty_list_bl (b : Bool) : isTy "list" (.bl b) = .ok (.bl false, .fz) := Eq.trans rfl rfl
@[simp] theorem ty_list_int (i : Int) : isTy "list" (.int i) = .ok (.bl false, .fz) := Eq.trans rfl rfl
@[simp] theorem ty_list_str (s : Str) : isTy "list" (.str s) = .ok (.bl false, .fz) := Eq.trans rfl rfl
@[simp] theorem ty_list_lst (xs : List D) : isTy "list" (.lst xs) = .ok (.bl true, .fz) := Eq.trans rfl rfl
@[simp] theorem ty_list_tup (xs : List D) : isTy "list" (.tup xs) = .ok (.bl false, .fz) := Eq.trans rfl rfl
@[simp] theorem ty_list_dk (xs : List (Key × D)) : isTy "list" (.dk xs) = .ok (.bl false, .fz) := Eq.trans rfl rfl
@[simp] theorem ty_dict_non  : isTy "dict" (.non) = .ok (.bl false, .fz) := Eq.trans rfl rfl
@[simp] theorem ty_dict_bl (b : Bool) : isTy "dict" (.bl b) = .ok (.bl false, .fz) := Eq.trans rfl rfl
@[simp] theorem ty_dict_int (i : Int) : isTy "dict" (.int i) = .ok (.bl false, .fz) := Eq.trans rfl rfl
@[simp] theorem ty_dict_str (s : Str) : isTy "dict" (.str s) = .ok (.bl false, .fz) := Eq.trans rfl rfl
@[simp] theorem ty_dict_lst (xs : List D) : isTy "dict" (.lst xs) = .ok (.bl false, .fz) := Eq.trans rfl rfl
@[simp] theorem ty_dict_tup (xs : List D) : isTy "dict" (.tup xs) = .ok (.bl false, .fz) := Eq.trans rfl rfl
@[simp] theorem ty_dict_dk (xs : List (Key × D)) : isTy "dict" (.dk xs) = .ok (.bl true, .fz) := Eq.trans rfl rfl
/-! ### lists of iL -/
def iL (ns : List Int) : List D := ns.map D.int
theorem iL_eq (ns : List Int) : iL ns = ns.map D.int := rfl
@[simp] theorem iL_length (ns : List Int) : (iL ns).length = ns.length := List.length_map _
@[simp] theorem iL_take (ns : List Int) (n : Nat) : (iL ns).take n = iL (ns.take n) := (List.map_take).symm
@[simp] theorem iL_drop (ns : List Int) (n : Nat) : (iL ns).drop n = iL (ns.drop n) := (List.map_drop).symm
@[simp] theorem iL_append (ms ns : List Int) : iL ms ++ iL ns = iL (ms ++ ns) := (List.map_append).symm
@[simp] theorem iL_snoc (ms : List Int) (n : Int) : iL ms ++ [D.int n] = iL (ms ++ [n]) := iL_append ms [n]
@[simp] theorem iL_get (ns : List Int) (i : Nat) : (iL ns)[i]? = (ns[i]?).map D.int := List.getElem?_map ..
@[simp] theorem iL_nil : iL [] = [] := Eq.trans rfl rfl
theorem iL_one (n : Int) : [D.int n] = iL [n] := rfl
theorem iL_cons (n : Int) (ns : List Int) : D.int n :: iL ns = iL (n :: ns) := rfl
@[simp] theorem iL_isEmpty (ns : List Int) : (iL ns).isEmpty = ns.isEmpty := by cases ns <;> rfl
theorem iL_mem {ns : List Int} {d : D} (h : d ∈ iL ns) : ∃ n ∈ ns, d = .int n := by obtain ⟨n, hn, e⟩ := List.mem_map.mp h; exact ⟨n, hn, e.symm⟩
theorem iL_at {ns : List Int} {j : Nat} {d : D} (h : (iL ns)[j]? = some d) : ∃ n, ns[j]? = some n ∧ d = .int n := by
  rw [iL_get] at h
  cases q : ns[j]? with
  | none => rw [q] at h; cases h
  | some n => rw [q] at h; cases h; exact ⟨n, rfl, rfl⟩
@[simp] theorem py_int (i : Int) : (D.int i).py = .int i := Eq.trans rfl rfl
@[simp] theorem py_bl (b : Bool) : (D.bl b).py = .bool b := Eq.trans rfl rfl
@[simp] theorem py_str (s : Str) : (D.str s).py = .str s := Eq.trans rfl rfl
@[simp] theorem py_non : D.non.py = .none := Eq.trans rfl rfl
@[simp] theorem py_lst (xs : List D) : (D.lst xs).py = .list (xs.map D.py) := by simp only [D.py, D.pyL_map]
@[simp] theorem py_tup (xs : List D) : (D.tup xs).py = .tuple (xs.map D.py) := by simp only [D.py, D.pyL_map]
theorem plainAll_map {α : Type} (f : α → PyData) : ∀ xs : List α, (∀ x ∈ xs, (f x).plain = true) → PyData.plainAll (xs.map f) = true
  | [], _ => rfl
  | x :: r, h => by simp only [List.map_cons, PyData.plainAll, h x List.mem_cons_self, plainAll_map f r fun y hy => h y (List.mem_cons_of_mem _ hy), Bool.and_self]
theorem plainAll_ints (ns : List Int) : PyData.plainAll (D.pyL (iL ns)) = true := by
  rw [D.pyL_map, iL, List.map_map]
  exact plainAll_map _ _ fun _ _ => rfl
@[simp] theorem eqv_int (i j : Int) : PyData.eqv (.int i) (.int j) = (i == j) := by simp only [PyData.eqv]
@[simp] theorem plain_int (i : Int) : PyData.plain (.int i) = true := by simp only [PyData.plain]
@[simp] theorem depth_int (i : Int) : PyData.depth (.int i) = 0 := by simp only [PyData.depth]
@[simp] theorem plain_list (xs : List PyData) : PyData.plain (.list xs) = PyData.plainAll xs := by simp only [PyData.plain]
@[simp] theorem plain_tuple (xs : List PyData) : PyData.plain (.tuple xs) = PyData.plainAll xs := by simp only [PyData.plain]
@[simp] theorem depth_list (xs : List PyData) : PyData.depth (.list xs) = PyData.depthAll xs + 1 := by simp only [PyData.depth]
@[simp] theorem depth_tuple (xs : List PyData) : PyData.depth (.tuple xs) = PyData.depthAll xs + 1 := by simp only [PyData.depth]
@[simp] theorem plainAll_nil : PyData.plainAll [] = true := by simp only [PyData.plainAll]
@[simp] theorem depthAll_nil : PyData.depthAll [] = 0 := by simp only [PyData.depthAll]
@[simp] theorem plainAll_cons (x : PyData) (xs : List PyData) : PyData.plainAll (x :: xs) = (x.plain && PyData.plainAll xs) := by simp only [PyData.plainAll]
@[simp] theorem depthAll_cons (x : PyData) (xs : List PyData) : PyData.depthAll (x :: xs) = max x.depth (PyData.depthAll xs) := by simp only [PyData.depthAll]
@[simp] theorem pyL_eq (xs : List D) : D.pyL xs = xs.map D.py := D.pyL_map xs
@[simp] theorem plainAll_iL (ns : List Int) : PyData.plainAll ((iL ns).map D.py) = true := by rw [← pyL_eq]; exact plainAll_ints ns
theorem depthAll_le {α : Type} (f : α → PyData) (n : Nat) : ∀ xs : List α, (∀ x ∈ xs, (f x).depth ≤ n) → PyData.depthAll (xs.map f) ≤ n
  | [], _ => by simp
  | x :: r, h => by
    have h1 := h x List.mem_cons_self
    have h2 := depthAll_le f n r fun y hy => h y (List.mem_cons_of_mem _ hy)
    rw [List.map_cons, depthAll_cons]
    omega
theorem depthAll_iL (ns : List Int) : PyData.depthAll ((iL ns).map D.py) = 0 := by
  have : PyData.depthAll ((iL ns).map D.py) ≤ 0 := by
    rw [iL, List.map_map]
    exact depthAll_le _ 0 ns fun x _ => by simp
  omega
@[simp] theorem ltD_int (i j : Int) : ltD (.int i) (.int j) = .ok (decide (i < j)) := Eq.trans rfl rfl
@[simp] theorem eqD_int (i j : Int) : eqD (.int i) (.int j) = .ok (i == j) := by simp [eqD]
@[simp] theorem cOrd_lt (i j : Int) (k l : Kd) : cOrd oLt (.int i, k) (.int j, l) = .ok (.bl (decide (i < j)), .fz) := Eq.trans rfl rfl
@[simp] theorem cOrd_gt (i j : Int) (k l : Kd) : cOrd oGt (.int i, k) (.int j, l) = .ok (.bl (decide (i > j)), .fz) := Eq.trans rfl rfl
@[simp] theorem cOrd_le (i j : Int) (k l : Kd) : cOrd oLe (.int i, k) (.int j, l) = .ok (.bl (decide (i ≤ j)), .fz) := by
  have : (!decide (j < i)) = decide (i ≤ j) := by rw [← decide_not]; congr 1; exact propext ⟨fun h => by omega, fun h => by omega⟩
  show R.ok (D.bl (!decide (j < i)), Kd.fz) = _
  rw [this]
@[simp] theorem cOrd_ge (i j : Int) (k l : Kd) : cOrd oGe (.int i, k) (.int j, l) = .ok (.bl (decide (i ≥ j)), .fz) := by
  have : (!decide (i < j)) = decide (i ≥ j) := by rw [← decide_not]; congr 1; exact propext ⟨fun h => by omega, fun h => by omega⟩
  show R.ok (D.bl (!decide (i < j)), Kd.fz) = _
  rw [this]
@[simp] theorem cEq_int (g : Bool → Bool) (i j : Int) (k l : Kd) : cEq g (.int i, k) (.int j, l) = .ok (.bl (g (i == j)), .fz) := by simp [cEq]
@[simp] theorem bool_bl (b : Bool) : boolD (.bl b, .fz) = .ok b := Eq.trans rfl rfl
@[simp] theorem tru_bl (b : Bool) (k : Kd) : truD (.bl b, k) = .ok b := Eq.trans rfl rfl
@[simp] theorem tru_int (i : Int) (k : Kd) : truD (.int i, k) = .ok (i != 0) := Eq.trans rfl rfl
@[simp] theorem tru_lst (xs : List D) (k : Kd) : truD (.lst xs, k) = .ok !xs.isEmpty := Eq.trans rfl rfl
@[simp] theorem tru_tup (xs : List D) (k : Kd) : truD (.tup xs, k) = .ok !xs.isEmpty := Eq.trans rfl rfl
@[simp] theorem add_int (i j : Int) (k l : Kd) : opAdd (.int i, k) (.int j, l) = .ok (.int (i + j), .fz) := Eq.trans rfl rfl
@[simp] theorem sub_int (i j : Int) (k l : Kd) : opInt fSub (.int i, k) (.int j, l) = .ok (.int (i - j), .fz) := Eq.trans rfl rfl
theorem opInt_ok {f : Int → Int → R Int} {i j n : Int} {k l : Kd} (h : f i j = .ok n) : opInt f (.int i, k) (.int j, l) = .ok (.int n, .fz) := by simp [opInt, h]
theorem imod {i j : Int} (k l : Kd) (h : 0 < j) : opInt fMod (.int i, k) (.int j, l) = .ok (.int (i % j), .fz) := opInt_ok (by simp [fMod, h])
theorem idiv {i j : Int} (k l : Kd) (h : 0 < j) (h' : j < 1073741824) : opInt fDiv (.int i, k) (.int j, l) = .ok (.int (i / j), .fz) := opInt_ok (by simp [fDiv, h, h'])
@[simp] theorem gInt_int (i : Int) (k : Kd) : gInt (.int i, k) = .ok (.int i, .fz) := Eq.trans rfl rfl
@[simp] theorem gLen_lst (xs : List D) (k : Kd) : gLen (.lst xs, k) = .ok (.int xs.length, .fz) := Eq.trans rfl rfl
@[simp] theorem gLen_tup (xs : List D) (k : Kd) : gLen (.tup xs, k) = .ok (.int xs.length, .fz) := Eq.trans rfl rfl
@[simp] theorem gLen_dk (xs : List (Key × D)) (k : Kd) : gLen (.dk xs, k) = .ok (.int xs.length, .fz) := Eq.trans rfl rfl
@[simp] theorem gTuple_lst (xs : List D) (k : Kd) : gTuple (.lst xs, k) = .ok (.tup xs, .fz) := Eq.trans rfl rfl
@[simp] theorem gTuple_tup (xs : List D) : gTuple (.tup xs, .fz) = .ok (.tup xs, .fz) := Eq.trans rfl rfl
@[simp] theorem gList_lst (xs : List D) (k : Kd) : gList (.lst xs, k) = .ok (.lst xs, .ow) := Eq.trans rfl rfl
@[simp] theorem gList_tup (xs : List D) (k : Kd) : gList (.tup xs, k) = .ok (.lst xs, .ow) := Eq.trans rfl rfl
@[simp] theorem items_lst (xs : List D) (k : Kd) : itemsD (.lst xs, k) = .ok (xs, k) := Eq.trans rfl rfl
@[simp] theorem items_tup (xs : List D) (k : Kd) : itemsD (.tup xs, k) = .ok (xs, k) := Eq.trans rfl rfl
@[simp] theorem enum_lst (xs : List D) (k : Kd) : enumD (.lst xs, k) = .ok (enumL 0 xs, k) := Eq.trans rfl rfl
@[simp] theorem enum_tup (xs : List D) (k : Kd) : enumD (.tup xs, k) = .ok (enumL 0 xs, k) := Eq.trans rfl rfl
@[simp] theorem one_eq (g : DV → R DV) (x : DV) : one g [x] = g x := Eq.trans rfl rfl
@[simp] theorem two_eq (g : DV → DV → R DV) (x y : DV) : two g [x, y] = g x y := Eq.trans rfl rfl
@[simp] theorem gI1_eq (f : Int → Int) (i : Int) (k : Kd) : gI1 f (.int i, k) = .ok (.int (f i), .fz) := Eq.trans rfl rfl
@[simp] theorem gI2_eq (f : Int → Int → Int) (i j : Int) (k l : Kd) : gI2 f (.int i, k) (.int j, l) = .ok (.int (f i j), .fz) := Eq.trans rfl rfl
@[simp] theorem slot_fz (d : D) : slotK (d, .fz) = some (d, .fz) := Eq.trans rfl rfl
@[simp] theorem slot_ow (d : D) : slotK (d, .ow) = some (d, .ow) := Eq.trans rfl rfl
@[simp] theorem slot_bo (d : D) : slotK (d, .bo) = some (d, .bo) := Eq.trans rfl rfl
@[simp] theorem setS_fz (i : Nat) (ρ : Env) (d : D) : setS i ρ (d, .fz) = .nx (ρ.set i (some (d, .fz))) := Eq.trans rfl rfl
@[simp] theorem setS_ow (i : Nat) (ρ : Env) (d : D) : setS i ρ (d, .ow) = .nx (ρ.set i (some (d, .ow))) := Eq.trans rfl rfl
@[simp] theorem setS_bo (i : Nat) (ρ : Env) (d : D) : setS i ρ (d, .bo) = .nx (ρ.set i (some (d, .bo))) := Eq.trans rfl rfl
@[simp] theorem retD_fz (d : D) : retD (d, .fz) = .rt (d, .fz) := Eq.trans rfl rfl
@[simp] theorem retD_ow (d : D) : retD (d, .ow) = .rt (d, .ow) := Eq.trans rfl rfl
@[simp] theorem keep1_fz (d : D) : keep1 (d, .fz) = some d := Eq.trans rfl rfl
@[simp] theorem keep1_ow (d : D) : keep1 (d, .ow) = some d := Eq.trans rfl rfl
@[simp] theorem argD_fz (d : D) : argD (d, .fz) = (d, .fz) := Eq.trans rfl rfl
@[simp] theorem argD_ow (d : D) : argD (d, .ow) = (d, .fz) := Eq.trans rfl rfl
@[simp] theorem argD_bo (d : D) : argD (d, .bo) = (d, .bo) := Eq.trans rfl rfl
@[simp] theorem argD_al (d : D) : argD (d, .al) = (d, .bo) := Eq.trans rfl rfl
@[simp] theorem keepL_nil : keepL [] = some [] := Eq.trans rfl rfl
@[simp] theorem keepL_fz (d : D) (r : List DV) : keepL ((d, .fz) :: r) = (keepL r).map (d :: ·) := Eq.trans rfl rfl
@[simp] theorem keepL_ow (d : D) (r : List DV) : keepL ((d, .ow) :: r) = (keepL r).map (d :: ·) := Eq.trans rfl rfl
@[simp] theorem intD_int (i : Int) (k : Kd) : intD (.int i, k) = .ok (some i) := Eq.trans rfl rfl
@[simp] theorem mkLst_0 : mkLst [] = .ok (.lst [], .ow) := by simp [mkLst]
@[simp] theorem mkLst_1 (a : D) : mkLst [(a, .fz)] = .ok (.lst [a], .ow) := by simp [mkLst, show 1 ≤ sizeLine by decide]
@[simp] theorem mkLst_2 (a b : D) : mkLst [(a, .fz), (b, .fz)] = .ok (.lst [a, b], .ow) := by simp [mkLst, show 2 ≤ sizeLine by decide]
@[simp] theorem mkLst_3 (a b c : D) : mkLst [(a, .fz), (b, .fz), (c, .fz)] = .ok (.lst [a, b, c], .ow) := by simp [mkLst, show 3 ≤ sizeLine by decide]
@[simp] theorem mkLst_4 (a b c d : D) : mkLst [(a, .fz), (b, .fz), (c, .fz), (d, .fz)] = .ok (.lst [a, b, c, d], .ow) := by simp [mkLst, show 4 ≤ sizeLine by decide]
@[simp] theorem mkTup_0 : mkTup [] = .ok (.tup [], .fz) := by simp [mkTup]
@[simp] theorem mkTup_1 (a : D) : mkTup [(a, .fz)] = .ok (.tup [a], .fz) := by simp [mkTup, show 1 ≤ sizeLine by decide]
@[simp] theorem mkTup_2 (a b : D) : mkTup [(a, .fz), (b, .fz)] = .ok (.tup [a, b], .fz) := by simp [mkTup, show 2 ≤ sizeLine by decide]
@[simp] theorem mkTup_3 (a b c : D) : mkTup [(a, .fz), (b, .fz), (c, .fz)] = .ok (.tup [a, b, c], .fz) := by simp [mkTup, show 3 ≤ sizeLine by decide]
@[simp] theorem mkTup_4 (a b c d : D) : mkTup [(a, .fz), (b, .fz), (c, .fz), (d, .fz)] = .ok (.tup [a, b, c, d], .fz) := by simp [mkTup, show 4 ≤ sizeLine by decide]
@[simp] theorem iL_2 (a b : Int) : [D.int a, D.int b] = iL [a, b] := Eq.trans rfl rfl
@[simp] theorem iL_1 (a : Int) : [D.int a] = iL [a] := Eq.trans rfl rfl
@[simp] theorem iL_3 (a b c : Int) : [D.int a, D.int b, D.int c] = iL [a, b, c] := Eq.trans rfl rfl
theorem sizeLine_val : sizeLine = 16777216 := by decide
/-! ### slots -/
@[simp] theorem dVar_z_fz (d : D) (r : Env) : dVar 0 (some (d, .fz) :: r) = .ok (d, .fz) := Eq.trans rfl rfl
@[simp] theorem dVar_z_bo (d : D) (r : Env) : dVar 0 (some (d, .bo) :: r) = .ok (d, .bo) := Eq.trans rfl rfl
@[simp] theorem dVar_z_ow (d : D) (r : Env) : dVar 0 (some (d, .ow) :: r) = .ok (d, .al) := Eq.trans rfl rfl
@[simp] theorem dVar_s (n : Nat) (x : Option DV) (r : Env) : dVar (n + 1) (x :: r) = dVar n r := by simp [dVar]
/-- a parameter that may be borrowed -/
abbrev InK (k : Kd) : Prop := k = .fz ∨ k = .bo
theorem dVar_in {k : Kd} (hk : InK k) (d : D) (r : Env) : dVar 0 (some (d, k) :: r) = .ok (d, k) := by rcases hk with rfl | rfl <;> rfl
theorem dVar_fz {i : Nat} {ρ : Env} {d : D} (h : ρ[i]? = some (some (d, .fz))) : dVar i ρ = .ok (d, .fz) := by simp [dVar, h]
theorem dVar_bo {i : Nat} {ρ : Env} {d : D} (h : ρ[i]? = some (some (d, .bo))) : dVar i ρ = .ok (d, .bo) := by simp [dVar, h]
theorem dVar_ow {i : Nat} {ρ : Env} {d : D} (h : ρ[i]? = some (some (d, .ow))) : dVar i ρ = .ok (d, .al) := by simp [dVar, h]


/-! ### what a run leads to -/
/-- what stands behind is left alone by simp: the tag's type hangs on it -/
class Tag {α : Sort _} (P : α) : Type where
instance instTag {α : Sort _} (P : α) : Tag P := {}
def R.w {α : Type} (r : R α) (P : α → Prop) [Tag P] : Prop := ∃ x, r = .ok x ∧ P x
@[simp] theorem R.w_ok {α : Type} (x : α) (P : α → Prop) : (R.ok x).w P = P x := propext ⟨fun ⟨y, e, h⟩ => by cases e; exact h, fun h => ⟨x, rfl, h⟩⟩
theorem R.w_exF {α : Type} (e : Exn) (P : α → Prop) : (R.ex e : R α).w P = False := propext ⟨(fun ⟨y, e, h⟩ => by cases e), False.elim⟩
theorem R.w_noF {α : Type} (P : α → Prop) : (R.no : R α).w P = False := propext ⟨(fun ⟨y, e, h⟩ => by cases e), False.elim⟩
@[simp] theorem R.w_bind {α β : Type} (r : R α) (f : α → R β) (P : β → Prop) : (r.bind f).w P = r.w fun x => (f x).w P := by
  cases r with
  | ok x => rw [R.w_ok, R.bind_ok]
  | ex e => rw [R.bind_ex, R.w_exF, R.w_exF]
  | no => rw [R.bind_no, R.w_noF, R.w_noF]
@[simp] theorem pow18 (k l : Kd) : opInt fPow (.int 10, k) (.int 18, l) = .ok (.int 1000000000000000000, .fz) := Eq.trans rfl rfl
theorem R.w_cg {α : Type} {r : R α} {P Q : α → Prop} (h : ∀ x, P x = Q x) : r.w P = r.w Q := by
  have : P = Q := funext h
  subst this
  rfl
theorem R.w_get {α : Type} {r : R α} {P : α → Prop} (h : r.w P) : ∃ x, r = .ok x ∧ P x := h
theorem R.w_of {α : Type} {r : R α} {x : α} {P : α → Prop} (h : r = .ok x) (p : P x) : r.w P := ⟨x, h, p⟩
theorem R.w_eq {α : Type} {r : R α} {x : α} (h : r.w fun y => y = x) : r = .ok x := by
  obtain ⟨y, e, q⟩ := h
  rw [e, q]
theorem R.w_mono {α : Type} {r : R α} {P Q : α → Prop} (h : r.w P) (i : ∀ x, P x → Q x) : r.w Q := by
  obtain ⟨x, rfl, p⟩ := R.w_get h
  exact ⟨x, rfl, i x p⟩
def SO.w (r : SO) (N C B : Env → Prop) (T : DV → Prop) [Tag N] [Tag C] [Tag B] [Tag T] : Prop := (∃ ρ, r = .nx ρ ∧ N ρ) ∨ (∃ ρ, r = .ct ρ ∧ C ρ) ∨ (∃ ρ, r = .bk ρ ∧ B ρ) ∨ ∃ x, r = .rt x ∧ T x
section
variable (N C B : Env → Prop) (T : DV → Prop)
@[simp] theorem SO.w_nx (ρ : Env) : (SO.nx ρ).w N C B T = N ρ := by simp [SO.w]
@[simp] theorem SO.w_ct (ρ : Env) : (SO.ct ρ).w N C B T = C ρ := by simp [SO.w]
@[simp] theorem SO.w_bk (ρ : Env) : (SO.bk ρ).w N C B T = B ρ := by simp [SO.w]
@[simp] theorem SO.w_rt (x : DV) : (SO.rt x).w N C B T = T x := by simp [SO.w]
theorem SO.w_exF (e : Exn) : (SO.ex e).w N C B T = False := by simp [SO.w]
theorem SO.w_noF : SO.no.w N C B T = False := by simp [SO.w]
@[simp] theorem SO.w_seq (r : SO) (m : Env → SO) : (r.seq m).w N C B T = r.w (fun ρ => (m ρ).w N C B T) C B T := by
  cases r with
  | nx ρ => rw [SO.seq_nx, SO.w_nx]
  | ct ρ => rw [SO.seq_ct, SO.w_ct, SO.w_ct]
  | bk ρ => rw [SO.seq_bk, SO.w_bk, SO.w_bk]
  | rt x => rw [SO.seq_rt, SO.w_rt, SO.w_rt]
  | ex e => rw [SO.seq_ex, SO.w_exF, SO.w_exF]
  | no => rw [SO.seq_no, SO.w_noF, SO.w_noF]
@[simp] theorem SO.w_st {α : Type} (r : R α) (f : α → SO) : (r.st f).w N C B T = r.w fun x => (f x).w N C B T := by
  cases r with
  | ok x => rw [R.w_ok, R.st_ok]
  | ex e => rw [R.st_ex, R.w_exF, SO.w_exF]
  | no => rw [R.st_no, R.w_noF, SO.w_noF]
@[simp] theorem SO.w_ite (c : Prop) [Decidable c] (a b : SO) : (if c then a else b).w N C B T = if c then a.w N C B T else b.w N C B T := by split <;> rfl
@[simp] theorem R.w_ite {α : Type} (c : Prop) [Decidable c] (a b : R α) (P : α → Prop) : (if c then a else b).w P = if c then a.w P else b.w P := by split <;> rfl
end
theorem SO.w_mono {r : SO} {N C B N' C' B' : Env → Prop} {T T' : DV → Prop} (h : r.w N C B T) (n : ∀ ρ, N ρ → N' ρ) (c : ∀ ρ, C ρ → C' ρ) (b : ∀ ρ, B ρ → B' ρ) (t : ∀ x, T x → T' x) : r.w N' C' B' T' := by
  rcases h with ⟨ρ, rfl, h⟩ | ⟨ρ, rfl, h⟩ | ⟨ρ, rfl, h⟩ | ⟨x, rfl, h⟩
  · rw [SO.w_nx]; exact n ρ h
  · rw [SO.w_ct]; exact c ρ h
  · rw [SO.w_bk]; exact b ρ h
  · rw [SO.w_rt]; exact t x h
theorem runD_w {n : Nat} {m : Env → SO} {as : List DV} {P : DV → Prop} (h : (m (as.map some ++ List.replicate (n - as.length) none)).w (fun _ => P (.non, .fz)) (fun _ => False) (fun _ => False) P) : (runD n m as).w P := by
  unfold runD
  rcases h with ⟨ρ, e, h⟩ | ⟨ρ, e, h⟩ | ⟨ρ, e, h⟩ | ⟨x, e, h⟩
  · rw [e]; exact ⟨_, rfl, h⟩
  · exact h.elim
  · exact h.elim
  · rw [e]; exact ⟨_, rfl, h⟩
/-! ### the words at an environment -/
section
variable (ρ : Env) (p q r : Env → R DV) (pt qt : Env → R Bool) (f g : DV → DV → R DV) (pl : Env → R (List DV)) (a b : Env → SO) (h : List DV → R DV) (n i : Nat) (lo hi : Env → R (Option Int)) (it : Env → R (List D × Kd)) (gt : D → Env → Option Env)
variable (P : DV → Prop) (PB : Bool → Prop) (PL : List DV → Prop) (PO : Option Int → Prop) (PI : List D × Kd → Prop) (N C B : Env → Prop) (T : DV → Prop)
theorem R.w_if {α : Type} (c : Bool) (x y : R α) (P : α → Prop) : (if c then x else y).w P = if c = true then x.w P else y.w P := by cases c <;> rfl
@[simp] theorem e_dBin : (dBin f p q ρ).w P = (p ρ).w fun x => (q ρ).w fun y => (f x y).w P := by
  unfold dBin
  rw [R.w_bind]
  repeat (refine R.w_cg fun _ => ?_; try simp only [R.w_bind, R.w_ite, R.w_ok, R.w_noF, SO.w_st, SO.w_ite, SO.w_nx, SO.w_noF])
@[simp] theorem e_dCmp : (dCmp f p q ρ).w PB = (p ρ).w fun x => (q ρ).w fun y => (f x y).w fun z => (boolD z).w PB := by
  unfold dCmp
  rw [R.w_bind]
  repeat (refine R.w_cg fun _ => ?_; try simp only [R.w_bind, R.w_ite, R.w_ok, R.w_noF, SO.w_st, SO.w_ite, SO.w_nx, SO.w_noF])
@[simp] theorem e_dChn : (dChn f g p q r ρ).w P = (p ρ).w fun x => (q ρ).w fun y => (f x y).w fun z => (boolD z).w fun c => if c = true then (r ρ).w fun w => (g y w).w P else P (.bl false, .fz) := by
  unfold dChn
  rw [R.w_bind]
  repeat (refine R.w_cg fun _ => ?_; try simp only [R.w_bind, R.w_ite, R.w_ok, R.w_noF, SO.w_st, SO.w_ite, SO.w_nx, SO.w_noF])
@[simp] theorem e_dAnd : (dAnd p q ρ).w P = (p ρ).w fun x => (truD x).w fun c => if c = true then (q ρ).w P else P x := by
  unfold dAnd
  rw [R.w_bind]
  repeat (refine R.w_cg fun _ => ?_; try simp only [R.w_bind, R.w_ite, R.w_ok, R.w_noF, SO.w_st, SO.w_ite, SO.w_nx, SO.w_noF])
@[simp] theorem e_dOr : (dOr p q ρ).w P = (p ρ).w fun x => (truD x).w fun c => if c = true then P x else (q ρ).w P := by
  unfold dOr
  rw [R.w_bind]
  repeat (refine R.w_cg fun _ => ?_; try simp only [R.w_bind, R.w_ite, R.w_ok, R.w_noF, SO.w_st, SO.w_ite, SO.w_nx, SO.w_noF])
@[simp] theorem e_dNot : (dNot p ρ).w P = (p ρ).w fun x => (truD x).w fun c => P (.bl !c, .fz) := by
  unfold dNot
  rw [R.w_bind]
  repeat (refine R.w_cg fun _ => ?_; try simp only [R.w_bind, R.w_ite, R.w_ok, R.w_noF, SO.w_st, SO.w_ite, SO.w_nx, SO.w_noF])
@[simp] theorem e_dIf : (dIf pt p q ρ).w P = (pt ρ).w fun c => if c = true then (p ρ).w P else (q ρ).w P := by
  unfold dIf
  rw [R.w_bind]
  repeat (refine R.w_cg fun _ => ?_; try simp only [R.w_bind, R.w_ite, R.w_ok, R.w_noF, SO.w_st, SO.w_ite, SO.w_nx, SO.w_noF])
@[simp] theorem e_dTru : (dTru p ρ).w PB = (p ρ).w fun x => (truD x).w PB := by
  unfold dTru
  rw [R.w_bind]
  repeat (refine R.w_cg fun _ => ?_; try simp only [R.w_bind, R.w_ite, R.w_ok, R.w_noF, SO.w_st, SO.w_ite, SO.w_nx, SO.w_noF])
@[simp] theorem e_tAnd : (tAndD pt qt ρ).w PB = (pt ρ).w fun c => if c = true then (qt ρ).w PB else PB false := by
  unfold tAndD
  rw [R.w_bind]
  repeat (refine R.w_cg fun _ => ?_; try simp only [R.w_bind, R.w_ite, R.w_ok, R.w_noF, SO.w_st, SO.w_ite, SO.w_nx, SO.w_noF])
@[simp] theorem e_tOr : (tOrD pt qt ρ).w PB = (pt ρ).w fun c => if c = true then PB true else (qt ρ).w PB := by
  unfold tOrD
  rw [R.w_bind]
  repeat (refine R.w_cg fun _ => ?_; try simp only [R.w_bind, R.w_ite, R.w_ok, R.w_noF, SO.w_st, SO.w_ite, SO.w_nx, SO.w_noF])
@[simp] theorem e_tNot : (tNotD pt ρ).w PB = (pt ρ).w fun c => PB !c := by
  unfold tNotD
  rw [R.w_bind]
  repeat (refine R.w_cg fun _ => ?_; try simp only [R.w_bind, R.w_ite, R.w_ok, R.w_noF, SO.w_st, SO.w_ite, SO.w_nx, SO.w_noF])
@[simp] theorem e_dCB : (dCB h pl ρ).w P = (pl ρ).w fun xs => (h xs).w P := by
  unfold dCB
  rw [R.w_bind]
  repeat (refine R.w_cg fun _ => ?_; try simp only [R.w_bind, R.w_ite, R.w_ok, R.w_noF, SO.w_st, SO.w_ite, SO.w_nx, SO.w_noF])
@[simp] theorem e_dCall : (dCall n h pl ρ).w P = (pl ρ).w fun xs => if xs.length = n then (h (xs.map argD)).w P else False := by
  unfold dCall
  rw [R.w_bind]
  repeat (refine R.w_cg fun _ => ?_; try simp only [R.w_bind, R.w_ite, R.w_ok, R.w_noF, SO.w_st, SO.w_ite, SO.w_nx, SO.w_noF])
@[simp] theorem e_kNon : kNon ρ = .ok (.non, .fz) := Eq.trans rfl rfl
@[simp] theorem e_kBl (c : Bool) : kBl c ρ = .ok (.bl c, .fz) := Eq.trans rfl rfl
@[simp] theorem e_kInt (c : Int) : kInt c ρ = .ok (.int c, .fz) := Eq.trans rfl rfl
@[simp] theorem e_kStr (c : Str) : kStr c ρ = .ok (.str c, .fz) := Eq.trans rfl rfl
@[simp] theorem e_kDk : kDk ρ = .ok (.dk [], .ow) := Eq.trans rfl rfl
@[simp] theorem e_kDt : kDt ρ = .ok (.dt [], .ow) := Eq.trans rfl rfl
@[simp] theorem e_kTrue : kTrue ρ = .ok true := Eq.trans rfl rfl
@[simp] theorem e_aNil : aNil ρ = .ok [] := Eq.trans rfl rfl
@[simp] theorem e_aCons : (aCons p pl ρ).w PL = (p ρ).w fun x => (pl ρ).w fun xs => PL (x :: xs) := by
  unfold aCons
  rw [R.w_bind]
  repeat (refine R.w_cg fun _ => ?_; try simp only [R.w_bind, R.w_ite, R.w_ok, R.w_noF, SO.w_st, SO.w_ite, SO.w_nx, SO.w_noF])
@[simp] theorem e_oNone : oNone ρ = .ok none := Eq.trans rfl rfl
@[simp] theorem e_oSome : (oSome p ρ).w PO = (p ρ).w fun x => (intD x).w PO := by
  unfold oSome
  rw [R.w_bind]
  repeat (refine R.w_cg fun _ => ?_; try simp only [R.w_bind, R.w_ite, R.w_ok, R.w_noF, SO.w_st, SO.w_ite, SO.w_nx, SO.w_noF])
@[simp] theorem e_mTup : (mTup pl ρ).w P = (pl ρ).w fun xs => (mkTup xs).w P := by
  unfold mTup
  rw [R.w_bind]
  repeat (refine R.w_cg fun _ => ?_; try simp only [R.w_bind, R.w_ite, R.w_ok, R.w_noF, SO.w_st, SO.w_ite, SO.w_nx, SO.w_noF])
@[simp] theorem e_mLst : (mLst pl ρ).w P = (pl ρ).w fun xs => (mkLst xs).w P := by
  unfold mLst
  rw [R.w_bind]
  repeat (refine R.w_cg fun _ => ?_; try simp only [R.w_bind, R.w_ite, R.w_ok, R.w_noF, SO.w_st, SO.w_ite, SO.w_nx, SO.w_noF])
@[simp] theorem e_mSlice : (mSlice p lo hi ρ).w P = (p ρ).w fun x => (lo ρ).w fun l => (hi ρ).w fun u => (slD x l u).w P := by
  unfold mSlice
  rw [R.w_bind]
  repeat (refine R.w_cg fun _ => ?_; try simp only [R.w_bind, R.w_ite, R.w_ok, R.w_noF, SO.w_st, SO.w_ite, SO.w_nx, SO.w_noF])
@[simp] theorem e_mLrg1 : (mLrg1 p ρ).w P = (p ρ).w fun x => (lrg1 x).w P := by
  unfold mLrg1
  rw [R.w_bind]
  repeat (refine R.w_cg fun _ => ?_; try simp only [R.w_bind, R.w_ite, R.w_ok, R.w_noF, SO.w_st, SO.w_ite, SO.w_nx, SO.w_noF])
@[simp] theorem e_mIs (t : String) : (mIs p t ρ).w P = (p ρ).w fun d => (isTy t d.1).w P := by
  unfold mIs
  rw [R.w_bind]
  repeat (refine R.w_cg fun _ => ?_; try simp only [R.w_bind, R.w_ite, R.w_ok, R.w_noF, SO.w_st, SO.w_ite, SO.w_nx, SO.w_noF])
@[simp] theorem e_mNeg : (mNeg p ρ).w P = (p ρ).w fun x => (negD x).w P := by
  unfold mNeg
  rw [R.w_bind]
  repeat (refine R.w_cg fun _ => ?_; try simp only [R.w_bind, R.w_ite, R.w_ok, R.w_noF, SO.w_st, SO.w_ite, SO.w_nx, SO.w_noF])
@[simp] theorem e_mItems : (mItems p ρ).w PI = (p ρ).w fun x => (itemsD x).w PI := by
  unfold mItems
  rw [R.w_bind]
  repeat (refine R.w_cg fun _ => ?_; try simp only [R.w_bind, R.w_ite, R.w_ok, R.w_noF, SO.w_st, SO.w_ite, SO.w_nx, SO.w_noF])
@[simp] theorem e_mRg1 : (mRg1 p ρ).w PI = (p ρ).w fun x => (rg1 x).w PI := by
  unfold mRg1
  rw [R.w_bind]
  repeat (refine R.w_cg fun _ => ?_; try simp only [R.w_bind, R.w_ite, R.w_ok, R.w_noF, SO.w_st, SO.w_ite, SO.w_nx, SO.w_noF])
@[simp] theorem e_mRg2 : (mRg2 p q ρ).w PI = (p ρ).w fun x => (q ρ).w fun y => (rg2 x y).w PI := by
  unfold mRg2
  rw [R.w_bind]
  repeat (refine R.w_cg fun _ => ?_; try simp only [R.w_bind, R.w_ite, R.w_ok, R.w_noF, SO.w_st, SO.w_ite, SO.w_nx, SO.w_noF])
@[simp] theorem e_mEnum : (mEnum p ρ).w PI = (p ρ).w fun x => (enumD x).w PI := by
  unfold mEnum
  rw [R.w_bind]
  repeat (refine R.w_cg fun _ => ?_; try simp only [R.w_bind, R.w_ite, R.w_ok, R.w_noF, SO.w_st, SO.w_ite, SO.w_nx, SO.w_noF])
@[simp] theorem e_gName (d : D) : FK.gName i d ρ = some (ρ.set i (some (d, .fz))) := Eq.trans rfl rfl
@[simp] theorem e_gTup (k : List D → Env → Option Env) (ds : List D) : FK.gTup n k (.tup ds) ρ = if ds.length = n then k ds ρ else none := Eq.trans rfl rfl
@[simp] theorem e_gsNil : gsNil [] ρ = some ρ := Eq.trans rfl rfl
@[simp] theorem e_gsCons (k : List D → Env → Option Env) (d : D) (ds : List D) : gsCons gt k (d :: ds) ρ = (gt d ρ).bind (k ds) := Eq.trans rfl rfl
@[simp] theorem e_mPass : mPass ρ = .nx ρ := Eq.trans rfl rfl
@[simp] theorem e_mBreak : mBreak ρ = .bk ρ := Eq.trans rfl rfl
@[simp] theorem e_mCont : mCont ρ = .ct ρ := Eq.trans rfl rfl
@[simp] theorem e_mRetN : mRetN ρ = .rt (.non, .fz) := Eq.trans rfl rfl
@[simp] theorem e_mNever : (mNever ρ).w N C B T = False := SO.w_noF N C B T
@[simp] theorem e_mRet : (mRet p ρ).w N C B T = (p ρ).w fun x => (retD x).w N C B T := by
  unfold mRet
  rw [SO.w_st]
  repeat (refine R.w_cg fun _ => ?_; try simp only [R.w_bind, R.w_ite, R.w_ok, R.w_noF, SO.w_st, SO.w_ite, SO.w_nx, SO.w_noF])
@[simp] theorem e_mExpr : (mExpr p ρ).w N C B T = (p ρ).w fun _ => N ρ := by
  unfold mExpr
  rw [SO.w_st]
  repeat (refine R.w_cg fun _ => ?_; try simp only [R.w_bind, R.w_ite, R.w_ok, R.w_noF, SO.w_st, SO.w_ite, SO.w_nx, SO.w_noF])
@[simp] theorem e_mIf : (mIf pt a b ρ).w N C B T = (pt ρ).w fun c => if c = true then (a ρ).w N C B T else (b ρ).w N C B T := by
  unfold mIf
  rw [SO.w_st]
  repeat (refine R.w_cg fun _ => ?_; try simp only [R.w_bind, R.w_ite, R.w_ok, R.w_noF, SO.w_st, SO.w_ite, SO.w_nx, SO.w_noF])
@[simp] theorem e_mSeq : (mSeq a b ρ).w N C B T = (a ρ).w (fun ρ => (b ρ).w N C B T) C B T := by simp only [mSeq, SO.w_seq]
@[simp] theorem e_mFrz : mFrz i a ρ = a (frzS i ρ) := Eq.trans rfl rfl
@[simp] theorem e_sSet : (sSet i p ρ).w N C B T = (p ρ).w fun x => (setS i ρ x).w N C B T := by
  unfold sSet
  rw [SO.w_st]
  repeat (refine R.w_cg fun _ => ?_; try simp only [R.w_bind, R.w_ite, R.w_ok, R.w_noF, SO.w_st, SO.w_ite, SO.w_nx, SO.w_noF])
@[simp] theorem e_sFor : (sFor it gt a ρ).w N C B T = (it ρ).w fun x => if x.2 = .al then False else (forM gt a x.1 ρ).w N C B T := by
  unfold sFor
  rw [SO.w_st]
  repeat (refine R.w_cg fun _ => ?_; try simp only [R.w_bind, R.w_ite, R.w_ok, R.w_noF, SO.w_st, SO.w_ite, SO.w_nx, SO.w_noF])
@[simp] theorem e_mLc (vs : List Nat) : (mLc it gt pt p vs ρ).w P = (it ρ).w fun x => if x.1.length ≤ sizeLine then (lcM gt pt p x.1 (wipeD ρ vs)).w fun r => P (.lst r, .ow) else False := by
  unfold mLc
  rw [R.w_bind]
  refine R.w_cg fun x => ?_
  rw [R.w_ite, R.w_noF, R.w_bind]
  by_cases z : x.1.length ≤ sizeLine
  · rw [if_pos z, if_pos z]
    exact R.w_cg fun r => R.w_ok _ _
  · rw [if_neg z, if_neg z]
/-- the own object in a slot -/
def ownAt (i : Nat) (ρ : Env) : R D := match ρ[i]? with | some (some (d, .ow)) => .ok d | _ => .no
@[simp] theorem ownAt_z (d : D) (r : Env) : ownAt 0 (some (d, .ow) :: r) = .ok d := Eq.trans rfl rfl
@[simp] theorem ownAt_s (n : Nat) (x : Option DV) (r : Env) : ownAt (n + 1) (x :: r) = ownAt n r := by simp [ownAt]
theorem m_put : sPut i p q ρ = (p ρ).st fun v => (ownAt i ρ).st fun d => (q ρ).st fun k => putS i ρ d v k := by
  have z : ∀ v, (match ρ[i]? with | some (some (d, .ow)) => (q ρ).st fun k => putS i ρ d v k | _ => .no) = (ownAt i ρ).st fun d => (q ρ).st fun k => putS i ρ d v k := by
    intro v
    unfold ownAt
    rcases z : ρ[i]? with _ | _ | ⟨d, k⟩
    · rfl
    · rfl
    · cases k <;> rfl
  unfold sPut
  congr 1
  funext v
  exact z v
@[simp] theorem e_sPut : (sPut i p q ρ).w N C B T = (p ρ).w fun v => (ownAt i ρ).w fun d => (q ρ).w fun k => (putS i ρ d v k).w N C B T := by
  rw [m_put, SO.w_st]
  repeat (refine R.w_cg fun _ => ?_; try simp only [SO.w_st])
@[simp] theorem wipe_nil : wipeD ρ [] = ρ := Eq.trans rfl rfl
@[simp] theorem wipe_cons (vs : List Nat) : wipeD ρ (n :: vs) = (wipeD ρ vs).set n none := Eq.trans rfl rfl
theorem runD_ok (m : Env → SO) (as : List DV) (x : DV) (e : m (as.map some ++ List.replicate (n - as.length) none) = .rt x) : runD n m as = .ok x := by unfold runD; rw [e]
theorem runD_nx (m : Env → SO) (as : List DV) (ρ' : Env) (e : m (as.map some ++ List.replicate (n - as.length) none) = .nx ρ') : runD n m as = .ok (.non, .fz) := by unfold runD; rw [e]
end
/-! ### methods of own lists -/
def lstAt (i : Nat) (ρ : Env) : R (List D) := match ρ[i]? with | some (some (.lst xs, .ow)) => .ok xs | _ => .no
@[simp] theorem lstAt_z (xs : List D) (r : Env) : lstAt 0 (some (.lst xs, .ow) :: r) = .ok xs := Eq.trans rfl rfl
@[simp] theorem lstAt_s (n : Nat) (x : Option DV) (r : Env) : lstAt (n + 1) (x :: r) = lstAt n r := by simp [lstAt]
def appR (xs : List D) (ys : List DV) : R (List D) := match gAppend xs ys with | some zs => .ok zs | none => .no
def insR (xs : List D) (ys : List DV) : R (List D) := match gInsert xs ys with | some zs => .ok zs | none => .no
theorem appR_fz {xs : List D} (d : D) (h : xs.length < sizeLine) : appR xs [(d, .fz)] = .ok (xs ++ [d]) := by simp [appR, gAppend, h]
theorem appR_ow {xs : List D} (d : D) (h : xs.length < sizeLine) : appR xs [(d, .ow)] = .ok (xs ++ [d]) := by simp [appR, gAppend, h]
theorem insR_fz {xs : List D} {n : Int} (k : Kd) (d : D) (h : xs.length < sizeLine) (h0 : 0 ≤ n) (h1 : n < 2 ^ 63) : insR xs [(.int n, k), (d, .fz)] = .ok (xs.take n.toNat ++ [d] ++ xs.drop n.toNat) := by
  unfold insR gInsert
  simp only [h, h0, h1, and_self, if_true, keep1_fz, Option.map_some]
theorem m_append (i : Nat) (pl : Env → R (List DV)) (ρ : Env) : methS gAppend i pl ρ = (lstAt i ρ).st fun xs => (pl ρ).st fun ys => (appR xs ys).st fun zs => .nx (ρ.set i (some (.lst zs, .ow))) := by
  have z : ∀ xs ys, (match gAppend xs ys with | some zs => SO.nx (ρ.set i (some (.lst zs, .ow))) | none => .no) = (appR xs ys).st fun zs => .nx (ρ.set i (some (.lst zs, .ow))) := fun xs ys => by
    unfold appR
    cases gAppend xs ys <;> rfl
  unfold methS lstAt
  rcases q : ρ[i]? with _ | _ | ⟨d, k⟩
  · rfl
  · rfl
  · cases d <;> cases k <;> first | rfl | (dsimp only; rw [R.st_ok]; congr 1; funext ys; exact z _ ys)
theorem m_insert (i : Nat) (pl : Env → R (List DV)) (ρ : Env) : methS gInsert i pl ρ = (lstAt i ρ).st fun xs => (pl ρ).st fun ys => (insR xs ys).st fun zs => .nx (ρ.set i (some (.lst zs, .ow))) := by
  have z : ∀ xs ys, (match gInsert xs ys with | some zs => SO.nx (ρ.set i (some (.lst zs, .ow))) | none => .no) = (insR xs ys).st fun zs => .nx (ρ.set i (some (.lst zs, .ow))) := fun xs ys => by
    unfold insR
    cases gInsert xs ys <;> rfl
  unfold methS lstAt
  rcases q : ρ[i]? with _ | _ | ⟨d, k⟩
  · rfl
  · rfl
  · cases d <;> cases k <;> first | rfl | (dsimp only; rw [R.st_ok]; congr 1; funext ys; exact z _ ys)
section
variable (N C B : Env → Prop) (T : DV → Prop)
@[simp] theorem e_append (i : Nat) (pl : Env → R (List DV)) (ρ : Env) : (methS gAppend i pl ρ).w N C B T = (lstAt i ρ).w fun xs => (pl ρ).w fun ys => (appR xs ys).w fun zs => N (ρ.set i (some (.lst zs, .ow))) := by
  rw [m_append, SO.w_st]
  repeat (refine R.w_cg fun _ => ?_; try simp only [SO.w_st, SO.w_nx])
@[simp] theorem e_insert (i : Nat) (pl : Env → R (List DV)) (ρ : Env) : (methS gInsert i pl ρ).w N C B T = (lstAt i ρ).w fun xs => (pl ρ).w fun ys => (insR xs ys).w fun zs => N (ρ.set i (some (.lst zs, .ow))) := by
  rw [m_insert, SO.w_st]
  repeat (refine R.w_cg fun _ => ?_; try simp only [SO.w_st, SO.w_nx])
end
@[simp] theorem retV_z_fz (d : D) (r : Env) : retV 0 (some (d, .fz) :: r) = .rt (d, .fz) := Eq.trans rfl rfl
@[simp] theorem retV_z_ow (d : D) (r : Env) : retV 0 (some (d, .ow) :: r) = .rt (d, .ow) := Eq.trans rfl rfl
@[simp] theorem retV_s (n : Nat) (x : Option DV) (r : Env) : retV (n + 1) (x :: r) = retV n r := by simp [retV]

theorem add_lst {xs ys : List D} (k l : Kd) (h : xs.length + ys.length ≤ sizeLine) : opAdd (.lst xs, k) (.lst ys, l) = .ok (.lst (xs ++ ys), .ow) := by simp [opAdd, h]
theorem mul3 (x : Int) (k : Kd) : opMul (.lst (iL [x]), .ow) (.int 3, k) = .ok (.lst (iL [x, x, x]), .ow) := by
  simp [opMul, sizeLine_val]
/-- the numbers 0 .. n - 1 -/
def rng (n : Nat) : List Int := (List.range n).map fun i => ((i : Nat) : Int)
@[simp] theorem rng_length (n : Nat) : (rng n).length = n := by simp [rng]
theorem mem_rng {n : Nat} {a : Int} : a ∈ rng n ↔ 0 ≤ a ∧ a < n := by
  unfold rng
  rw [List.mem_map]
  constructor
  · rintro ⟨i, hi, rfl⟩
    have := List.mem_range.mp hi
    omega
  · rintro ⟨h1, h2⟩
    exact ⟨a.toNat, List.mem_range.mpr (by omega), by omega⟩
theorem rng_lt (n : Nat) : (rng n).Pairwise (· < ·) := by
  unfold rng
  rw [List.pairwise_map]
  exact List.pairwise_lt_range.imp fun h => by omega
theorem rng_nodup (n : Nat) : (rng n).Nodup := (rng_lt n).imp fun h e => by omega
theorem rng_get {n j : Nat} (h : j < n) : (rng n)[j]? = some (j : Int) := by
  unfold rng
  rw [List.getElem?_map, List.getElem?_range h]
  rfl
theorem rangeL_rng (n : Nat) : rangeL 0 1 n = iL (rng n) := by
  unfold rangeL iL rng
  rw [List.map_map]
  apply List.map_congr_left
  intro i _
  simp
theorem lrg1_nat (n : Nat) (k : Kd) (h : n ≤ 16777216) : lrg1 (.int n, k) = .ok (.lst (iL (rng n)), .ow) := by
  unfold lrg1
  have : (0 : Int) ≤ n ∧ (n : Int) ≤ 16777216 := ⟨by omega, by omega⟩
  simp only [this, and_self, if_true, Int.toNat_natCast, rangeL_rng]
theorem erase_perm {left : List Int} {d : Nat} {x : Int} (h : left[d]? = some x) : left.Perm (x :: (left.take d ++ left.drop (d + 1))) := by
  obtain ⟨hd, e⟩ := List.getElem?_eq_some_iff.mp h
  have : left = left.take d ++ x :: left.drop (d + 1) := by
    rw [← e, ← List.drop_eq_getElem_cons hd, List.take_append_drop]
  exact (List.Perm.of_eq this).trans List.perm_middle

theorem ins_asc (x : Int) : ∀ r : List Int, r.Pairwise (· < ·) → x ∉ r → (r.take (r.filter fun a => decide (a < x)).length ++ [x] ++ r.drop (r.filter fun a => decide (a < x)).length).Pairwise (· < ·) ∧
    ∀ a, a ∈ r.take (r.filter fun a => decide (a < x)).length ++ [x] ++ r.drop (r.filter fun a => decide (a < x)).length ↔ a ∈ r ∨ a = x
  | [], _, _ => by simp
  | b :: t, h, hx => by
    obtain ⟨h1, h2⟩ := List.pairwise_cons.mp h
    have hx1 : x ≠ b := fun e => hx (by rw [e]; exact List.mem_cons_self)
    have hx2 : x ∉ t := fun e => hx (List.mem_cons_of_mem _ e)
    by_cases c : b < x
    · obtain ⟨i1, i2⟩ := ins_asc x t h2 hx2
      have e : ((b :: t).filter fun a => decide (a < x)).length = (t.filter fun a => decide (a < x)).length + 1 := by simp [c]
      rw [e, List.take_succ_cons, List.drop_succ_cons]
      rw [List.cons_append, List.cons_append]
      refine ⟨List.pairwise_cons.mpr ⟨fun a ha => ?_, i1⟩, fun a => ?_⟩
      · rcases (i2 a).mp ha with z | z
        · exact h1 a z
        · omega
      · have := i2 a
        rw [List.mem_cons, this, List.mem_cons, or_assoc]
    · have e : ((b :: t).filter fun a => decide (a < x)) = [] := by
        rw [List.filter_eq_nil_iff]
        intro a ha
        rcases List.mem_cons.mp ha with z | z
        · subst z; simpa using c
        · have := h1 a z
          simp
          omega
      rw [e]
      simp only [List.length_nil, List.take_zero, List.drop_zero, List.nil_append]
      refine ⟨List.pairwise_cons.mpr ⟨fun a ha => ?_, h⟩, fun a => ?_⟩
      · rcases List.mem_cons.mp ha with z | z
        · omega
        · have := h1 a z
          omega
      · show a ∈ x :: b :: t ↔ _
        rw [List.mem_cons, or_comm]

theorem eqvAll_nil (xs : List PyData) : PyData.eqvAll xs [] = xs.isEmpty := by cases xs <;> simp [PyData.eqvAll]
theorem cEq_nil (g : Bool → Bool) (xs : List Int) (k l : Kd) : cEq g (.lst (iL xs), k) (.lst [], l) = .ok (.bl (g xs.isEmpty), .fz) := by
  have h : PyData.eqv (.list ((iL xs).map D.py)) (.list []) = xs.isEmpty := by
    simp only [PyData.eqv, eqvAll_nil]
    cases xs <;> rfl
  simp [cEq, eqD, h, depthAll_iL]
/-- a dict that keeps ints -/
def dkI (ds : List Int) : List (Key × D) := ds.map fun i => (Sum.inl i, D.bl true)
@[simp] theorem dkI_length (ds : List Int) : (dkI ds).length = ds.length := List.length_map _
theorem look_dkI (ds : List Int) (i : Int) : (lookK (dkI ds) (Sum.inl i : Key)).isSome = decide (i ∈ ds) := by
  unfold lookK dkI
  rw [Option.isSome_map]
  induction ds with
  | nil => rfl
  | cons a r ih =>
    rw [List.map_cons, List.find?_cons]
    by_cases h : a = i
    · subst h; simp
    · have : ¬ ((Sum.inl a : Key) = Sum.inl i) := fun e => h (Sum.inl.inj e)
      simp only [this, decide_false]
      rw [ih]
      simp [Ne.symm h]
@[simp] theorem in_dk (g : Bool → Bool) (ds : List Int) (i : Int) (k l : Kd) : cIn g (.int i, k) (.dk (dkI ds), l) = .ok (.bl (g (decide (i ∈ ds))), .fz) := by
  simp [cIn, inD, keyD, look_dkI]
theorem put_dkI {ds : List Int} {i : Int} (h : i ∉ ds) : putD (dkI ds) (Sum.inl i : Key) (.bl true) = dkI (ds ++ [i]) := by
  have e : ((dkI ds).any fun kv => decide (kv.1 = (Sum.inl i : Key))) = false := by
    rw [Bool.eq_false_iff]
    intro z
    obtain ⟨kv, h1, h2⟩ := List.any_eq_true.mp z
    obtain ⟨a, ha, rfl⟩ := List.mem_map.mp h1
    exact h (by rw [← Sum.inl.inj (of_decide_eq_true h2)]; exact ha)
  unfold putD
  rw [e]
  simp [dkI]
theorem enumL_rng {α : Type} (f : α → D) (G : List α) : enumL 0 (G.map f) = (List.range G.length).map fun i => D.tup [.int (i : Nat), (G[i]?.map f).getD .non] := by
  apply List.ext_getElem?
  intro i
  rw [enumL_get, List.getElem?_map, List.getElem?_map]
  by_cases h : i < G.length
  · rw [List.getElem?_range h, List.getElem?_eq_getElem h]
    simp
    rw [List.getElem?_eq_getElem h]
    rfl
  · rw [List.getElem?_eq_none (by omega), List.getElem?_eq_none (by simp; omega)]
    rfl
/-- a comprehension of ints from ints -/
theorem map_int (ns : List Int) (b : Int → Bool) : (ns.filter b).map (fun i => D.int i) = iL (ns.filter b) := rfl

/-! ### comprehensions, loops -/
theorem lcM_ok {f : D → Env → Option Env} {pt : Env → R Bool} {pe : Env → R DV} {ρ : Env} (b : D → Bool) (x : D → D) : ∀ ds : List D,
    (∀ d ∈ ds, ∃ ρ1, f d ρ = some ρ1 ∧ pt ρ1 = .ok (b d) ∧ (b d = true → ∃ y, pe ρ1 = .ok y ∧ keep1 y = some (x d))) → lcM f pt pe ds ρ = .ok ((ds.filter b).map x)
  | [], _ => rfl
  | d :: r, h => by
    obtain ⟨ρ1, h1, h2, h3⟩ := h d List.mem_cons_self
    have ih := lcM_ok b x r fun e he => h e (List.mem_cons_of_mem _ he)
    unfold lcM
    rw [h1]
    dsimp only
    rw [h2]
    cases hb : b d with
    | false => simp [R.quiet, ih, hb]
    | true =>
      obtain ⟨y, h4, h5⟩ := h3 hb
      simp [R.quiet, ih, hb, h4, h5]
/-- over ints -/
theorem lcM_ints {f : D → Env → Option Env} {pt : Env → R Bool} {pe : Env → R DV} {ρ : Env} (b : Int → Bool) (x : Int → D) (ns : List Int)
    (h : ∀ n ∈ ns, ∃ ρ1, f (.int n) ρ = some ρ1 ∧ pt ρ1 = .ok (b n) ∧ (b n = true → ∃ y, pe ρ1 = .ok y ∧ keep1 y = some (x n))) : lcM f pt pe (iL ns) ρ = .ok ((ns.filter b).map x) := by
  have := lcM_ok (f := f) (pt := pt) (pe := pe) (ρ := ρ) (fun d => match d with | .int n => b n | _ => false) (fun d => match d with | .int n => x n | _ => .non) (iL ns) (fun d hd => by
    obtain ⟨n, hn, rfl⟩ := List.mem_map.mp hd
    exact h n hn)
  rw [this, iL, List.filter_map, List.map_map]
  rfl
theorem forM_inv {f : D → Env → Option Env} {body : Env → SO} (I : List D → Env → Prop) (J : Env → Prop)
    (step : ∀ d ds ρ, I (d :: ds) ρ → ∃ ρ1, f d ρ = some ρ1 ∧ ((∃ ρ2, (body ρ1 = .nx ρ2 ∨ body ρ1 = .ct ρ2) ∧ I ds ρ2) ∨ ∃ ρ2, body ρ1 = .bk ρ2 ∧ J ρ2)) :
    ∀ (ds : List D) (ρ : Env), I ds ρ → ∃ ρ', forM f body ds ρ = .nx ρ' ∧ (I [] ρ' ∨ J ρ')
  | [], ρ, h => ⟨ρ, rfl, .inl h⟩
  | d :: ds, ρ, h => by
    obtain ⟨ρ1, h1, ⟨ρ2, h2, h3⟩ | ⟨ρ2, h2, h3⟩⟩ := step d ds ρ h
    · obtain ⟨ρ', h4, h5⟩ := forM_inv I J step ds ρ2 h3
      refine ⟨ρ', ?_, h5⟩
      unfold forM
      rw [h1]
      rcases h2 with h2 | h2 <;> simp only [h2, h4]
    · refine ⟨ρ2, ?_, .inr h3⟩
      unfold forM
      rw [h1]
      simp only [h2]
/-- a loop that runs through -/
theorem forM_all {f : D → Env → Option Env} {body : Env → SO} (I : List D → Env → Prop)
    (step : ∀ d ds ρ, I (d :: ds) ρ → ∃ ρ1, f d ρ = some ρ1 ∧ ∃ ρ2, (body ρ1 = .nx ρ2 ∨ body ρ1 = .ct ρ2) ∧ I ds ρ2) (ds : List D) (ρ : Env) (h : I ds ρ) : ∃ ρ', forM f body ds ρ = .nx ρ' ∧ I [] ρ' := by
  obtain ⟨ρ', h1, h2⟩ := forM_inv I (fun _ => False) (fun d ds ρ h => (step d ds ρ h).imp fun ρ1 z => ⟨z.1, .inl z.2⟩) ds ρ h
  exact ⟨ρ', h1, h2.elim id False.elim⟩
theorem whileM_inv {pt : Env → R Bool} {body : Env → SO} (I : Nat → Env → Prop) (J : Env → Prop)
    (step : ∀ n ρ, I n ρ → (pt ρ = .ok false ∧ J ρ) ∨ (pt ρ = .ok true ∧ ∃ ρ2 m, m < n ∧ (body ρ = .nx ρ2 ∨ body ρ = .ct ρ2) ∧ I m ρ2)) :
    ∀ (fuel n : Nat) (ρ : Env), n < fuel → I n ρ → ∃ ρ', whileM pt body fuel ρ = .nx ρ' ∧ J ρ'
  | 0, n, _, hn, _ => absurd hn (Nat.not_lt_zero _)
  | fuel + 1, n, ρ, hn, h => by
    rcases step n ρ h with ⟨h1, h2⟩ | ⟨h1, ρ2, m, hm, h3, h4⟩
    · exact ⟨ρ, by unfold whileM; rw [h1]; rfl, h2⟩
    · obtain ⟨ρ', h5, h6⟩ := whileM_inv I J step fuel m ρ2 (by omega) h4
      refine ⟨ρ', ?_, h6⟩
      unfold whileM
      rw [h1]
      rcases h3 with h3 | h3 <;> simp only [R.st_ok, if_true, h3, h5]

/-- a loop over a list, by place -/
theorem forM_idx {f : D → Env → Option Env} {body : Env → SO} (ds : List D) (I : Nat → Env → Prop) (J : Env → Prop)
    (step : ∀ (j : Nat) (d : D) (ρ : Env), ds[j]? = some d → I j ρ → ∃ ρ1, f d ρ = some ρ1 ∧ ((∃ ρ2, (body ρ1 = .nx ρ2 ∨ body ρ1 = .ct ρ2) ∧ I (j + 1) ρ2) ∨ ∃ ρ2, body ρ1 = .bk ρ2 ∧ J ρ2)) (ρ : Env) (h : I 0 ρ) :
    ∃ ρ', forM f body ds ρ = .nx ρ' ∧ (I ds.length ρ' ∨ J ρ') := by
  obtain ⟨ρ', h1, h2⟩ := forM_inv (f := f) (body := body) (fun es ρ => ∃ j, es = ds.drop j ∧ j ≤ ds.length ∧ I j ρ) J (fun d es ρ hI => by
    obtain ⟨j, e, hj, hI⟩ := hI
    have hlt : j < ds.length := by
      rcases Nat.lt_or_ge j ds.length with z | z
      · exact z
      · rw [List.drop_of_length_le z] at e; cases e
    rw [List.drop_eq_getElem_cons hlt] at e
    cases e
    obtain ⟨ρ1, h1, ⟨ρ2, h2, h3⟩ | h2⟩ := step j _ ρ (List.getElem?_eq_getElem hlt) hI
    · exact ⟨ρ1, h1, .inl ⟨ρ2, h2, j + 1, rfl, hlt, h3⟩⟩
    · exact ⟨ρ1, h1, .inr h2⟩) ds ρ ⟨0, rfl, Nat.zero_le _, h⟩
  refine ⟨ρ', h1, ?_⟩
  rcases h2 with ⟨j, e, hj, hI⟩ | h2
  · have : ds.length ≤ j := by
      have := congrArg List.length e
      simp at this
      omega
    have : j = ds.length := by omega
    subst this
    exact .inl hI
  · exact .inr h2
/-- a loop over range(n) that runs through -/
theorem forM_range {f : D → Env → Option Env} {body : Env → SO} (n : Nat) (I : Nat → Env → Prop)
    (step : ∀ (j : Nat) (ρ : Env), j < n → I j ρ → ∃ ρ1, f (.int j) ρ = some ρ1 ∧ ∃ ρ2, (body ρ1 = .nx ρ2 ∨ body ρ1 = .ct ρ2) ∧ I (j + 1) ρ2) (ρ : Env) (h : I 0 ρ) :
    ∃ ρ', forM f body (rangeL 0 1 n) ρ = .nx ρ' ∧ I n ρ' := by
  have hlen : (rangeL 0 1 n).length = n := by simp [rangeL]
  obtain ⟨ρ', h1, h2⟩ := forM_idx (f := f) (body := body) (rangeL 0 1 n) I (fun _ => False) (fun j d ρ e hI => by
    have hj : j < n := by
      rw [← hlen]
      exact (List.getElem?_eq_some_iff.mp e).1
    have : d = .int j := by
      unfold rangeL at e
      rw [List.getElem?_map, List.getElem?_range hj] at e
      have e := Option.some.inj e
      rw [← e]
      simp
    subst this
    exact (step j ρ hj hI).imp fun ρ1 z => ⟨z.1, .inl z.2⟩) ρ h
  rw [hlen] at h2
  exact ⟨ρ', h1, h2.elim id False.elim⟩
theorem mul_small {i j : Int} (k l : Kd) (h : i.natAbs < 2 ^ 64 ∨ j.natAbs < 2 ^ 64) : opMul (.int i, k) (.int j, l) = .ok (.int (i * j), .fz) := by
  simp [opMul, opInt, fMul, h]
theorem rg1_nat (n : Nat) (k : Kd) (h : n < 2 ^ 60) : rg1 (.int n, k) = .ok (rangeL 0 1 n, .fz) := by
  have : -(2 ^ 62 : Int) ≤ n ∧ (n : Int) < 2 ^ 62 := ⟨by omega, by omega⟩
  unfold rg1
  simp only [this, and_self, if_true, Int.toNat_natCast]

/-- a comprehension -/
theorem w_lc {f : D → Env → Option Env} {pt : Env → R Bool} {pe : Env → R DV} {ρ : Env} {ds : List D} {P : List D → Prop} (b : D → Bool) (x : D → D)
    (h : ∀ d ∈ ds, ∃ ρ1, f d ρ = some ρ1 ∧ (pt ρ1).w fun c => c = b d ∧ (c = true → (pe ρ1).w fun y => keep1 y = some (x d))) (p : P ((ds.filter b).map x)) : (lcM f pt pe ds ρ).w P :=
  R.w_of (lcM_ok b x ds fun d hd => by
    obtain ⟨ρ1, h1, h2⟩ := h d hd
    obtain ⟨c, h3, h4, h5⟩ := R.w_get h2
    subst h4
    exact ⟨ρ1, h1, h3, fun z => by obtain ⟨y, h6, h7⟩ := R.w_get (h5 z); exact ⟨y, h6, h7⟩⟩) p
theorem w_lcI {f : D → Env → Option Env} {pt : Env → R Bool} {pe : Env → R DV} {ρ : Env} {ns : List Int} {P : List D → Prop} (b : Int → Bool) (x : Int → D)
    (h : ∀ n ∈ ns, ∃ ρ1, f (.int n) ρ = some ρ1 ∧ (pt ρ1).w fun c => c = b n ∧ (c = true → (pe ρ1).w fun y => keep1 y = some (x n))) (p : P ((ns.filter b).map x)) : (lcM f pt pe (iL ns) ρ).w P :=
  R.w_of (lcM_ints b x ns fun d hd => by
    obtain ⟨ρ1, h1, h2⟩ := h d hd
    obtain ⟨c, h3, h4, h5⟩ := R.w_get h2
    subst h4
    exact ⟨ρ1, h1, h3, fun z => by obtain ⟨y, h6, h7⟩ := R.w_get (h5 z); exact ⟨y, h6, h7⟩⟩) p
/-- a for-loop over a list, by place -/
theorem w_for {f : D → Env → Option Env} {body : Env → SO} {ds : List D} {ρ : Env} {N C B : Env → Prop} {T : DV → Prop} (I : Nat → Env → Prop) (h : I 0 ρ)
    (step : ∀ (j : Nat) (d : D) (ρ : Env), ds[j]? = some d → I j ρ → ∃ ρ1, f d ρ = some ρ1 ∧ (body ρ1).w (I (j + 1)) (I (j + 1)) N T) (fin : ∀ ρ, I ds.length ρ → N ρ) : (forM f body ds ρ).w N C B T := by
  have go : ∀ (es : List D) (j : Nat) (ρ : Env), es = ds.drop j → j ≤ ds.length → I j ρ → (forM f body es ρ).w N C B T := by
    intro es
    induction es with
    | nil =>
      intro j ρ e hj hI
      have : ds.length ≤ j := by
        have := congrArg List.length e
        simp at this
        omega
      have : j = ds.length := by omega
      subst this
      exact .inl ⟨ρ, rfl, fin ρ hI⟩
    | cons d es ih =>
      intro j ρ e hj hI
      have hlt : j < ds.length := by
        rcases Nat.lt_or_ge j ds.length with z | z
        · exact z
        · rw [List.drop_of_length_le z] at e; cases e
      rw [List.drop_eq_getElem_cons hlt] at e
      cases e
      obtain ⟨ρ1, h1, h2⟩ := step j _ ρ (List.getElem?_eq_getElem hlt) hI
      unfold forM
      rw [h1]
      dsimp only
      rcases h2 with ⟨ρ2, e, h2⟩ | ⟨ρ2, e, h2⟩ | ⟨ρ2, e, h2⟩ | ⟨x, e, h2⟩
      · rw [e]; exact ih (j + 1) ρ2 rfl hlt h2
      · rw [e]; exact ih (j + 1) ρ2 rfl hlt h2
      · rw [e]; exact .inl ⟨ρ2, rfl, h2⟩
      · rw [e]; exact .inr (.inr (.inr ⟨x, rfl, h2⟩))
  exact go ds 0 ρ rfl (Nat.zero_le _) h
/-- .. over range(n) -/
theorem w_rng {f : D → Env → Option Env} {body : Env → SO} {n : Nat} {ρ : Env} {N C B : Env → Prop} {T : DV → Prop} (I : Nat → Env → Prop) (h : I 0 ρ)
    (step : ∀ (j : Nat) (ρ : Env), j < n → I j ρ → ∃ ρ1, f (.int j) ρ = some ρ1 ∧ (body ρ1).w (I (j + 1)) (I (j + 1)) N T) (fin : ∀ ρ, I n ρ → N ρ) : (forM f body (rangeL 0 1 n) ρ).w N C B T := by
  have hlen : (rangeL 0 1 n).length = n := by simp [rangeL]
  refine w_for I h (fun j d ρ e hI => ?_) (by rw [hlen]; exact fin)
  have hj : j < n := by
    rw [← hlen]
    exact (List.getElem?_eq_some_iff.mp e).1
  have : d = .int j := by
    unfold rangeL at e
    rw [List.getElem?_map, List.getElem?_range hj] at e
    have e := Option.some.inj e
    rw [← e]
    simp
  subst this
  exact step j ρ hj hI
theorem w_while {pt : Env → R Bool} {body : Env → SO} {N C B : Env → Prop} {T : DV → Prop} (I : Nat → Env → Prop) (n : Nat) {fuel : Nat} {ρ : Env} (hn : n < fuel) (h : I n ρ)
    (step : ∀ n ρ, I n ρ → (pt ρ).w fun c => if c = true then (body ρ).w (fun ρ2 => ∃ m, m < n ∧ I m ρ2) (fun ρ2 => ∃ m, m < n ∧ I m ρ2) N T else N ρ) : (whileM pt body fuel ρ).w N C B T := by
  induction fuel generalizing n ρ with
  | zero => exact absurd hn (Nat.not_lt_zero _)
  | succ fuel ih =>
    obtain ⟨c, h1, h2⟩ := R.w_get (step n ρ h)
    unfold whileM
    rw [h1]
    cases c with
    | false =>
      rw [if_neg (by simp)] at h2
      exact .inl ⟨ρ, rfl, h2⟩
    | true =>
      rw [if_pos rfl] at h2
      show SO.w (match body ρ with
      | .nx ρ2 => whileM pt body fuel ρ2
      | .ct ρ2 => whileM pt body fuel ρ2
      | .bk ρ2 => .nx ρ2
      | r => r) N C B T
      rcases h2 with ⟨ρ2, e, m, hm, hI⟩ | ⟨ρ2, e, m, hm, hI⟩ | ⟨ρ2, e, h2⟩ | ⟨x, e, h2⟩
      · rw [e]; exact ih m (by omega) hI
      · rw [e]; exact ih m (by omega) hI
      · rw [e]; exact .inl ⟨ρ2, rfl, h2⟩
      · rw [e]; exact .inr (.inr (.inr ⟨x, rfl, h2⟩))

/-! ### lists by place, slices, in -/
theorem append_ok {i : Nat} {ρ : Env} {xs : List D} {y : DV} {d : D} {pl : Env → R (List DV)} (h : ρ[i]? = some (some (.lst xs, .ow))) (hp : pl ρ = .ok [y]) (hy : keep1 y = some d) (hz : xs.length < PySem.sizeLine) :
    methS gAppend i pl ρ = .nx (ρ.set i (some (.lst (xs ++ [d]), .ow))) := by
  unfold methS
  rw [h]
  simp only [hp, R.st_ok, gAppend, hz, if_true, hy, Option.map_some]
theorem atI_nat' {α : Type} (xs : List α) (j : Nat) : atI xs (j : Int) = xs[j]? := by
  unfold atI ixN
  rw [if_pos (Int.natCast_nonneg j)]
  by_cases h : j < xs.length
  · rw [if_pos (by omega)]; simp
  · rw [if_neg (by omega), List.getElem?_eq_none (by omega)]; rfl
theorem ix_lst {xs : List D} {j : Nat} {d : D} {i : Int} (k l : Kd) (hi : i = j) (h : xs[j]? = some d) : ixD (.lst xs, k) (.int i, l) = .ok (d, .fz) := by
  subst hi; unfold ixD; simp only [atI_nat', h]
theorem ix_tup {xs : List D} {j : Nat} {d : D} {i : Int} (k l : Kd) (hi : i = j) (h : xs[j]? = some d) : ixD (.tup xs, k) (.int i, l) = .ok (d, .fz) := by
  subst hi; unfold ixD; simp only [atI_nat', h]
theorem cut_to {α : Type} (xs : List α) (n : Nat) : cutL xs none (some (n : Int)) = xs.take n := by
  unfold cutL
  rw [HT.sIx_none, HT.sIx_nat, List.drop_zero, Nat.sub_zero]
  by_cases h : n ≤ xs.length
  · rw [Nat.min_eq_left h]
  · rw [Nat.min_eq_right (by omega), List.take_length, List.take_of_length_le (by omega)]
theorem cut_from {α : Type} (xs : List α) (n : Nat) : cutL xs (some (n : Int)) none = xs.drop n := by
  unfold cutL
  rw [HT.sIx_none, HT.sIx_nat]
  by_cases h : n ≤ xs.length
  · rw [Nat.min_eq_left h, List.take_of_length_le (by simp)]
  · rw [Nat.min_eq_right (by omega), List.drop_of_length_le (by omega), List.drop_of_length_le (by omega)]; simp
theorem cut_mid {α : Type} (xs : List α) (m n : Nat) (h : n ≤ xs.length) : cutL xs (some (m : Int)) (some (n : Int)) = (xs.drop m).take (n - m) := by
  unfold cutL
  rw [HT.sIx_nat, HT.sIx_nat, Nat.min_eq_left h]
  by_cases hm : m ≤ xs.length
  · rw [Nat.min_eq_left hm]
  · rw [Nat.min_eq_right (by omega), List.drop_of_length_le (by omega), List.drop_of_length_le (by omega)]; simp
theorem any_ints (ns : List Int) (i : Int) : ((iL ns).any fun y => PyData.eqv y.py (.int i)) = decide (i ∈ ns) := by
  induction ns with
  | nil => simp
  | cons a r ih =>
    rw [← iL_cons, List.any_cons, ih]
    simp only [py_int, eqv_int, List.mem_cons]
    by_cases h : a = i
    · subst h; simp
    · simp [h, Ne.symm h]
@[simp] theorem in_lst (g : Bool → Bool) (ns : List Int) (i : Int) (k l : Kd) : cIn g (.int i, k) (.lst (iL ns), l) = .ok (.bl (g (decide (i ∈ ns))), .fz) := by
  unfold cIn inD
  simp only [py_int, plain_int, depth_int, plainAll_ints, Nat.zero_le, and_self, if_true, any_ints, R.bind_ok]
@[simp] theorem in_tup (g : Bool → Bool) (ns : List Int) (i : Int) (k l : Kd) : cIn g (.int i, k) (.tup (iL ns), l) = .ok (.bl (g (decide (i ∈ ns))), .fz) := by
  unfold cIn inD
  simp only [py_int, plain_int, depth_int, plainAll_ints, Nat.zero_le, and_self, if_true, any_ints, R.bind_ok]
theorem boolsD_map2 {α : Type} (f : α → Bool) : ∀ xs : List α, boolsD (xs.map fun a => D.bl (f a)) = some (xs.map f)
  | [] => rfl
  | x :: r => by simp [boolsD, boolsD_map2 f r]
theorem gAll {α : Type} (f : α → Bool) (xs : List α) (k : Kd) : gBools (fun bs => bs.all id) (.lst (xs.map fun a => D.bl (f a)), k) = .ok (.bl (xs.all f), .fz) := by
  unfold gBools
  simp only [boolsD_map2, List.all_map]
  rfl
theorem gAllT {xs : List D} (k : Kd) (h : ∀ d ∈ xs, d = .bl true) : gBools (fun bs => bs.all id) (.lst xs, k) = .ok (.bl true, .fz) := by
  have e : xs = xs.map fun _ => D.bl true := (List.map_id xs).symm.trans (List.map_congr_left fun d hd => h d hd)
  rw [e, gAll (fun _ => true)]
  simp
theorem gSorted_ints (ns : List Int) (k : Kd) (h : ns.length ≤ sizeLine) : gSorted (.lst (iL ns), k) = .ok (.lst (sortD (iL ns)), .ow) := by
  have ok : sortOk (iL ns) = true := by
    unfold sortOk
    have a1 : (iL ns).length ≤ sizeLine := by rw [iL_length]; exact h
    have a2 : ((iL ns).all fun a => (iL ns).all fun b => PySem.W.alike a.py b.py) = true := by
      rw [List.all_eq_true]
      intro a ha
      rw [List.all_eq_true]
      intro b hb
      obtain ⟨i, _, rfl⟩ := iL_mem ha
      obtain ⟨j, _, rfl⟩ := iL_mem hb
      simp [PySem.W.alike]
    have a3 : (iL ns).all D.nonTup = true := by
      rw [List.all_eq_true]
      intro a ha
      obtain ⟨i, _, rfl⟩ := iL_mem ha
      rfl
    have a4 : ((iL ns).all fun a => decide (a.py.depth ≤ 100)) = true := by
      rw [List.all_eq_true]
      intro a ha
      obtain ⟨i, _, rfl⟩ := iL_mem ha
      simp
    rw [decide_eq_true a1, plainAll_ints, a2, a3, a4]
    rfl
  unfold gSorted
  simp only [ok, if_true]
theorem slTo (ns : List Int) (n : Nat) (k : Kd) : slD (.lst (iL ns), k) none (some (n : Int)) = .ok (.lst (iL (ns.take n)), .ow) := by
  show R.ok (D.lst (cutL (iL ns) none (some (n : Int))), Kd.ow) = _
  rw [cut_to, iL_take]
theorem tupleText_le (m : Nat) (ts : List Str) (h : ∀ t ∈ ts, t.length ≤ m) : (tupleText ts).length ≤ ts.length * (m + 2) + 3 := by
  have hp : ∀ ts : List Str, (∀ t ∈ ts, t.length ≤ m) → piled ts ≤ ts.length * (m + 2) := by
    intro ts
    induction ts with
    | nil => intro _; simp [piled]
    | cons t r ih =>
      intro h
      have h1 := h t List.mem_cons_self
      have h2 := ih fun u hu => h u (List.mem_cons_of_mem _ hu)
      rw [piled_cons, List.length_cons, Nat.add_mul]
      omega
  have hq := hp ts h
  unfold tupleText
  rw [strLen_append, strLen_append]
  have e1 : ((("(" : String) : Str)).length = 1 := rfl
  have e3 : (((if ts.length == 1 then ",)" else ")" : String) : Str)).length ≤ 2 := by split <;> decide
  rw [e1]
  by_cases z : ts = []
  · subst z
    have : (Str.join ", " []).length = 0 := rfl
    omega
  · have := join_length_add ts z
    omega
theorem int_text (i : Int) (h : 0 ≤ i ∧ i < 100) : (PyData.shown (.int i)).length ≤ 3 := by
  have all : ∀ n : Fin 100, (PyData.shown (.int (n.val : Int))).length ≤ 3 := by decide +kernel
  have := all ⟨i.toNat, by omega⟩
  dsimp only at this
  rwa [Int.toNat_of_nonneg h.1] at this
theorem shownAll_map {α : Type} (f : α → PyData) (xs : List α) : PyData.shownAll (xs.map f) = xs.map fun x => (f x).shown := by
  induction xs with
  | nil => simp [PyData.shownAll]
  | cons x r ih => simp only [List.map_cons, PyData.shownAll, ih]
theorem showableAll_map {α : Type} (f : α → PyData) (xs : List α) (h : ∀ x ∈ xs, (f x).showable = true) : PyData.showableAll (xs.map f) = true := by
  induction xs with
  | nil => simp [PyData.showableAll]
  | cons x r ih => simp only [List.map_cons, PyData.showableAll, h x List.mem_cons_self, ih fun y hy => h y (List.mem_cons_of_mem _ hy), Bool.and_self]
theorem hasDictAll_map {α : Type} (f : α → PyData) (xs : List α) (h : ∀ x ∈ xs, (f x).hasDict = false) : PyData.hasDictAll (xs.map f) = false := by
  induction xs with
  | nil => simp [PyData.hasDictAll]
  | cons x r ih => simp only [List.map_cons, PyData.hasDictAll, h x List.mem_cons_self, ih fun y hy => h y (List.mem_cons_of_mem _ hy), Bool.or_self]
theorem row_py (r : List Int) : (D.tup (iL r)).py = .tuple (r.map PyData.int) := by
  rw [py_tup, iL, List.map_map]
  rfl
theorem repr_rows (S : List (List Int)) (h1 : S.length ≤ 100) (h2 : ∀ r ∈ S, r.length ≤ 100 ∧ ∀ a ∈ r, 0 ≤ a ∧ a < 100) : ∃ t, gRepr (.tup (S.map fun r => .tup (iL r)), .fz) = .ok (.str t, .fz) := by
  have e : (D.tup (S.map fun r => D.tup (iL r))).py = .tuple (S.map fun r => PyData.tuple (r.map PyData.int)) := by
    rw [py_tup, List.map_map]
    congr 1
    apply List.map_congr_left
    intro r _
    exact row_py r
  have c1 : (PyData.tuple (S.map fun r => PyData.tuple (r.map PyData.int))).plain = true := by
    rw [plain_tuple]
    exact plainAll_map _ _ fun r _ => by rw [plain_tuple]; exact plainAll_map _ _ fun _ _ => by simp
  have c2 : (PyData.tuple (S.map fun r => PyData.tuple (r.map PyData.int))).showable = true := by
    simp only [PyData.showable]
    refine showableAll_map _ _ fun r hr => ?_
    simp only [PyData.showable]
    refine showableAll_map _ _ fun a ha => ?_
    obtain ⟨p1, p2⟩ := (h2 r hr).2 a ha
    simp only [PyData.showable, decide_eq_true_eq]
    have : a.natAbs.log2 ≤ a.natAbs := Nat.log2_le_self _
    omega
  have c3 : (PyData.tuple (S.map fun r => PyData.tuple (r.map PyData.int))).hasDict = false := by
    simp only [PyData.hasDict]
    refine hasDictAll_map _ _ fun r hr => ?_
    simp only [PyData.hasDict]
    exact hasDictAll_map _ _ fun a ha => by simp only [PyData.hasDict]
  have c4 : (PyData.tuple (S.map fun r => PyData.tuple (r.map PyData.int))).depth ≤ 100 := by
    rw [depth_tuple]
    have := depthAll_le (fun r => PyData.tuple (r.map PyData.int)) 1 S fun r _ => by
      rw [depth_tuple]
      have := depthAll_le PyData.int 0 r fun a _ => by simp
      omega
    omega
  have c5 : (PyData.tuple (S.map fun r => PyData.tuple (r.map PyData.int))).shown.length ≤ sizeLine := by
    simp only [PyData.shown]
    rw [shownAll_map]
    have := tupleText_le 600 (S.map fun r => (PyData.tuple (r.map PyData.int)).shown) fun t ht => by
      obtain ⟨r, hr, rfl⟩ := List.mem_map.mp ht
      obtain ⟨l1, l2⟩ := h2 r hr
      simp only [PyData.shown]
      rw [shownAll_map]
      have := tupleText_le 3 (r.map fun a => (PyData.int a).shown) fun t ht => by
        obtain ⟨a, ha, rfl⟩ := List.mem_map.mp ht
        exact int_text a (l2 a ha)
      rw [List.length_map] at this
      omega
    rw [List.length_map] at this
    rw [sizeLine_val]
    omega
  refine ⟨(PyData.tuple (S.map fun r => PyData.tuple (r.map PyData.int))).shown, ?_⟩
  unfold gRepr
  rw [if_pos (by rfl)]
  unfold reprD
  rw [e, if_pos ⟨c1, c2, c3, c4, c5⟩]
  rfl
theorem cEq_str_self (g : Bool → Bool) (t : Str) (k l : Kd) : cEq g (.str t, k) (.str t, l) = .ok (.bl (g true), .fz) := by
  have h : PyData.eqv (.str t) (.str t) = true := by simp [PyData.eqv]
  have p : PyData.plain (.str t) = true := by simp only [PyData.plain]
  have d : PyData.depth (.str t) = 0 := by simp only [PyData.depth]
  simp [cEq, eqD, h, p, d]
theorem eqvAll_ints : ∀ xs ys : List Int, PyData.eqvAll ((iL xs).map D.py) ((iL ys).map D.py) = decide (xs = ys)
  | [], [] => by simp [PyData.eqvAll]
  | [], y :: ys => by rw [← iL_cons]; simp [PyData.eqvAll]
  | x :: xs, [] => by rw [← iL_cons]; simp [PyData.eqvAll]
  | x :: xs, y :: ys => by
    rw [← iL_cons, ← iL_cons, List.map_cons, List.map_cons, PyData.eqvAll, eqvAll_ints xs ys]
    simp only [py_int, eqv_int, List.cons.injEq]
    by_cases a : x = y <;> by_cases b : xs = ys <;> simp [a, b]
theorem cEq_ints (g : Bool → Bool) (xs ys : List Int) (k l : Kd) : cEq g (.lst (iL xs), k) (.lst (iL ys), l) = .ok (.bl (g (decide (xs = ys))), .fz) := by
  have h : PyData.eqv (.list ((iL xs).map D.py)) (.list ((iL ys).map D.py)) = decide (xs = ys) := by simp only [PyData.eqv, eqvAll_ints]
  simp [cEq, eqD, h, depthAll_iL]
end FK
namespace FK
open PySem PySem.Spec L2
open PyProof.Rows hiding St
/-! PL2: more words. -/
@[simp] theorem three_eq (g : DV → DV → DV → R DV) (x y z : DV) : three g [x, y, z] = g x y z := Eq.trans rfl rfl
@[simp] theorem gI3_eq (f : Int → Int → Int → Int) (i j n : Int) (k l m : Kd) : gI3 f (.int i, k) (.int j, l) (.int n, m) = .ok (.int (f i j n), .fz) := Eq.trans rfl rfl
@[simp] theorem isBool_bl (g : Bool → Bool) (a b : Bool) : isBoolD g (.bl a, .fz) (.bl b, .fz) = .ok (.bl (g (decide (a = b))), .fz) := Eq.trans rfl rfl
theorem lcM2_ok {f : D → Env → Option Env} {pt : Env → R Bool} {q1 : Env → R (List D × Kd)} {f1 : D → Env → Option Env} {pt1 : Env → R Bool} {pe : Env → R DV} {vs1 : List Nat} {ρ : Env} (g : D → List D) : ∀ ds : List D,
    (∀ d ∈ ds, ∃ ρ1, f d ρ = some ρ1 ∧ pt ρ1 = .ok true ∧ ∃ xs k, q1 ρ1 = .ok (xs, k) ∧ k ≠ .al ∧ lcM f1 pt1 pe xs (wipeD ρ1 vs1) = .ok (g d)) → lcM2 f pt q1 f1 pt1 pe vs1 ds ρ = .ok (ds.map g).flatten
  | [], _ => rfl
  | d :: r, h => by
    obtain ⟨ρ1, h1, h2, xs, k, h3, h4, h5⟩ := h d List.mem_cons_self
    have ih := lcM2_ok g r fun e he => h e (List.mem_cons_of_mem _ he)
    unfold lcM2
    rw [h1]
    dsimp only
    rw [h2]
    simp [FK.R.quiet, h3, h4, h5, ih]
@[simp] theorem e_mLc2 (ρ : Env) (it q1 : Env → FK.R (List D × Kd)) (gt gt1 : D → Env → Option Env) (pt pt1 : Env → FK.R Bool) (p : Env → FK.R DV) (vs vs1 : List Nat) (P : DV → Prop) : (mLc2 it gt pt q1 gt1 pt1 p vs vs1 ρ).w P = (it ρ).w fun x => (lcM2 gt pt q1 gt1 pt1 p vs1 x.1 (wipeD ρ vs)).quiet.w fun r => if r.length ≤ sizeLine then P (.lst r, .ow) else False := by
  unfold mLc2
  rw [FK.R.w_bind]
  refine FK.R.w_cg fun x => ?_
  rw [FK.R.w_bind]
  refine FK.R.w_cg fun r => ?_
  rw [FK.R.w_ite, FK.R.w_noF, FK.R.w_ok]
theorem frzS_fz {i : Nat} {ρ : Env} {d : D} (h : ρ[i]? = some (some (d, .fz))) : frzS i ρ = ρ := by
  unfold frzS
  rw [h]
theorem add_tup {xs ys : List D} (h : xs.length + ys.length ≤ sizeLine) : opAdd (.tup xs, .fz) (.tup ys, .fz) = .ok (.tup (xs ++ ys), .fz) := by simp [opAdd, h]
theorem repr_bulk (d : D) (B : Nat) (hB : 8 ≤ B) (h0 : d.isRf = true) (h1 : d.py.plain = true) (h2 : d.py.showable = true) (h3 : d.py.hasDict = false) (h4 : d.py.depth ≤ 100) (h5 : d.py.leavesShort B = true) (h6 : (B + 2) * d.py.bulk + B ≤ sizeLine) :
    ∃ t, ∀ k, gRepr (d, k) = .ok (.str t, .fz) := by
  have := PyData.shown_le_bulk B hB d.py h5
  refine ⟨d.py.shown, fun k => ?_⟩
  unfold gRepr
  rw [if_pos h0]
  unfold reprD
  rw [if_pos ⟨h1, h2, h3, h4, (by show d.py.shown.length ≤ _; omega)⟩]
  rfl
theorem bulk_ints : ∀ ns : List Int, PyData.bulkAll (ns.map PyData.int) = ns.length
  | [] => by simp only [List.map_nil, PyData.bulkAll, List.length_nil]
  | n :: r => by simp only [List.map_cons, PyData.bulkAll, PyData.bulk, bulk_ints r, List.length_cons]; omega
theorem short_ints (B : Nat) : ∀ ns : List Int, (∀ a ∈ ns, (PyData.int a).shown.length ≤ B) → PyData.leavesShortAll B (ns.map PyData.int) = true
  | [], _ => by simp only [List.map_nil, PyData.leavesShortAll]
  | n :: r, h => by simp only [List.map_cons, PyData.leavesShortAll, PyData.leavesShort, short_ints B r fun a ha => h a (List.mem_cons_of_mem _ ha), h n List.mem_cons_self, decide_true, Bool.and_self]
theorem ints_py (ns : List Int) : (iL ns).map D.py = ns.map PyData.int := by
  rw [iL, List.map_map]
  rfl
theorem showable_ints (ns : List Int) (h2 : ∀ a ∈ ns, 0 ≤ a ∧ a < 100) : PyData.showableAll (ns.map PyData.int) = true := showableAll_map _ _ fun a ha => by
  obtain ⟨p1, p2⟩ := h2 a ha
  simp only [PyData.showable, decide_eq_true_eq]
  have : a.natAbs.log2 ≤ a.natAbs := Nat.log2_le_self _
  omega
theorem repr_ints (ns : List Int) (h1 : ns.length ≤ 100) (h2 : ∀ a ∈ ns, 0 ≤ a ∧ a < 100) : ∃ t, ∀ k, gRepr (.lst (iL ns), k) = .ok (.str t, .fz) := by
  have sz := sizeLine_val
  refine repr_bulk _ 8 (by omega) rfl ?_ ?_ ?_ ?_ ?_ ?_
  · simp
  · rw [py_lst, ints_py]
    simp only [PyData.showable]
    exact showable_ints ns h2
  · rw [py_lst, ints_py]
    simp only [PyData.hasDict]
    exact hasDictAll_map _ _ fun a ha => by simp only [PyData.hasDict]
  · rw [py_lst, ints_py, depth_list]
    have := depthAll_le PyData.int 0 ns fun a _ => by simp
    omega
  · rw [py_lst, ints_py]
    simp only [PyData.leavesShort]
    exact short_ints 8 ns fun a ha => by have := int_text a (h2 a ha); omega
  · rw [py_lst, ints_py]
    simp only [PyData.bulk, bulk_ints]
    omega
@[simp] theorem gRepr_int (i : Int) (k : Kd) : gRepr (.int i, k) = if i.natAbs.log2 < 1920 then .ok (.str (toString i), .fz) else .no := Eq.trans rfl rfl
end FK
namespace FK
open PySem PySem.Spec L2
open PyProof.Rows hiding St
/-! PL3: words of defs that write a pool; tuple keys. -/
def SOp.w (r : SOp) (N : Env → Prop) (T : DV → Env → Prop) [Tag N] [Tag T] : Prop := (∃ ρ, r = .nx ρ ∧ N ρ) ∨ ∃ x ρ, r = .rt x ρ ∧ T x ρ
section
variable (N : Env → Prop) (T : DV → Env → Prop)
@[simp] theorem SOp.w_nx (ρ : Env) : (SOp.nx ρ).w N T = N ρ := by simp [SOp.w]
@[simp] theorem SOp.w_rt (x : DV) (ρ : Env) : (SOp.rt x ρ).w N T = T x ρ := propext ⟨fun h => by
  rcases h with ⟨r, e, _⟩ | ⟨y, r, e, h⟩
  · cases e
  · cases e; exact h, fun h => .inr ⟨x, ρ, rfl, h⟩⟩
theorem SOp.w_noF : SOp.no.w N T = False := by simp [SOp.w]
theorem SOp.w_seq (r : SOp) (m : Env → SOp) : (r.seq m).w N T = r.w (fun ρ => (m ρ).w N T) T := by
  cases r with
  | nx ρ => rw [SOp.w_nx]; rfl
  | rt x ρ => rw [SOp.w_rt]; exact SOp.w_rt N T x ρ
  | no => rw [SOp.w_noF]; exact SOp.w_noF N T
theorem R.w_sp {α : Type} (r : R α) (f : α → SOp) : (r.sp f).w N T = r.w fun x => (f x).w N T := by
  cases r with
  | ok x => rw [R.w_ok]; rfl
  | ex e => rw [R.w_exF]; exact SOp.w_noF N T
  | no => rw [R.w_noF]; exact SOp.w_noF N T
end
theorem SOp.w_mono {r : SOp} {N N' : Env → Prop} {T T' : DV → Env → Prop} (h : r.w N T) (n : ∀ ρ, N ρ → N' ρ) (t : ∀ x ρ, T x ρ → T' x ρ) : r.w N' T' := by
  rcases h with ⟨ρ, rfl, h⟩ | ⟨x, ρ, rfl, h⟩
  · exact .inl ⟨ρ, rfl, n ρ h⟩
  · exact .inr ⟨x, ρ, rfl, t x ρ h⟩
section
variable (ρ : Env) (p q pv pk : Env → R DV) (pm pn : Env → R (DV × Env)) (pt : Env → R Bool) (a b : Env → SOp) (i : Nat) (N : Env → Prop) (T : DV → Env → Prop) (P : DV × Env → Prop) (C B : Env → Prop) (T' : DV → Prop)
@[simp] theorem e_pNil : pNil ρ = .nx ρ := Eq.trans rfl rfl
@[simp] theorem e_pSeq : (pSeq a b ρ).w N T = (a ρ).w (fun ρ => (b ρ).w N T) T := SOp.w_seq N T _ _
@[simp] theorem e_pIf : (pIf pt a b ρ).w N T = (pt ρ).w fun c => if c = true then (a ρ).w N T else (b ρ).w N T := by
  unfold pIf
  rw [R.w_sp]
  refine R.w_cg fun x => ?_
  cases x <;> rfl
@[simp] theorem e_pSet : (pSet i p ρ).w N T = (p ρ).w fun x => ∃ y, slotK x = some y ∧ N (ρ.set i (some y)) := by
  unfold pSet
  rw [R.w_sp]
  refine R.w_cg fun x => ?_
  cases slotK x with
  | none => dsimp only; rw [SOp.w_noF]; simp
  | some y => dsimp only; rw [SOp.w_nx]; simp
@[simp] theorem e_pSetM : (pSetM i pm ρ).w N T = (pm ρ).w fun x => if x.1.2 = .fz then N (x.2.set i (some x.1)) else False := by
  unfold pSetM
  rw [R.w_sp]
  refine R.w_cg fun x => ?_
  split
  · rw [SOp.w_nx]
  · rw [SOp.w_noF]
@[simp] theorem e_sSetM : (sSetM i pm ρ).w N C B T' = (pm ρ).w fun x => if x.1.2 = .fz then N (x.2.set i (some x.1)) else False := by
  unfold sSetM
  rw [SO.w_st]
  cases pm ρ with
  | no => rw [R.w_noF]; exact R.w_noF _
  | ex e => rw [R.w_exF]; exact R.w_noF _
  | ok x =>
    rw [R.w_ok]
    show ((R.ok x).w _) = _
    rw [R.w_ok]
    split
    · rw [SO.w_nx]
    · rw [SO.w_noF]
@[simp] theorem e_pRet : (pRet p ρ).w N T = (p ρ).w fun x => if x.2 = .fz then T x ρ else False := by
  unfold pRet
  rw [R.w_sp]
  refine R.w_cg fun x => ?_
  split
  · rw [SOp.w_rt]
  · rw [SOp.w_noF]
theorem e_pPut {xs : List D} {r : Env} : (pPut pv pk (some (.lst xs, .ow) :: r)).w N T = (pv (some (.lst xs, .ow) :: r)).w fun v => (pk (some (.lst xs, .ow) :: r)).w fun k => match keep1 v, k.1 with
    | some d, .int n => (match ixN xs.length n with | some j => N (some (.lst (xs.set j d), .ow) :: r) | none => False)
    | _, _ => False := by
  unfold pPut
  rw [R.w_sp]
  refine R.w_cg fun v => ?_
  show SOp.w ((pk (some (.lst xs, .ow) :: r)).sp _) N T = _
  rw [R.w_sp]
  refine R.w_cg fun k => ?_
  obtain ⟨kd, kk⟩ := k
  cases keep1 v with
  | none => cases kd <;> exact SOp.w_noF N T
  | some d =>
    cases kd <;> first | exact SOp.w_noF N T | skip
    rename_i n
    dsimp only
    cases ixN xs.length n with
    | none => exact SOp.w_noF N T
    | some j => dsimp only; rw [SOp.w_nx]; rfl
@[simp] theorem e_mP : (mP p ρ).w P = (p ρ).w fun x => P (x, ρ) := by
  unfold mP
  rw [R.w_bind]
  exact R.w_cg fun x => R.w_ok _ _
@[simp] theorem e_m2 (f : DV → DV → R DV) : (m2 f pm pn ρ).w P = (pm ρ).w fun x => (pn x.2).w fun y => if x.1.2 = .al then False else (f x.1 y.1).w fun z => P (z, y.2) := by
  unfold m2
  rw [R.w_bind]
  refine R.w_cg fun x => ?_
  rw [R.w_bind]
  refine R.w_cg fun y => ?_
  rw [R.w_ite, R.w_noF]
  congr 1
  rw [R.w_bind]
  exact R.w_cg fun x => R.w_ok _ _
@[simp] theorem e_m1 (g : List DV → R DV) : (m1 g pm ρ).w P = (pm ρ).w fun x => (g [x.1]).w fun z => P (z, x.2) := by
  unfold m1
  rw [R.w_bind]
  refine R.w_cg fun x => ?_
  rw [R.w_bind]
  exact R.w_cg fun x => R.w_ok _ _
@[simp] theorem e_mT1 : (mT1 pm ρ).w P = (pm ρ).w fun x => (mkTup [x.1]).w fun z => P (z, x.2) := by
  unfold mT1
  rw [R.w_bind]
  refine R.w_cg fun x => ?_
  rw [R.w_bind]
  exact R.w_cg fun x => R.w_ok _ _
end
@[simp] theorem e_mCmp (f : DV → DV → R DV) (pm pn : Env → R (DV × Env)) (ρ : Env) (P : Bool × Env → Prop) : (mCmp f pm pn ρ).w P = (pm ρ).w fun x => (pn x.2).w fun y => if x.1.2 = .al then False else (f x.1 y.1).w fun z => (boolD z).w fun b => P (b, y.2) := by
  unfold mCmp
  rw [R.w_bind, e_m2]
  refine R.w_cg fun x => R.w_cg fun y => ?_
  split
  · rfl
  · refine R.w_cg fun z => ?_
    rw [R.w_bind]
    exact R.w_cg fun x => R.w_ok _ _
theorem mkLst_6 (a b c d e f : D) : mkLst [(a, .fz), (b, .fz), (c, .fz), (d, .fz), (e, .fz), (f, .fz)] = .ok (.lst [a, b, c, d, e, f], .ow) := by simp [mkLst, show 6 ≤ PySem.sizeLine by decide]
theorem runP_w {N : Nat} {m : Env → SOp} {d0 : D} {as : List DV} {P : DV × D → Prop} (h : (m (some (d0, .ow) :: (as.map some ++ List.replicate (N - (as.length + 1)) none))).w (fun _ => False) fun x ρ => x.2 = .fz ∧ ∃ d', slotOw ρ 0 = some d' ∧ P (x, d')) : (runP N m d0 as).w P := by
  unfold runP
  rcases h with ⟨ρ, e, h⟩ | ⟨x, ρ, e, h1, d', h2, h3⟩
  · exact h.elim
  · rw [e]
    dsimp only
    rw [if_pos h1, h2]
    exact ⟨_, rfl, h3⟩
/-- a call that draws -/
theorem call_w {n i : Nat} {m : D → List DV → R (DV × D)} {pl : Env → R (List DV)} {ρ : Env} {d0 : D} {P : DV × Env → Prop} (h0 : ρ[i]? = some (some (d0, .ow))) (h : (pl ρ).w fun xs => xs.length = n ∧ (xs.map argD).all (fun z => decide (z.2 = .fz)) = true ∧ (m d0 (xs.map argD)).w fun z => z.1.2 = .fz ∧ P (z.1, ρ.set i (some (z.2, .ow)))) : (mCall n m i pl ρ).w P := by
  unfold mCall
  rw [h0]
  dsimp only
  obtain ⟨xs, e, h1, h2, z, e2, h3, h4⟩ := h
  rw [e]
  refine ⟨(z.1, ρ.set i (some (z.2, .ow))), ?_, h4⟩
  show (if _ then _ else _) = _
  rw [if_pos ⟨h1, h2⟩, e2]
  show (if _ then _ else _) = _
  rw [if_pos h3]
theorem w_forP {i : Nat} {body : Env → SOp} {n : Nat} {ρ : Env} {N : Env → Prop} {T : DV → Env → Prop} (I : Nat → Env → Prop) (h : I 0 ρ)
    (step : ∀ (j : Nat) (ρ : Env), j < n → I j ρ → (body (ρ.set i (some (.int j, .fz)))).w (I (j + 1)) fun _ _ => False) (fin : ∀ ρ, I n ρ → N ρ) : (forP i body (rangeL 0 1 n) ρ).w N T := by
  have hlen : (rangeL 0 1 n).length = n := by simp [rangeL]
  have go : ∀ (es : List D) (j : Nat) (ρ : Env), es = (rangeL 0 1 n).drop j → j ≤ n → I j ρ → (forP i body es ρ).w N T := by
    intro es
    induction es with
    | nil =>
      intro j ρ e hj hI
      have : n ≤ j := by
        have := congrArg List.length e
        simp [hlen] at this
        omega
      have : j = n := by omega
      subst this
      exact .inl ⟨ρ, rfl, fin ρ hI⟩
    | cons d es ih =>
      intro j ρ e hj hI
      have hlt : j < (rangeL 0 1 n).length := by
        rcases Nat.lt_or_ge j (rangeL 0 1 n).length with z | z
        · exact z
        · rw [List.drop_of_length_le z] at e; cases e
      rw [List.drop_eq_getElem_cons hlt] at e
      have ed : (rangeL 0 1 n)[j] = D.int (j : Nat) := by simp [rangeL]
      rw [ed] at e
      cases e
      have h2 := step j ρ (by omega) hI
      unfold forP
      rcases h2 with ⟨ρ2, e, h2⟩ | ⟨x, ρ2, e, h2⟩
      · rw [e]; exact ih (j + 1) ρ2 rfl (by omega) h2
      · exact h2.elim
  exact go _ 0 ρ rfl (Nat.zero_le _) h
theorem pFor_w {i : Nat} {pm : Env → R (DV × Env)} {body : Env → SOp} {ρ : Env} {N : Env → Prop} {T : DV → Env → Prop} (h : (pm ρ).w fun x => ∃ n : Nat, x.1.1 = .int n ∧ n < 2 ^ 60 ∧ (forP i body (rangeL 0 1 n) x.2).w N T) : (pFor i pm body ρ).w N T := by
  unfold pFor
  rw [R.w_sp]
  refine R.w_mono h ?_
  rintro ⟨⟨d, k⟩, ρ'⟩ ⟨n, e, hn, h⟩
  cases (show d = .int n from e)
  dsimp only
  rw [if_pos (by omega), Int.toNat_natCast]
  exact h
/-- [k for k in range(n) if <a draw> == 0], by an invariant of the pool's environment -/
theorem lcMm_w {f : D → Env → Option Env} {pt : Env → R (Bool × Env)} {pe : Env → R DV} {vs : List Nat} (J : Env → Prop) (x : D → D) : ∀ (ds : List D) (ρ : Env) (P : List D × Env → Prop), J ρ →
    (∀ d ∈ ds, ∀ ρ, J ρ → ∃ ρ1, f d ρ = some ρ1 ∧ (pt ρ1).w fun z => owSub (wipeD z.2 vs) ρ = true ∧ J (wipeD z.2 vs) ∧ (z.1 = true → ∃ y, pe z.2 = .ok y ∧ keep1 y = some (x d))) →
    (∀ (b : D → Bool) (es : List D) (ρ' : Env), es.Sublist ds → J ρ' → P (es.map x, ρ')) → (lcMm f pt pe vs ds ρ).w P
  | [], ρ, P, hJ, _, hP => ⟨_, rfl, hP (fun _ => true) [] ρ (List.Sublist.refl _) hJ⟩
  | d :: ds, ρ, P, hJ, hs, hP => by
    obtain ⟨ρ1, h1, z, h2, h3, h4, h5⟩ := hs d List.mem_cons_self ρ hJ
    unfold lcMm
    rw [h1]
    dsimp only
    rw [h2]
    show ((if _ then _ else _) : R _).w P
    rw [if_pos h3]
    obtain ⟨bb, ρ2⟩ := z
    cases bb with
    | false =>
      show (lcMm f pt pe vs ds (wipeD ρ2 vs)).w P
      exact lcMm_w J x ds _ P h4 (fun e he => hs e (List.mem_cons_of_mem _ he)) fun b es ρ' q1 q2 => hP b es ρ' (q1.cons d) q2
    | true =>
      obtain ⟨y, y1, y2⟩ := h5 rfl
      show (((pe ρ2).quiet.bind _) : R _).w P
      rw [y1]
      show ((match keep1 y with | none => _ | some y => _) : R _).w P
      rw [y2]
      show ((lcMm f pt pe vs ds (wipeD ρ2 vs)).bind _).w P
      rw [R.w_bind]
      refine lcMm_w J x ds _ _ h4 (fun e he => hs e (List.mem_cons_of_mem _ he)) fun b es ρ' q1 q2 => ?_
      rw [R.w_ok]
      exact hP b (d :: es) ρ' (q1.cons_cons d) q2
theorem mLcM_w {ip : Nat} {q : Env → R (List D × Kd)} {f : D → Env → Option Env} {pt : Env → R (Bool × Env)} {pe : Env → R DV} {vs : List Nat} {ρ : Env} {P : DV × Env → Prop} (h : (q ρ).w fun x => x.2 = .fz ∧ x.1.length ≤ sizeLine ∧ isOw ρ ip = true ∧ ip ∉ vs ∧ (lcMm f pt pe vs x.1 (wipeD ρ vs)).w fun r => P ((.lst r.1, .ow), r.2)) : (mLcM ip q f pt pe vs ρ).w P := by
  unfold mLcM
  rw [R.w_bind]
  refine R.w_mono h ?_
  rintro ⟨xs, k⟩ ⟨h1, h2, h3, h4, h5⟩
  rw [if_pos ⟨h1, h2, h3, h4⟩, R.w_bind]
  refine R.w_mono h5 ?_
  intro r hr
  rw [R.w_ok]
  exact hr
/-! ### tuple keys -/
def kI (S : List Int) : List Key := S.map Sum.inl
theorem keysD_ints (S : List Int) : keysD (.tup (iL S)) = some (kI S) := by
  have : ∀ S : List Int, (iL S).mapM keyD = some (kI S) := by
    intro S
    induction S with
    | nil => rfl
    | cons a r ih =>
      show (D.int a :: iL r).mapM keyD = _
      rw [List.mapM_cons, ih]
      rfl
  first
    | exact this S
    | (unfold keysD; exact this S)
theorem kI_inj {S T : List Int} (h : kI S = kI T) : S = T := by
  induction S generalizing T with
  | nil => cases T with | nil => rfl | cons b r => cases h
  | cons a r ih => cases T with
    | nil => cases h
    | cons b t =>
      have h : (Sum.inl a : Key) :: kI r = Sum.inl b :: kI t := h
      obtain ⟨h1, h2⟩ := List.cons.inj h
      rw [ih h2, Sum.inl.inj h1]
theorem kT_ints (S : List Int) : kT (kI S) = .tup (iL S) := by
  unfold kT kI iL
  rw [List.map_map]
  rfl
/-- tuples of numbers -/
def tL (ss : List (List Int)) : List D := ss.map fun S => .tup (iL S)
@[simp] theorem tL_length (ss : List (List Int)) : (tL ss).length = ss.length := List.length_map _
theorem tL_append (ss ts : List (List Int)) : tL ss ++ tL ts = tL (ss ++ ts) := (List.map_append).symm
theorem tL_at {ss : List (List Int)} {j : Nat} {d : D} (h : (tL ss)[j]? = some d) : ∃ S, ss[j]? = some S ∧ d = .tup (iL S) := by
  unfold tL at h
  rw [List.getElem?_map] at h
  cases e : ss[j]? with
  | none => rw [e] at h; cases h
  | some x => rw [e] at h; cases h; exact ⟨x, rfl, rfl⟩
theorem tL_mem {ss : List (List Int)} {d : D} (h : d ∈ tL ss) : ∃ S ∈ ss, d = .tup (iL S) := by
  obtain ⟨S, h1, h2⟩ := List.mem_map.mp h
  exact ⟨S, h1, h2.symm⟩
def dtM (kvs : List (List Int × D)) : List (List Key × D) := kvs.map fun kv => (kI kv.1, kv.2)
@[simp] theorem dtM_length (kvs : List (List Int × D)) : (dtM kvs).length = kvs.length := List.length_map _
def look (kvs : List (List Int × D)) (S : List Int) : Option D := (kvs.find? fun kv => decide (kv.1 = S)).map (·.2)
def ky (kvs : List (List Int × D)) : List (List Int) := kvs.map (·.1)
@[simp] theorem ky_nil : ky [] = [] := Eq.trans rfl rfl
theorem ky_len (kvs : List (List Int × D)) : (ky kvs).length = kvs.length := List.length_map _
theorem ky_cons (T : List Int) (v : D) (r : List (List Int × D)) : ky ((T, v) :: r) = T :: ky r := rfl
def put (kvs : List (List Int × D)) (S : List Int) (v : D) : List (List Int × D) := if S ∈ ky kvs then kvs.map fun kv => if kv.1 = S then (kv.1, v) else kv else kvs ++ [(S, v)]
theorem kI_iff {S T : List Int} : kI S = kI T ↔ S = T := ⟨kI_inj, fun h => by rw [h]⟩
theorem lookK_dtM (S : List Int) : ∀ kvs : List (List Int × D), lookK (dtM kvs) (kI S) = look kvs S
  | [] => rfl
  | (T, v) :: r => by
    have ih := lookK_dtM S r
    unfold lookK look dtM at ih ⊢
    rw [List.map_cons, List.find?_cons, List.find?_cons]
    by_cases e : T = S
    · simp [e]
    · simp [e, kI_iff] at ih ⊢
      exact ih
theorem any_dtM (S : List Int) : ∀ kvs : List (List Int × D), ((dtM kvs).any fun kv => decide (kv.1 = kI S)) = decide (S ∈ ky kvs)
  | [] => rfl
  | (T, v) :: r => by
    have ih := any_dtM S r
    unfold dtM at ih ⊢
    rw [List.map_cons, List.any_cons, ih, ky_cons]
    have : decide (kI T = kI S) = decide (T = S) := decide_eq_decide.mpr kI_iff
    simp only [this]
    by_cases e : T = S
    · simp [e]
    · have e' : ¬ S = T := fun z => e z.symm
      simp [e, e']
theorem putD_dtM (kvs : List (List Int × D)) (S : List Int) (v : D) : putD (dtM kvs) (kI S) v = dtM (put kvs S v) := by
  unfold putD put
  rw [any_dtM]
  by_cases h : S ∈ ky kvs
  · rw [if_pos (by simpa using h), if_pos h]
    unfold dtM
    rw [List.map_map, List.map_map]
    refine List.map_congr_left fun kv _ => ?_
    show (if kI kv.1 = kI S then (kI kv.1, v) else (kI kv.1, kv.2)) = (fun kv : List Int × D => (kI kv.1, kv.2)) (if kv.1 = S then (kv.1, v) else kv)
    by_cases e : kv.1 = S
    · simp [e]
    · simp [e, kI_iff]
  · rw [if_neg (by simpa using h), if_neg h]
    unfold dtM
    rw [List.map_append]
    rfl
theorem look_some {kvs : List (List Int × D)} {S : List Int} : (look kvs S).isSome = decide (S ∈ ky kvs) := by
  unfold look
  unfold ky
  rw [Option.isSome_map, Bool.eq_iff_iff, List.find?_isSome, decide_eq_true_iff, List.mem_map]
  constructor
  · rintro ⟨x, h1, h2⟩; exact ⟨x, h1, by simpa using h2⟩
  · rintro ⟨x, h1, h2⟩; exact ⟨x, h1, by simpa using h2⟩
theorem put_keys (kvs : List (List Int × D)) (S : List Int) (v : D) : ky (put kvs S v) = if S ∈ ky kvs then ky kvs else ky kvs ++ [S] := by
  unfold put
  split
  · unfold ky
    rw [List.map_map]
    refine List.map_congr_left fun kv _ => ?_
    show (if kv.1 = S then (kv.1, v) else kv).1 = _
    split <;> rfl
  · unfold ky
    rw [List.map_append]
    rfl
theorem look_put_new {kvs : List (List Int × D)} {S : List Int} (v : D) (h : S ∉ ky kvs) (T : List Int) : look (put kvs S v) T = if T = S then some v else look kvs T := by
  unfold put
  rw [if_neg h]
  unfold look
  rw [List.find?_append]
  by_cases e : T = S
  · subst e
    have : kvs.find? (fun kv => decide (kv.1 = T)) = none := List.find?_eq_none.mpr fun kv hk z => h (List.mem_map.mpr ⟨kv, hk, by simpa using z⟩)
    rw [this]
    simp
  · rw [if_neg e]
    have : ¬ S = T := fun z => e z.symm
    simp [this]
theorem in_dt (g : Bool → Bool) (kvs : List (List Int × D)) (S : List Int) (l : Kd) : cIn g (.tup (iL S), .fz) (.dt (dtM kvs), l) = .ok (.bl (g (decide (S ∈ ky kvs))), .fz) := by
  unfold cIn inD
  dsimp only
  rw [keysD_ints]
  dsimp only
  rw [lookK_dtM, look_some]
  rfl
theorem ix_dt {kvs : List (List Int × D)} {S : List Int} {d : D} (k : Kd) (h : look kvs S = some d) : ixD (.dt (dtM kvs), k) (.tup (iL S), .fz) = .ok (d, .fz) := by
  unfold ixD
  dsimp only
  rw [keysD_ints]
  dsimp only
  rw [lookK_dtM, h]
theorem put_dt {i : Nat} {ρ : Env} {kvs : List (List Int × D)} {S : List Int} {v : D} (h : kvs.length < PySem.sizeLine) : putS i ρ (.dt (dtM kvs)) (v, .fz) (.tup (iL S), .fz) = .nx (ρ.set i (some (.dt (dtM (put kvs S v)), .ow))) := by
  unfold putS
  simp only [keep1_fz, keysD_ints, dtM_length]
  rw [if_pos h, putD_dtM]
theorem keys_tL (kvs : List (List Int × D)) : (dtM kvs).map (fun kv => kT kv.1) = tL (ky kvs) := by
  unfold dtM tL ky
  rw [List.map_map, List.map_map]
  refine List.map_congr_left fun kv _ => ?_
  exact kT_ints kv.1
@[simp] theorem gListT_dt (kvs : List (List Int × D)) (k : Kd) : gListT (.dt (dtM kvs), k) = .ok (.lst (tL (ky kvs)), .ow) := by
  unfold gListT
  dsimp only
  rw [keys_tL]
@[simp] theorem e_mListT (p : Env → R DV) (ρ : Env) (P : DV → Prop) : (mListT p ρ).w P = (p ρ).w fun x => (gListT x).w P := by
  unfold mListT
  rw [R.w_bind]
@[simp] theorem e_mTrg1 (p : Env → R DV) (ρ : Env) (P : DV → Prop) : (mTrg1 p ρ).w P = (p ρ).w fun x => (trg1 x).w P := by
  unfold mTrg1
  rw [R.w_bind]
@[simp] theorem e_mRevL (p : Env → R DV) (ρ : Env) (P : DV → Prop) : (mRevL p ρ).w P = (p ρ).w fun x => (revL x).w P := by
  unfold mRevL
  rw [R.w_bind]
@[simp] theorem revL_lst (xs : List D) (k : Kd) : revL (.lst xs, k) = .ok (.lst xs.reverse, .ow) := Eq.trans rfl rfl
theorem trg1_nat {n : Nat} (k : Kd) (h : n ≤ 16777216) : trg1 (.int n, k) = .ok (.tup (iL (rng n)), .fz) := by
  unfold trg1
  dsimp only
  rw [if_pos (by omega), Int.toNat_natCast, rangeL_rng]
theorem eqv_tups (S T : List Int) : PyData.eqv (D.tup (iL S)).py (D.tup (iL T)).py = decide (S = T) := by
  rw [py_tup, py_tup]
  simp only [PyData.eqv]
  exact eqvAll_ints S T
theorem plain_tup (S : List Int) : (D.tup (iL S)).py.plain = true := by simp
theorem depth_tup (S : List Int) : (D.tup (iL S)).py.depth = 1 := by
  rw [py_tup, depth_tuple, depthAll_iL]
theorem plainAll_tL (ss : List (List Int)) : PyData.plainAll (D.pyL (tL ss)) = true := by
  rw [pyL_eq]
  unfold tL
  rw [List.map_map]
  exact plainAll_map _ _ fun S _ => plain_tup S
theorem in_tL (g : Bool → Bool) (ss : List (List Int)) (S : List Int) (k l : Kd) : cIn g (.tup (iL S), k) (.lst (tL ss), l) = .ok (.bl (g (decide (S ∈ ss))), .fz) := by
  unfold cIn inD
  dsimp only
  rw [if_pos ⟨plain_tup S, plainAll_tL ss, by rw [depth_tup]; omega⟩]
  have : ((tL ss).any fun y => PyData.eqv y.py (D.tup (iL S)).py) = decide (S ∈ ss) := by
    unfold tL
    rw [List.any_map]
    induction ss with
    | nil => rfl
    | cons a r ih =>
      rw [List.any_cons, ih]
      show (PyData.eqv (D.tup (iL a)).py (D.tup (iL S)).py || _) = _
      rw [eqv_tups]
      by_cases e : a = S
      · simp [e]
      · have e' : ¬ S = a := fun z => e z.symm
        simp [e, e']
  rw [this]
  rfl
theorem keysS_ok {i j k : Nat} {ρ : Env} {kvs : List (List Int × D)} (h : ρ[i]? = some (some (.dt (dtM kvs), .ow))) (hz : kvs.length < PySem.sizeLine) (hk : k < ρ.length) : keysS i j k ρ = .nx (ρ.set j (some (.lst (tL (ky kvs)), .ow))) := by
  unfold keysS
  rw [h]
  dsimp only
  rw [dtM_length, if_pos ⟨hz, hk⟩, keys_tL]
/-! ### sorted -/
theorem sortOk_ints (ns : List Int) (h : ns.length ≤ PySem.sizeLine) : sortOk (iL ns) = true := by
  have := gSorted_ints ns .fz h
  unfold gSorted at this
  dsimp only at this
  by_cases c : sortOk (iL ns) = true
  · exact c
  · rw [if_neg c] at this; cases this
theorem sortD_perm {l m : List Int} (h : m.Perm l) (ha : m.Pairwise (· ≤ ·)) : sortD (iL l) = iL m := by
  have e : (iL (l.mergeSort fun a b => decide (a ≤ b))) = sortD (iL l) := by
    unfold iL sortD
    refine List.map_mergeSort fun a _ b _ => ?_
    show decide (a ≤ b) = !PySem.W.dataLt (.int b) (.int a)
    rw [dataLt_int, ← decide_not]
    congr 1
    exact propext ⟨fun h => by omega, fun h => by omega⟩
  rw [← e]
  congr 1
  refine List.Perm.eq_of_pairwise (le := (· ≤ ·)) (fun a b _ _ h1 h2 => Int.le_antisymm h1 h2) ?_ ha ((List.mergeSort_perm _ _).trans h.symm)
  have := List.pairwise_mergeSort (le := fun a b : Int => decide (a ≤ b)) (fun a b c h1 h2 => by simp at *; omega) (fun a b => by simp; omega) l
  exact this.imp fun h => by simpa using h
theorem sortedA_tup {l m : List Int} (k : Kd) (h : m.Perm l) (ha : m.Pairwise (· ≤ ·)) (hz : l.length ≤ PySem.sizeLine) : gSortedA (.tup (iL l), k) = .ok (.lst (iL m), .ow) := by
  unfold gSortedA
  dsimp only
  unfold gSortedT
  dsimp only
  rw [if_pos (sortOk_ints l hz), sortD_perm h ha]
theorem sortedA_lst {l m : List Int} (k : Kd) (h : m.Perm l) (ha : m.Pairwise (· ≤ ·)) (hz : l.length ≤ PySem.sizeLine) : gSortedA (.lst (iL l), k) = .ok (.lst (iL m), .ow) := by
  show gSorted (.lst (iL l), k) = _
  rw [gSorted_ints l k hz, sortD_perm h ha]
theorem ix_last {xs : List Int} (k l : Kd) (h : xs ≠ []) : ixD (.tup (iL xs), k) (.int (-1), l) = .ok (.int (xs.getLastD 0), .fz) := by
  have hl := List.length_pos_iff.mpr h
  have e : atI (iL xs) (-1) = some (.int (xs.getLastD 0)) := by
    unfold atI L2.ixN
    rw [iL_length]
    rw [if_neg (by omega), if_pos (by omega)]
    show (iL xs)[((-1 : Int) + xs.length).toNat]? = _
    rw [show ((-1 : Int) + xs.length).toNat = xs.length - 1 by omega, iL_get, List.getLastD_eq_getLast?, List.getLast?_eq_getElem?, List.getElem?_eq_getElem (by omega)]
    rfl
  unfold ixD
  dsimp only
  rw [e]
@[simp] theorem R.w_quiet {α : Type} (r : R α) (P : α → Prop) : r.quiet.w P = r.w P := by
  cases r with
  | ok x => rfl
  | ex e => rw [R.w_exF]; exact R.w_noF P
  | no => rfl
/-! ### displays over lists of any made things -/
section
variable {α : Type} {f : D → Env → Option Env} {pt : Env → R Bool} {pe : Env → R DV} {ρ : Env}
theorem lcM_map (em : α → D) (b : α → Bool) (x : α → D) : ∀ l : List α, (∀ a ∈ l, ∃ ρ1, f (em a) ρ = some ρ1 ∧ pt ρ1 = .ok (b a) ∧ (b a = true → ∃ y, pe ρ1 = .ok y ∧ keep1 y = some (x a))) → lcM f pt pe (l.map em) ρ = .ok ((l.filter b).map x)
  | [], _ => rfl
  | a :: r, h => by
    obtain ⟨ρ1, h1, h2, h3⟩ := h a List.mem_cons_self
    have ih := lcM_map em b x r fun e he => h e (List.mem_cons_of_mem _ he)
    rw [List.map_cons]
    unfold lcM
    rw [h1]
    dsimp only
    rw [h2]
    cases hb : b a with
    | false => simp [FK.R.quiet, ih, hb]
    | true =>
      obtain ⟨y, h4, h5⟩ := h3 hb
      simp [FK.R.quiet, ih, hb, h4, h5]
theorem w_lcM (em : α → D) (b : α → Bool) (x : α → D) {l : List α} {P : List D → Prop} (h : ∀ a ∈ l, ∃ ρ1, f (em a) ρ = some ρ1 ∧ (pt ρ1).w fun c => c = b a ∧ (c = true → (pe ρ1).w fun y => keep1 y = some (x a))) (p : P ((l.filter b).map x)) : (lcM f pt pe (l.map em) ρ).w P :=
  R.w_of (lcM_map em b x l fun a ha => by
    obtain ⟨ρ1, h1, h2⟩ := h a ha
    obtain ⟨c, h3, h4, h5⟩ := R.w_get h2
    subst h4
    exact ⟨ρ1, h1, h3, fun z => by obtain ⟨y, h6, h7⟩ := R.w_get (h5 z); exact ⟨y, h6, h7⟩⟩) p
theorem w_lc2 {q1 : Env → R (List D × Kd)} {f1 : D → Env → Option Env} {pt1 : Env → R Bool} {vs1 : List Nat} (em : α → D) (g : α → List D) {l : List α} {P : List D → Prop}
    (h : ∀ a ∈ l, ∃ ρ1, f (em a) ρ = some ρ1 ∧ (pt ρ1).w (fun c => c = true) ∧ (q1 ρ1).w fun x => x.2 ≠ .al ∧ (lcM f1 pt1 pe x.1 (wipeD ρ1 vs1)).w fun r => r = g a) (p : P ((l.map g).flatten)) : (lcM2 f pt q1 f1 pt1 pe vs1 (l.map em) ρ).w P := by
  have go : ∀ l : List α, (∀ a ∈ l, ∃ ρ1, f (em a) ρ = some ρ1 ∧ (pt ρ1).w (fun c => c = true) ∧ (q1 ρ1).w fun x => x.2 ≠ .al ∧ (lcM f1 pt1 pe x.1 (wipeD ρ1 vs1)).w fun r => r = g a) → lcM2 f pt q1 f1 pt1 pe vs1 (l.map em) ρ = .ok ((l.map g).flatten) := by
    intro l
    induction l with
    | nil => intro _; rfl
    | cons a r ih =>
      intro h
      obtain ⟨ρ1, h1, ⟨c, h2, rfl⟩, ⟨xs, k⟩, h3, h4, h5⟩ := h a List.mem_cons_self
      have h5 := R.w_eq h5
      have ih := ih fun e he => h e (List.mem_cons_of_mem _ he)
      rw [List.map_cons]
      unfold lcM2
      rw [h1]
      dsimp only
      rw [h2]
      simp [FK.R.quiet, h3, show k ≠ .al from h4, h5, ih]
  exact R.w_of (go l h) p
end
theorem try_w {m : Env → SO} {hs : List ClM} {ρ : Env} {N C B : Env → Prop} {T : DV → Prop} (h : (m ρ).w N C B T) : (mTry m hs ρ).w N C B T := by
  unfold mTry
  rcases h with ⟨r, e, h⟩ | ⟨r, e, h⟩ | ⟨r, e, h⟩ | ⟨x, e, h⟩
  · rw [e]; exact .inl ⟨r, rfl, h⟩
  · rw [e]; exact .inr (.inl ⟨r, rfl, h⟩)
  · rw [e]; exact .inr (.inr (.inl ⟨r, rfl, h⟩))
  · rw [e]; exact .inr (.inr (.inr ⟨x, rfl, h⟩))
theorem rangeL_at {lo : Int} {n j : Nat} {d : D} (h : (rangeL lo 1 n)[j]? = some d) : j < n ∧ d = .int (lo + j) := by
  unfold rangeL at h
  rw [List.getElem?_map] at h
  by_cases c : j < n
  · rw [List.getElem?_range c] at h
    cases h
    exact ⟨c, by show D.int (lo + (j : Int) * 1) = _; rw [Int.mul_one]⟩
  · rw [List.getElem?_eq_none (by simp; omega)] at h
    cases h
end FK
namespace LM
open FK
/-! ### plain: graphs, sets of nodes, the least number of steps -/
def deps (G : List (List Int)) (i : Int) : List Int := G.getD i.toNat []
def Good (G : List (List Int)) : Prop := ∀ (i : Nat) (r : List Int), G[i]? = some r → r.Pairwise (· < ·) ∧ ∀ a ∈ r, 0 ≤ a ∧ a < i
def ready (G : List (List Int)) (dd : List Int) : List Int := (rng G.length).filter fun i => !decide (i ∈ dd) && (deps G i).all fun a => decide (a ∈ dd)
def jn (G : List (List Int)) (S T : List Int) : List Int := (rng G.length).filter fun a => decide (a ∈ S ∨ a ∈ T)
def chs : List Int → Nat → List (List Int)
  | _, 0 => [[]]
  | [], _ + 1 => []
  | a :: r, k + 1 => (chs r k).map (a :: ·) ++ chs r (k + 1)
def FS (G : List (List Int)) (c : Nat) (S : List Int) : List (List Int) := chs (ready G S) (min c (ready G S).length)
def mnI : List Int → Int | [] => 0 | x :: r => r.foldl min x
def lf (G : List (List Int)) (c : Nat) : Nat → List Int → Int
  | 0, _ => 0
  | f + 1, S => if S.length = G.length then 0 else 1 + mnI ((FS G c S).map fun T => lf G c f (jn G S T))
def L (G : List (List Int)) (c : Nat) (S : List Int) : Int := lf G c (G.length - S.length) S
structure Cl (G : List (List Int)) (S : List Int) : Prop where
  asc : S.Pairwise (· < ·)
  sub : ∀ a ∈ S, a ∈ rng G.length
  cl : ∀ a ∈ S, ∀ b ∈ deps G a, b ∈ S

/-! lists -/
theorem len_sub {α : Type} [DecidableEq α] : ∀ (dd l : List α), dd.Nodup → (∀ a ∈ dd, a ∈ l) → dd.length ≤ l.length
  | [], _, _, _ => Nat.zero_le _
  | a :: t, l, h, s => by
    obtain ⟨h1, h2⟩ := List.nodup_cons.mp h
    have ha := s a List.mem_cons_self
    have e := List.length_erase_of_mem ha
    have i := len_sub t (l.erase a) h2 fun b hb => (List.mem_erase_of_ne fun z => h1 (by rw [← z]; exact hb)).mpr (s b (List.mem_cons_of_mem _ hb))
    have : 0 < l.length := List.length_pos_of_mem ha
    rw [List.length_cons]
    omega
theorem asc_nodup {l : List Int} (h : l.Pairwise (· < ·)) : l.Nodup := h.imp fun h e => by omega
theorem asc_ext : ∀ {k l : List Int}, k.Pairwise (· < ·) → l.Pairwise (· < ·) → (∀ a, a ∈ k ↔ a ∈ l) → k = l
  | [], [], _, _, _ => rfl
  | [], b :: l, _, _, h => absurd ((h b).mpr List.mem_cons_self) (by simp)
  | a :: k, [], _, _, h => absurd ((h a).mp List.mem_cons_self) (by simp)
  | a :: k, b :: l, h1, h2, h => by
    obtain ⟨p1, p2⟩ := List.pairwise_cons.mp h1
    obtain ⟨q1, q2⟩ := List.pairwise_cons.mp h2
    have e : a = b := by
      rcases List.mem_cons.mp ((h a).mp List.mem_cons_self) with e | e
      · exact e
      · rcases List.mem_cons.mp ((h b).mpr List.mem_cons_self) with e' | e'
        · exact e'.symm
        · have := q1 a e; have := p1 b e'; omega
    subst e
    rw [asc_ext p2 q2 fun x => ⟨fun hx => ?_, fun hx => ?_⟩]
    · rcases List.mem_cons.mp ((h x).mp (List.mem_cons_of_mem _ hx)) with e | e
      · have := p1 x hx; omega
      · exact e
    · rcases List.mem_cons.mp ((h x).mpr (List.mem_cons_of_mem _ hx)) with e | e
      · have := q1 x hx; omega
      · exact e
theorem asc_perm {k l : List Int} (h1 : k.Pairwise (· < ·)) (h2 : l.Pairwise (· < ·)) (h : k.Perm l) : k = l := asc_ext h1 h2 fun _ => h.mem_iff
theorem asc_sublist : ∀ {k l : List Int}, k.Pairwise (· < ·) → l.Pairwise (· < ·) → (∀ a ∈ k, a ∈ l) → k.Sublist l
  | [], l, _, _, _ => List.nil_sublist l
  | a :: k, [], _, _, h => absurd (h a List.mem_cons_self) (by simp)
  | a :: k, b :: l, h1, h2, h => by
    obtain ⟨p1, p2⟩ := List.pairwise_cons.mp h1
    obtain ⟨q1, q2⟩ := List.pairwise_cons.mp h2
    rcases List.mem_cons.mp (h a List.mem_cons_self) with e | e
    · subst e
      refine List.Sublist.cons_cons _ (asc_sublist p2 q2 fun x hx => ?_)
      rcases List.mem_cons.mp (h x (List.mem_cons_of_mem _ hx)) with e | e
      · have := p1 x hx; omega
      · exact e
    · refine List.Sublist.cons _ (asc_sublist h1 q2 fun x hx => ?_)
      have hb := q1 a e
      rcases List.mem_cons.mp (h x hx) with e' | e'
      · subst e'
        rcases List.mem_cons.mp hx with e2 | e2
        · omega
        · have := p1 x e2; omega
      · exact e'
theorem mem_chs : ∀ {row : List Int} {k : Nat} {l : List Int}, l ∈ chs row k ↔ l.Sublist row ∧ l.length = k
  | row, 0, l => by
    cases row <;>
    · simp only [chs, List.mem_singleton]
      constructor
      · rintro rfl
        exact ⟨List.nil_sublist _, rfl⟩
      · intro h
        exact List.eq_nil_of_length_eq_zero h.2
  | [], k + 1, l => by
    simp only [chs, List.not_mem_nil, false_iff]
    rintro ⟨h1, h2⟩
    have := List.eq_nil_of_sublist_nil h1
    subst this
    simp at h2
  | a :: r, k + 1, l => by
    simp only [chs, List.mem_append, List.mem_map]
    constructor
    · rintro (⟨t, ht, rfl⟩ | h)
      · obtain ⟨h1, h2⟩ := mem_chs.mp ht
        exact ⟨h1.cons_cons a, by simp [h2]⟩
      · obtain ⟨h1, h2⟩ := mem_chs.mp h
        exact ⟨h1.cons a, h2⟩
    · rintro ⟨h1, h2⟩
      cases h1 with
      | cons _ h1 => exact .inr (mem_chs.mpr ⟨h1, h2⟩)
      | cons_cons _ h1 => exact .inl ⟨_, mem_chs.mpr ⟨h1, by simpa using h2⟩, rfl⟩
theorem chs_ne {row : List Int} {k : Nat} (h : k ≤ row.length) : chs row k ≠ [] := fun e => by
  have : row.take k ∈ chs row k := mem_chs.mpr ⟨List.take_sublist _ _, by rw [List.length_take]; omega⟩
  rw [e] at this
  cases this
theorem foldl_min_le : ∀ (r : List Int) (x : Int), r.foldl min x ≤ x ∧ ∀ y ∈ r, r.foldl min x ≤ y
  | [], x => ⟨Int.le_refl _, fun y h => nomatch h⟩
  | a :: r, x => by
    obtain ⟨h1, h2⟩ := foldl_min_le r (min x a)
    simp only [List.foldl_cons]
    refine ⟨by omega, fun y hy => ?_⟩
    rcases List.mem_cons.mp hy with rfl | hy
    · omega
    · exact h2 y hy
theorem foldl_min_mem : ∀ (r : List Int) (x : Int), r.foldl min x = x ∨ r.foldl min x ∈ r
  | [], x => .inl rfl
  | a :: r, x => by
    simp only [List.foldl_cons]
    rcases foldl_min_mem r (min x a) with h | h
    · rw [h]
      by_cases c : x ≤ a
      · exact .inl (by omega)
      · exact .inr (by rw [show min x a = a by omega]; exact List.mem_cons_self)
    · exact .inr (List.mem_cons_of_mem _ h)
theorem mnI_le {l : List Int} {x : Int} (h : x ∈ l) : mnI l ≤ x := by
  cases l with
  | nil => cases h
  | cons a r =>
    rcases List.mem_cons.mp h with rfl | h
    · exact (foldl_min_le r x).1
    · exact (foldl_min_le r a).2 x h
theorem mnI_mem {l : List Int} (h : l ≠ []) : mnI l ∈ l := by
  cases l with
  | nil => exact absurd rfl h
  | cons a r =>
    rcases foldl_min_mem r a with e | e
    · show r.foldl min a ∈ _
      rw [e]; exact List.mem_cons_self
    · exact List.mem_cons_of_mem _ e
theorem mnI_congr {α : Type} {l : List α} {f g : α → Int} (h : ∀ a ∈ l, f a = g a) : mnI (l.map f) = mnI (l.map g) := by rw [List.map_congr_left h]
/-! sets of nodes -/
section
variable {G : List (List Int)} {c : Nat} {S T : List Int}
theorem deps_nat (G : List (List Int)) {i : Nat} (h : i < G.length) : deps G i = G[i] := by
  unfold deps
  rw [List.getD_eq_getElem?_getD, Int.toNat_natCast, List.getElem?_eq_getElem h]
  rfl
theorem deps_in (hG : Good G) {i a : Int} (hi : i ∈ rng G.length) (h : a ∈ deps G i) : 0 ≤ a ∧ a < i := by
  obtain ⟨h1, h2⟩ := mem_rng.mp hi
  obtain ⟨k, rfl⟩ : ∃ k : Nat, i = k := ⟨i.toNat, by omega⟩
  have hk : k < G.length := by omega
  rw [deps_nat G hk] at h
  exact (hG k G[k] (List.getElem?_eq_getElem hk)).2 a h
theorem deps_rng (hG : Good G) {i a : Int} (hi : i ∈ rng G.length) (h : a ∈ deps G i) : a ∈ rng G.length := by
  have := deps_in hG hi h
  have := mem_rng.mp hi
  exact mem_rng.mpr (by omega)
theorem mem_ready {a : Int} : a ∈ ready G S ↔ a ∈ rng G.length ∧ a ∉ S ∧ ∀ b ∈ deps G a, b ∈ S := by
  unfold ready
  rw [List.mem_filter]
  simp
theorem ready_asc (G : List (List Int)) (S : List Int) : (ready G S).Pairwise (· < ·) := List.Pairwise.filter _ (rng_lt _)
theorem ready_len (G : List (List Int)) (S : List Int) : (ready G S).length ≤ G.length := by
  have := List.length_filter_le (fun i => !decide (i ∈ S) && (deps G i).all fun a => decide (a ∈ S)) (rng G.length)
  rw [rng_length] at this
  exact this
theorem ready_congr (G : List (List Int)) {dd ee : List Int} (h : ∀ a, a ∈ dd ↔ a ∈ ee) : ready G dd = ready G ee := by
  unfold ready
  congr 1
  funext i
  simp only [h]
theorem mem_jn {a : Int} : a ∈ jn G S T ↔ a ∈ rng G.length ∧ (a ∈ S ∨ a ∈ T) := by
  unfold jn
  rw [List.mem_filter, decide_eq_true_iff]
theorem jn_asc (G : List (List Int)) (S T : List Int) : (jn G S T).Pairwise (· < ·) := List.Pairwise.filter _ (rng_lt _)
theorem mem_FS {T : List Int} : T ∈ FS G c S ↔ T.Pairwise (· < ·) ∧ (∀ a ∈ T, a ∈ ready G S) ∧ T.length = min c (ready G S).length := by
  unfold FS
  rw [mem_chs]
  constructor
  · rintro ⟨h1, h2⟩
    exact ⟨(ready_asc G S).sublist h1, fun a ha => h1.mem ha, h2⟩
  · rintro ⟨h1, h2, h3⟩
    exact ⟨asc_sublist h1 (ready_asc G S) h2, h3⟩
theorem cl_nil (G : List (List Int)) : Cl G [] := ⟨.nil, fun a h => (nomatch h), fun a h => (nomatch h)⟩
theorem Cl.len (h : Cl G S) : S.length ≤ G.length := by
  have := len_sub _ _ (asc_nodup h.asc) h.sub
  simpa using this
theorem progress (hG : Good G) (h : Cl G S) (hlt : S.length < G.length) : ready G S ≠ [] := by
  intro z
  have all : ∀ i : Nat, i < G.length → (i : Int) ∈ S := by
    intro i
    induction i using Nat.strongRecOn with
    | ind i ih =>
      intro hi
      refine Decidable.byContradiction fun c => ?_
      have hir : (i : Int) ∈ rng G.length := mem_rng.mpr (by omega)
      have : (i : Int) ∈ ready G S := mem_ready.mpr ⟨hir, c, fun b hb => by
        obtain ⟨p1, p2⟩ := deps_in hG hir hb
        have := ih b.toNat (by omega) (by omega)
        rw [Int.toNat_of_nonneg p1] at this
        exact this⟩
      rw [z] at this
      cases this
  have := len_sub (rng G.length) S (rng_nodup _) fun a ha => by
    obtain ⟨p1, p2⟩ := mem_rng.mp ha
    have := all a.toNat (by omega)
    rw [Int.toNat_of_nonneg p1] at this
    exact this
  rw [rng_length] at this
  omega
theorem jn_perm (hS : Cl G S) (hT : T.Nodup) (hs : ∀ a ∈ T, a ∈ ready G S) : (jn G S T).Perm (S ++ T) := by
  refine (List.perm_ext_iff_of_nodup (asc_nodup (jn_asc _ _ _)) ?_).mpr fun a => ?_
  · rw [List.nodup_append]
    refine ⟨asc_nodup hS.asc, hT, fun a ha b hb e => ?_⟩
    subst e
    exact (mem_ready.mp (hs a hb)).2.1 ha
  · rw [mem_jn, List.mem_append]
    constructor
    · exact fun h => h.2
    · intro h
      exact ⟨h.elim (hS.sub a) fun z => (mem_ready.mp (hs a z)).1, h⟩
theorem jn_len (hS : Cl G S) (hT : T.Nodup) (hs : ∀ a ∈ T, a ∈ ready G S) : (jn G S T).length = S.length + T.length := by
  rw [(jn_perm hS hT hs).length_eq, List.length_append]
theorem jn_cl (hS : Cl G S) (hs : ∀ a ∈ T, a ∈ ready G S) : Cl G (jn G S T) where
  asc := jn_asc _ _ _
  sub := fun a h => (mem_jn.mp h).1
  cl := fun a h b hb => by
    have hb' : b ∈ S := by
      rcases (mem_jn.mp h).2 with h | h
      · exact hS.cl a h b hb
      · exact (mem_ready.mp (hs a h)).2.2 b hb
    exact mem_jn.mpr ⟨hS.sub b hb', .inl hb'⟩
theorem FS_ne (G : List (List Int)) (c : Nat) (S : List Int) : FS G c S ≠ [] := chs_ne (Nat.min_le_right _ _)
theorem FS_pos (hG : Good G) (hc : 1 ≤ c) (hS : Cl G S) (hlt : S.length < G.length) (h : T ∈ FS G c S) : 1 ≤ T.length := by
  have := List.length_pos_iff.mpr (progress hG hS hlt)
  have := (mem_FS.mp h).2.2
  omega
theorem FS_nodup (h : T ∈ FS G c S) : T.Nodup := asc_nodup (mem_FS.mp h).1
theorem FS_ready (h : T ∈ FS G c S) : ∀ a ∈ T, a ∈ ready G S := (mem_FS.mp h).2.1
theorem FS_jn (hS : Cl G S) (h : T ∈ FS G c S) : Cl G (jn G S T) ∧ (jn G S T).length = S.length + T.length := ⟨jn_cl hS (FS_ready h), jn_len hS (FS_nodup h) (FS_ready h)⟩
/-! the least number of steps -/
theorem lf_fuel (hG : Good G) (hc : 1 ≤ c) : ∀ (f g : Nat) (S : List Int), Cl G S → G.length - S.length ≤ f → G.length - S.length ≤ g → lf G c f S = lf G c g S
  | 0, 0, _, _, _, _ => rfl
  | 0, g + 1, S, hS, h, _ => by
    have := hS.len
    unfold lf
    rw [if_pos (by omega)]
  | f + 1, 0, S, hS, _, h => by
    have := hS.len
    unfold lf
    rw [if_pos (by omega)]
  | f + 1, g + 1, S, hS, h1, h2 => by
    unfold lf
    by_cases e : S.length = G.length
    · rw [if_pos e, if_pos e]
    · rw [if_neg e, if_neg e]
      congr 1
      refine mnI_congr fun T hT => ?_
      have := hS.len
      have p := FS_pos hG hc hS (by omega) hT
      obtain ⟨q1, q2⟩ := FS_jn hS hT
      exact lf_fuel hG hc f g _ q1 (by omega) (by omega)
theorem L_full (h : S.length = G.length) : L G c S = 0 := by
  unfold L
  rw [h, Nat.sub_self]
  rfl
theorem L_eq (hG : Good G) (hc : 1 ≤ c) (hS : Cl G S) (h : S.length ≠ G.length) : L G c S = 1 + mnI ((FS G c S).map fun T => L G c (jn G S T)) := by
  have := hS.len
  obtain ⟨f, hf⟩ : ∃ f, G.length - S.length = f + 1 := ⟨G.length - S.length - 1, by omega⟩
  unfold L
  rw [hf]
  show (if _ then _ else _) = _
  rw [if_neg h]
  congr 1
  refine mnI_congr fun T hT => ?_
  have p := FS_pos hG hc hS (by omega) hT
  obtain ⟨q1, q2⟩ := FS_jn hS hT
  exact lf_fuel hG hc _ _ _ q1 (by omega) (by omega)
theorem L_le (hG : Good G) (hc : 1 ≤ c) (hS : Cl G S) (h : S.length ≠ G.length) (hT : T ∈ FS G c S) : L G c S ≤ 1 + L G c (jn G S T) := by
  rw [L_eq hG hc hS h]
  have := mnI_le (List.mem_map_of_mem (f := fun T => L G c (jn G S T)) hT)
  omega
theorem L_ex (hG : Good G) (hc : 1 ≤ c) (hS : Cl G S) (h : S.length ≠ G.length) : ∃ T ∈ FS G c S, L G c S = 1 + L G c (jn G S T) := by
  have := mnI_mem (l := (FS G c S).map fun T => L G c (jn G S T)) (by simpa using FS_ne G c S)
  obtain ⟨T, h1, h2⟩ := List.mem_map.mp this
  exact ⟨T, h1, by rw [L_eq hG hc hS h, h2]⟩
theorem extend (k : Nat) : ∀ {row l : List Int}, row.Pairwise (· < ·) → l.Sublist row → l.length ≤ k → k ≤ row.length → ∃ m, m ∈ chs row k ∧ ∀ a ∈ l, a ∈ m := by
  induction k with
  | zero =>
    intro row l _ _ h _
    exact ⟨[], by cases row <;> simp [chs], fun a ha => by
      have := List.eq_nil_of_length_eq_zero (l := l) (by omega)
      subst this
      cases ha⟩
  | succ k ih =>
    intro row
    induction row with
    | nil => intro l _ _ _ h; simp at h
    | cons b r ihr =>
      intro l ha hs h1 h2
      obtain ⟨q1, q2⟩ := List.pairwise_cons.mp ha
      simp only [List.length_cons] at h2
      cases hs with
      | cons _ hs =>
        by_cases hk : k + 1 ≤ r.length
        · obtain ⟨m, m1, m2⟩ := ihr q2 hs h1 hk
          exact ⟨m, by simp only [chs, List.mem_append]; exact .inr m1, m2⟩
        · have e : k = r.length := by omega
          refine ⟨b :: r, mem_chs.mpr ⟨List.Sublist.refl _, by simp [e]⟩, fun a h => List.mem_cons_of_mem _ (hs.mem h)⟩
      | @cons_cons l' _ _ hs =>
        simp only [List.length_cons] at h1
        obtain ⟨m, m1, m2⟩ := ih (l := l') q2 hs (by omega) (by omega)
        refine ⟨b :: m, by simp only [chs, List.mem_append, List.mem_map]; exact .inl ⟨m, m1, rfl⟩, fun a h => ?_⟩
        rcases List.mem_cons.mp h with rfl | h
        · exact List.mem_cons_self
        · exact List.mem_cons_of_mem _ (m2 a h)
/-- any step may be made full -/
theorem widen (hT : T.Nodup) (hs : ∀ a ∈ T, a ∈ ready G S) (hl : T.length ≤ c) : ∃ U ∈ FS G c S, ∀ a ∈ T, a ∈ U := by
  have asc : (jn G [] T).Pairwise (· < ·) := jn_asc _ _ _
  have mem : ∀ a, a ∈ jn G [] T ↔ a ∈ T := fun a => by
    rw [mem_jn]
    constructor
    · rintro ⟨_, h | h⟩
      · cases h
      · exact h
    · exact fun h => ⟨(mem_ready.mp (hs a h)).1, .inr h⟩
  have len : (jn G [] T).length ≤ T.length := len_sub _ _ (asc_nodup asc) fun a h => (mem a).mp h
  have len2 := len_sub _ _ (asc_nodup asc) fun a h => hs a ((mem a).mp h)
  obtain ⟨m, m1, m2⟩ := extend (min c (ready G S).length) (ready_asc G S) (asc_sublist asc (ready_asc G S) fun a h => hs a ((mem a).mp h)) (by omega) (Nat.min_le_right _ _)
  exact ⟨m, m1, fun a h => m2 a ((mem a).mpr h)⟩
theorem L_nn (hG : Good G) (hc : 1 ≤ c) : ∀ (k : Nat) (S : List Int), Cl G S → G.length - S.length = k → 0 ≤ L G c S := by
  intro k
  induction k using Nat.strongRecOn with
  | ind k ih =>
    intro S hS hk
    by_cases e : S.length = G.length
    · rw [L_full e]; omega
    · obtain ⟨T, h1, h2⟩ := L_ex hG hc hS e
      have := hS.len
      have p := FS_pos hG hc hS (by omega) h1
      obtain ⟨q1, q2⟩ := FS_jn hS h1
      have := ih (G.length - (jn G S T).length) (by omega) _ q1 rfl
      omega
theorem L_pos (hG : Good G) (hc : 1 ≤ c) (hS : Cl G S) (h : S.length ≠ G.length) : 1 ≤ L G c S := by
  obtain ⟨T, h1, h2⟩ := L_ex hG hc hS h
  have := L_nn hG hc _ _ (FS_jn hS h1).1 rfl
  omega
/-- more done and more cores: never longer -/
theorem L_mono (hG : Good G) {c d : Nat} (hc : 1 ≤ c) (hcd : c ≤ d) : ∀ (k : Nat) (S S' : List Int), Cl G S → Cl G S' → (∀ a ∈ S, a ∈ S') → G.length - S.length = k → L G d S' ≤ L G c S := by
  intro k
  induction k using Nat.strongRecOn with
  | ind k ih =>
    intro S S' hS hS' hsub hk
    by_cases e : S.length = G.length
    · have e' : S'.length = G.length := by
        have := len_sub _ _ (asc_nodup hS.asc) hsub
        have := hS'.len
        omega
      rw [L_full e, L_full e']
      omega
    · by_cases e' : S'.length = G.length
      · rw [L_full e']
        exact L_nn hG hc _ _ hS rfl
      · obtain ⟨T, h1, h2⟩ := L_ex hG hc hS e
        have := hS.len
        have p := FS_pos hG hc hS (by omega) h1
        obtain ⟨q1, q2⟩ := FS_jn hS h1
        obtain ⟨U, u1, u2⟩ := widen (G := G) (c := d) (S := S') (T := T.filter fun a => !decide (a ∈ S')) (List.Pairwise.filter _ (FS_nodup h1)) (fun a ha => by
          obtain ⟨ha1, ha2⟩ := List.mem_filter.mp ha
          obtain ⟨r1, r2, r3⟩ := mem_ready.mp (FS_ready h1 a ha1)
          exact mem_ready.mpr ⟨r1, by simpa using ha2, fun b hb => hsub b (r3 b hb)⟩) (by
          have := List.length_filter_le (fun a => !decide (a ∈ S')) T
          have := (mem_FS.mp h1).2.2
          omega)
        have hd : 1 ≤ d := by omega
        have i1 := L_le hG hd hS' e' u1
        have i2 := ih (G.length - (jn G S T).length) (by omega) (jn G S T) (jn G S' U) q1 (FS_jn hS' u1).1 (fun a ha => by
          obtain ⟨z1, z2⟩ := mem_jn.mp ha
          refine mem_jn.mpr ⟨z1, ?_⟩
          rcases z2 with z2 | z2
          · exact .inl (hsub a z2)
          · by_cases m : a ∈ S'
            · exact .inl m
            · exact .inr (u2 a (List.mem_filter.mpr ⟨z2, by simpa using m⟩))) rfl
        omega
theorem L_cores (hG : Good G) {c d : Nat} (hc : 1 ≤ c) (hcd : c ≤ d) : L G d [] ≤ L G c [] := L_mono hG hc hcd _ _ _ (cl_nil G) (cl_nil G) (fun _ h => h) rfl
theorem L_step (hG : Good G) (hc : 1 ≤ c) (hS : Cl G S) (hT : T.Nodup) (hs : ∀ a ∈ T, a ∈ ready G S) (hl : T.length ≤ c) : L G c S ≤ 1 + L G c (jn G S T) := by
  by_cases e : S.length = G.length
  · have := L_nn hG hc _ _ (jn_cl hS hs) rfl
    rw [L_full e]; omega
  obtain ⟨U, u1, u2⟩ := widen hT hs hl
  have h1 := L_le hG hc hS e u1
  have h2 := L_mono hG hc (Nat.le_refl c) _ (jn G S T) (jn G S U) (jn_cl hS hs) (FS_jn hS u1).1 (fun a ha => by
    obtain ⟨z1, z2⟩ := mem_jn.mp ha
    exact mem_jn.mpr ⟨z1, z2.imp (fun z => z) (u2 a)⟩) rfl
  omega
/-- one core -/
theorem L_one (hG : Good G) : ∀ (k : Nat) (S : List Int), Cl G S → G.length - S.length = k → L G 1 S = k := by
  intro k
  induction k with
  | zero =>
    intro S hS h
    have := hS.len
    exact L_full (by omega)
  | succ k ih =>
    intro S hS h
    obtain ⟨T, h1, h2⟩ := L_ex (c := 1) hG (Nat.le_refl 1) hS (by omega)
    obtain ⟨q1, q2⟩ := FS_jn hS h1
    have p := FS_pos hG (Nat.le_refl 1) hS (by omega) h1
    have := (mem_FS.mp h1).2.2
    rw [h2, ih _ q1 (by omega)]
    omega
theorem L_work (hG : Good G) : L G 1 [] = G.length := by
  rw [L_one hG _ [] (cl_nil G) rfl]
  simp
theorem L_le_work (hG : Good G) (hc : 1 ≤ c) : L G c [] ≤ G.length := by
  have := L_cores hG (Nat.le_refl 1) hc
  rw [L_work hG] at this
  exact this
theorem full_eq (hS : Cl G S) (h : S.length = G.length) : S = rng G.length := by
  refine asc_ext hS.asc (rng_lt _) fun a => ⟨hS.sub a, fun ha => ?_⟩
  refine Decidable.byContradiction fun n => ?_
  have := len_sub (a :: S) (rng G.length) (List.nodup_cons.mpr ⟨n, asc_nodup hS.asc⟩) (fun b hb => by
    rcases List.mem_cons.mp hb with rfl | hb
    · exact ha
    · exact hS.sub b hb)
  rw [rng_length, List.length_cons] at this
  omega
/-! what is reached by so many full steps -/
def Rch (G : List (List Int)) (c : Nat) : Nat → List Int → Prop
  | 0, S => S = []
  | k + 1, S => ∃ S0, Rch G c k S0 ∧ ∃ T ∈ FS G c S0, S = jn G S0 T
theorem Rch.cl : ∀ {k : Nat} {S : List Int}, Rch G c k S → Cl G S
  | 0, _, h => by cases h; exact cl_nil G
  | k + 1, _, ⟨S0, h, T, hT, e⟩ => by subst e; exact (FS_jn (Rch.cl h) hT).1
theorem Rch.ge (hG : Good G) (hc : 1 ≤ c) : ∀ {k : Nat} {S : List Int}, Rch G c k S → L G c [] ≤ k + L G c S
  | 0, _, h => by cases h; simp
  | k + 1, _, ⟨S0, h, T, hT, e⟩ => by
    have i := Rch.ge hG hc h
    have hS := h.cl
    subst e
    by_cases f : S0.length = G.length
    · rw [L_full f] at i
      have := L_nn hG hc _ _ (FS_jn hS hT).1 rfl
      push_cast
      omega
    · have := L_le hG hc hS f hT
      push_cast
      omega
theorem Rch.ex (hG : Good G) (hc : 1 ≤ c) : ∀ k : Nat, (k : Int) ≤ L G c [] → ∃ S, Rch G c k S ∧ L G c S = L G c [] - k
  | 0, _ => ⟨[], rfl, by simp⟩
  | k + 1, h => by
    obtain ⟨S, h1, h2⟩ := Rch.ex hG hc k (by push_cast at h; omega)
    have f : S.length ≠ G.length := fun f => by rw [L_full f] at h2; push_cast at h; omega
    obtain ⟨T, t1, t2⟩ := L_ex hG hc h1.cl f
    exact ⟨_, ⟨S, h1, T, t1, rfl⟩, by push_cast; omega⟩
theorem rng_cl (hG : Good G) : Cl G (rng G.length) := ⟨rng_lt _, fun a h => h, fun a h b hb => deps_rng hG h hb⟩
theorem Rch.full (hG : Good G) (hc : 1 ≤ c) {k : Nat} (h : Rch G c k (rng G.length)) : L G c [] ≤ k := by
  have := Rch.ge hG hc h
  rw [L_full (rng_length _)] at this
  omega
theorem Rch.end_ (hG : Good G) (hc : 1 ≤ c) {k : Nat} (e : L G c [] = k) : Rch G c k (rng G.length) := by
  obtain ⟨S, h1, h2⟩ := Rch.ex hG hc k (by omega)
  have hS := h1.cl
  by_cases f : S.length = G.length
  · rw [← full_eq hS f]; exact h1
  · have := L_pos hG hc hS f
    omega
/-! all sets -/
def subs : List Int → List (List Int) | [] => [[]] | a :: r => subs r ++ (subs r).map (a :: ·)
theorem subs_len : ∀ r : List Int, (subs r).length = 2 ^ r.length
  | [] => rfl
  | a :: r => by
    unfold subs
    rw [List.length_append, List.length_map, subs_len r, List.length_cons, Nat.pow_succ]
    omega
theorem mem_subs : ∀ {l r : List Int}, l.Sublist r → l ∈ subs r
  | _, [], h => by
    have := List.eq_nil_of_sublist_nil h
    subst this
    exact List.mem_cons_self
  | _, a :: r, h => by
    unfold subs
    rw [List.mem_append, List.mem_map]
    cases h with
    | cons _ h => exact .inl (mem_subs h)
    | cons_cons _ h => exact .inr ⟨_, mem_subs h, rfl⟩
theorem sets_len {ss : List (List Int)} (hn : ss.Nodup) (h : ∀ S ∈ ss, Cl G S) : ss.length ≤ 2 ^ G.length := by
  have := len_sub ss (subs (rng G.length)) hn fun S hS => mem_subs (asc_sublist (h S hS).asc (rng_lt _) (h S hS).sub)
  rw [subs_len, rng_length] at this
  exact this
theorem mnI_same {l m : List Int} (h : ∀ x, x ∈ l ↔ x ∈ m) : mnI l = mnI m := by
  by_cases e : l = []
  · have : m = [] := List.eq_nil_iff_forall_not_mem.mpr fun x hx => by
      have := (h x).mpr hx
      rw [e] at this
      cases this
    rw [e, this]
  · have h1 := mnI_mem e
    have e' : m ≠ [] := fun z => by
      have := (h _).mp h1
      rw [z] at this
      cases this
    have h2 := mnI_mem e'
    have := mnI_le ((h _).mp h1)
    have := mnI_le ((h _).mpr h2)
    omega
/-- the last node that was done -/
theorem peel {j : Nat} (hS : Cl G S) (h : S.length = j + 1) (hG : Good G) : ∃ R a, Cl G R ∧ R.length = j ∧ a ∈ ready G R ∧ S = jn G R [a] := by
  rcases List.eq_nil_or_concat S with e | ⟨R, a, e⟩
  · rw [e] at h; simp at h
  · rw [List.concat_eq_append] at e
    have asc := hS.asc
    rw [e, List.pairwise_append] at asc
    obtain ⟨p1, _, p2⟩ := asc
    have lt : ∀ b ∈ R, b < a := fun b hb => p2 b hb a List.mem_cons_self
    have mem : ∀ b, b ∈ S ↔ b ∈ R ∨ b = a := fun b => by rw [e, List.mem_append, List.mem_singleton]
    have inR : ∀ c ∈ S, ∀ b ∈ deps G c, b ∈ R := fun c hc b hb => by
      have h1 := hS.cl c hc b hb
      have h2 := (deps_in hG (hS.sub c hc) hb).2
      rcases (mem b).mp h1 with z | z
      · exact z
      · subst z
        rcases (mem c).mp hc with z | z
        · have := lt c z; omega
        · omega
    have clR : Cl G R := ⟨p1, fun b hb => hS.sub b ((mem b).mpr (.inl hb)), fun c hc b hb => inR c ((mem c).mpr (.inl hc)) b hb⟩
    have ha : a ∈ S := (mem a).mpr (.inr rfl)
    have hr : a ∈ ready G R := mem_ready.mpr ⟨hS.sub a ha, fun z => by have := lt a z; omega, inR a ha⟩
    refine ⟨R, a, clR, by rw [e] at h; simpa using h, hr, asc_ext hS.asc (jn_asc _ _ _) fun b => ?_⟩
    rw [mem_jn, mem, List.mem_singleton]
    constructor
    · exact fun z => ⟨hS.sub b ((mem b).mpr z), z⟩
    · exact fun z => z.2
theorem one_jn (hS : Cl G S) {a : Int} (ha : a ∈ ready G S) : Cl G (jn G S [a]) ∧ (jn G S [a]).length = S.length + 1 := by
  have hs : ∀ b ∈ [a], b ∈ ready G S := fun b hb => by cases List.mem_singleton.mp hb; exact ha
  exact ⟨jn_cl hS hs, jn_len hS (by simp) hs⟩
end
end LM
namespace LM
open FK
/-! ### heads, tails, bounds -/
theorem fmax_ge : ∀ (r : List Int) (n : Int), n ≤ r.foldl max n ∧ ∀ y ∈ r, y ≤ r.foldl max n
  | [], n => ⟨Int.le_refl _, fun y h => nomatch h⟩
  | x :: r, n => by
    obtain ⟨h1, h2⟩ := fmax_ge r (max n x)
    simp only [List.foldl_cons]
    refine ⟨by omega, fun y hy => ?_⟩
    rcases List.mem_cons.mp hy with rfl | hy
    · omega
    · exact h2 y hy
theorem fmax_mem : ∀ (r : List Int) (x : Int), r.foldl max x = x ∨ r.foldl max x ∈ r
  | [], x => .inl rfl
  | a :: r, x => by
    simp only [List.foldl_cons]
    rcases fmax_mem r (max x a) with h | h
    · rw [h]
      by_cases c : a ≤ x
      · exact .inl (by omega)
      · exact .inr (by rw [show max x a = a by omega]; exact List.mem_cons_self)
    · exact .inr (List.mem_cons_of_mem _ h)

theorem foldl_range_succ {α : Type} (f : α → Nat → α) (a : α) (k : Nat) : (List.range (k + 1)).foldl f a = f ((List.range k).foldl f a) k := by
  rw [List.range_succ, List.foldl_append]
  rfl
def mx0 (ns : List Int) : Int := ns.foldl max 0
theorem mx0_ge (ns : List Int) : 0 ≤ mx0 ns ∧ ∀ a ∈ ns, a ≤ mx0 ns := fmax_ge ns 0
theorem mx0_le {ns : List Int} {m : Int} (h0 : 0 ≤ m) (h : ∀ a ∈ ns, a ≤ m) : mx0 ns ≤ m := by
  have go : ∀ (ns : List Int) (n : Int), n ≤ m → (∀ a ∈ ns, a ≤ m) → ns.foldl max n ≤ m := by
    intro ns
    induction ns with
    | nil => exact fun n h _ => h
    | cons a r ih => exact fun n h hs => ih (max n a) (by have := hs a List.mem_cons_self; omega) fun b hb => hs b (List.mem_cons_of_mem _ hb)
  exact go ns 0 h0 h
def nth (acc : List Int) (a : Int) : Int := acc.getD a.toNat 0
theorem nth_at {acc : List Int} {a : Int} (h : a.toNat < acc.length) : nth acc a = acc[a.toNat] := by
  unfold nth
  rw [List.getD_eq_getElem?_getD, List.getElem?_eq_getElem h]
  rfl
def hdf (acc row : List Int) : List Int := acc ++ [mx0 (row.map fun a => nth acc a + 1)]
def hds (G : List (List Int)) : List Int := G.foldl hdf []
theorem hdf_len : ∀ (B : List (List Int)) (acc : List Int), (B.foldl hdf acc).length = acc.length + B.length
  | [], _ => rfl
  | r :: B, acc => by rw [List.foldl_cons, hdf_len B]; simp [hdf]; omega
theorem hdf_pre : ∀ (B : List (List Int)) (acc : List Int), ∃ C, B.foldl hdf acc = acc ++ C
  | [], acc => ⟨[], by simp⟩
  | r :: B, acc => by
    obtain ⟨C, h⟩ := hdf_pre B (hdf acc r)
    exact ⟨mx0 (r.map fun a => nth acc a + 1) :: C, by rw [List.foldl_cons, h]; simp [hdf]⟩
theorem hdf_nn : ∀ (B : List (List Int)) (acc : List Int), (∀ a ∈ acc, 0 ≤ a) → ∀ a ∈ B.foldl hdf acc, 0 ≤ a
  | [], _, h => h
  | r :: B, acc, h => hdf_nn B _ fun a ha => by
    rcases List.mem_append.mp ha with z | z
    · exact h a z
    · cases List.mem_singleton.mp z
      exact (mx0_ge _).1
theorem hds_len (G : List (List Int)) : (hds G).length = G.length := by
  have := hdf_len G []
  simpa [hds] using this
theorem hds_nn (G : List (List Int)) : ∀ a ∈ hds G, 0 ≤ a := hdf_nn G [] fun a h => nomatch h
theorem hds_take {G : List (List Int)} {j : Nat} (h : j < G.length) : hds (G.take (j + 1)) = hdf (hds (G.take j)) G[j] := by
  unfold hds
  rw [List.take_succ_eq_append_getElem h, List.foldl_append]
  rfl
theorem hds_at {G : List (List Int)} {j : Nat} (h : j < G.length) : ∃ C, hds G = hds (G.take j) ++ (mx0 (G[j].map fun a => nth (hds (G.take j)) a + 1) :: C) := by
  obtain ⟨C, e⟩ := hdf_pre (G.drop (j + 1)) (hds (G.take (j + 1)))
  refine ⟨C, ?_⟩
  have : hds G = (G.drop (j + 1)).foldl hdf (hds (G.take (j + 1))) := by
    unfold hds
    rw [← List.foldl_append, List.take_append_drop]
  rw [this, e, hds_take h]
  simp [hdf]
def Hd (G : List (List Int)) (v : Int) : Int := nth (hds G) v
theorem take_len {G : List (List Int)} {j : Nat} (h : j < G.length) : (hds (G.take j)).length = j := by
  rw [hds_len, List.length_take]
  omega
theorem hd_at {G : List (List Int)} {j : Nat} (h : j < G.length) : Hd G j = mx0 (G[j].map fun a => nth (hds (G.take j)) a + 1) := by
  obtain ⟨C, e⟩ := hds_at h
  have := take_len h
  show (hds G).getD (j : Int).toNat 0 = _
  rw [e, List.getD_eq_getElem?_getD, List.getElem?_append_right (by omega)]
  simp [this]
theorem hd_lt {G : List (List Int)} {j : Nat} (h : j < G.length) {a : Int} (h1 : 0 ≤ a) (h2 : a < j) : nth (hds (G.take j)) a = Hd G a := by
  obtain ⟨C, e⟩ := hds_at h
  have := take_len h
  unfold Hd nth
  rw [e, List.getD_eq_getElem?_getD, List.getD_eq_getElem?_getD, List.getElem?_append_left (by omega)]
theorem hd_step {G : List (List Int)} (hG : Good G) {v u : Int} (hv : v ∈ rng G.length) (hu : u ∈ deps G v) : Hd G u + 1 ≤ Hd G v := by
  obtain ⟨h0, h1⟩ := mem_rng.mp hv
  obtain ⟨j, rfl⟩ : ∃ j : Nat, v = j := ⟨v.toNat, by omega⟩
  have hj : j < G.length := by omega
  rw [deps_nat G hj] at hu
  obtain ⟨b1, b2⟩ := (hG j _ (List.getElem?_eq_getElem hj)).2 u hu
  rw [hd_at hj, ← hd_lt hj b1 b2]
  exact (mx0_ge _).2 _ (List.mem_map.mpr ⟨u, hu, rfl⟩)
def spanV (G : List (List Int)) : Int := mx0 ((hds G).map fun a => a + 1)
theorem hd_span {G : List (List Int)} {v : Int} (hv : v ∈ rng G.length) : Hd G v + 1 ≤ spanV G := by
  obtain ⟨h0, h1⟩ := mem_rng.mp hv
  have hl := hds_len G
  refine (mx0_ge _).2 _ (List.mem_map.mpr ⟨Hd G v, ?_, rfl⟩)
  unfold Hd nth
  rw [List.getD_eq_getElem?_getD, List.getElem?_eq_getElem (by omega)]
  exact List.getElem_mem _
theorem hd_le {G : List (List Int)} (hG : Good G) : ∀ j : Nat, j < G.length → Hd G j ≤ j := by
  intro j
  induction j using Nat.strongRecOn with
  | _ j ih =>
    intro h
    rw [hd_at h]
    refine mx0_le (by omega) fun a ha => ?_
    obtain ⟨b, hb, rfl⟩ := List.mem_map.mp ha
    obtain ⟨b1, b2⟩ := (hG j _ (List.getElem?_eq_getElem h)).2 b hb
    rw [hd_lt h b1 b2]
    have := ih b.toNat (by omega) (by omega)
    rw [Int.toNat_of_nonneg b1] at this
    omega
theorem span_le {G : List (List Int)} (hG : Good G) : spanV G ≤ G.length := by
  refine mx0_le (by omega) fun a ha => ?_
  obtain ⟨b, hb, rfl⟩ := List.mem_map.mp ha
  obtain ⟨j, hj, rfl⟩ := List.getElem_of_mem hb
  have hl := hds_len G
  have := hd_le hG j (by omega)
  unfold Hd nth at this
  rw [Int.toNat_natCast, List.getD_eq_getElem?_getD, List.getElem?_eq_getElem hj] at this
  simp only [Option.getD_some] at this
  omega
theorem span_nn (G : List (List Int)) : 0 ≤ spanV G := (mx0_ge _).1
def tlJ (i : Int) (f : List Int) (j : Int) : List Int := f.set j.toNat (max (nth f j) (nth f i + 1))
theorem tlJ_len (i : Int) (f : List Int) (j : Int) : (tlJ i f j).length = f.length := List.length_set
theorem tlR_len (i : Int) : ∀ (row f : List Int), (row.foldl (tlJ i) f).length = f.length
  | [], _ => rfl
  | j :: r, f => by rw [List.foldl_cons, tlR_len i r, tlJ_len]
def tlF (G : List (List Int)) (k : Nat) : List Int := (List.range k).foldl (fun f k => (G.getD (G.length - 1 - k) []).foldl (tlJ ((G.length - 1 - k : Nat) : Int)) f) (List.replicate G.length 0)
def tls (G : List (List Int)) : List Int := tlF G G.length
theorem tlF_succ (G : List (List Int)) (k : Nat) : tlF G (k + 1) = (G.getD (G.length - 1 - k) []).foldl (tlJ ((G.length - 1 - k : Nat) : Int)) (tlF G k) := foldl_range_succ _ _ _
theorem tlF_len (G : List (List Int)) : ∀ k, (tlF G k).length = G.length
  | 0 => by simp [tlF]
  | k + 1 => by rw [tlF_succ, tlR_len, tlF_len]

theorem mx0_mem (ns : List Int) : mx0 ns = 0 ∨ mx0 ns ∈ ns := fmax_mem ns 0
section
variable {G : List (List Int)} {c : Nat} {S T : List Int}
theorem hd_eq (hG : Good G) {v : Int} (hv : v ∈ rng G.length) : Hd G v = mx0 ((deps G v).map fun a => Hd G a + 1) := by
  obtain ⟨h0, h1⟩ := mem_rng.mp hv
  obtain ⟨j, rfl⟩ : ∃ j : Nat, v = j := ⟨v.toNat, by omega⟩
  have hj : j < G.length := by omega
  rw [hd_at hj, deps_nat G hj]
  congr 1
  refine List.map_congr_left fun a ha => ?_
  obtain ⟨b1, b2⟩ := (hG j _ (List.getElem?_eq_getElem hj)).2 a ha
  rw [hd_lt hj b1 b2]
theorem hd_nn {v : Int} (hv : v ∈ rng G.length) : 0 ≤ Hd G v := by
  have := mem_rng.mp hv
  have hl := hds_len G
  refine hds_nn G _ ?_
  unfold Hd nth
  rw [List.getD_eq_getElem?_getD, List.getElem?_eq_getElem (by omega)]
  exact List.getElem_mem _
theorem span_at (h : 0 < spanV G) : ∃ v ∈ rng G.length, Hd G v + 1 = spanV G := by
  rcases mx0_mem ((hds G).map fun a => a + 1) with e | e
  · unfold spanV at h; omega
  · obtain ⟨b, hb, e⟩ := List.mem_map.mp e
    obtain ⟨j, hj, rfl⟩ := List.getElem_of_mem hb
    have hl := hds_len G
    refine ⟨j, mem_rng.mpr (by omega), ?_⟩
    have : Hd G j = (hds G)[j] := nth_at (a := (j : Int)) hj
    rw [this]
    exact e
theorem span_zero (h : spanV G = 0) : G.length = 0 := by
  refine Decidable.byContradiction fun n => ?_
  have hv : (0 : Int) ∈ rng G.length := mem_rng.mpr (by omega)
  have := hd_span hv
  have := hd_nn hv
  omega
/-! all cores that could be used -/
def lay (G : List (List Int)) (k : Int) : List Int := (rng G.length).filter fun a => decide (Hd G a < k)
theorem mem_lay {k a : Int} : a ∈ lay G k ↔ a ∈ rng G.length ∧ Hd G a < k := by
  unfold lay
  rw [List.mem_filter, decide_eq_true_iff]
theorem lay_cl (hG : Good G) (k : Int) : Cl G (lay G k) := ⟨List.Pairwise.filter _ (rng_lt _), fun a h => (mem_lay.mp h).1, fun a h b hb => by
  obtain ⟨h1, h2⟩ := mem_lay.mp h
  have := hd_step hG h1 hb
  exact mem_lay.mpr ⟨deps_rng hG h1 hb, by omega⟩⟩
theorem lay_next (hG : Good G) (k : Int) (hk : 0 ≤ k) : jn G (lay G k) (ready G (lay G k)) = lay G (k + 1) := by
  refine asc_ext (jn_asc _ _ _) (lay_cl hG _).asc fun a => ?_
  rw [mem_jn, mem_lay, mem_lay, mem_ready, mem_lay]
  constructor
  · rintro ⟨h1, h2 | ⟨_, _, h3⟩⟩
    · exact ⟨h1, by omega⟩
    · refine ⟨h1, ?_⟩
      rw [hd_eq hG h1]
      have : mx0 ((deps G a).map fun a => Hd G a + 1) ≤ k := mx0_le hk fun x hx => by
        obtain ⟨b, hb, rfl⟩ := List.mem_map.mp hx
        have := (mem_lay.mp (h3 b hb)).2
        omega
      omega
  · rintro ⟨h1, h2⟩
    refine ⟨h1, ?_⟩
    by_cases c : Hd G a < k
    · exact .inl ⟨h1, c⟩
    · exact .inr ⟨h1, fun z => c z.2, fun b hb => mem_lay.mpr ⟨deps_rng hG h1 hb, by have := hd_step hG h1 hb; omega⟩⟩
theorem L_wide (hG : Good G) (hc : 1 ≤ c) (hn : G.length ≤ c) : ∀ (m : Nat) (k : Int), 0 ≤ k → spanV G - k = m → L G c (lay G k) = m := by
  intro m
  induction m with
  | zero =>
    intro k hk e
    refine L_full ?_
    have : lay G k = rng G.length := by
      refine List.filter_eq_self.mpr fun a ha => ?_
      have := hd_span ha
      simp only [decide_eq_true_eq]
      omega
    rw [this, rng_length]
  | succ m ih =>
    intro k hk e
    have hS := lay_cl hG k
    have ne : (lay G k).length ≠ G.length := fun f => by
      obtain ⟨v, h1, h2⟩ := span_at (G := G) (by omega)
      have := full_eq hS f
      rw [← this] at h1
      have := (mem_lay.mp h1).2
      omega
    obtain ⟨T, t1, t2⟩ := L_ex hG hc hS ne
    obtain ⟨a1, a2, a3⟩ := mem_FS.mp t1
    have hr := ready_len G (lay G k)
    have eT : T = ready G (lay G k) := by
      have := asc_sublist a1 (ready_asc G (lay G k)) a2
      exact this.eq_of_length (by omega)
    rw [t2, eT, lay_next hG k hk, ih (k + 1) (by omega) (by omega)]
    omega
theorem L_span (hG : Good G) (hc : 1 ≤ c) (hn : G.length ≤ c) : L G c [] = spanV G := by
  have h := span_nn G
  have := L_wide hG hc hn (spanV G).toNat 0 (by omega) (by omega)
  have e : lay G 0 = [] := List.filter_eq_nil_iff.mpr fun a ha => by
    have := hd_nn ha
    simp only [decide_eq_true_eq]
    omega
  rw [e] at this
  omega
/-! above: the greedy bound -/
theorem L_area (hG : Good G) (hc : 1 ≤ c) : ∀ (k : Nat) (S : List Int) (t : Int), Cl G S → G.length - S.length = k → (∀ v ∈ rng G.length, v ∉ S → t ≤ Hd G v) → t ≤ spanV G → (c : Int) * L G c S ≤ (G.length - S.length) + ((c : Int) - 1) * (spanV G - t) := by
  intro k
  induction k using Nat.strongRecOn with
  | ind k ih =>
    intro S t hS hk ht hts
    have hl := hS.len
    have m0 : 0 ≤ ((c : Int) - 1) * (spanV G - t) := Int.mul_nonneg (by omega) (by omega)
    by_cases e : S.length = G.length
    · rw [L_full e]
      omega
    · obtain ⟨T, h1, h2⟩ := L_ex hG hc hS e
      have p := FS_pos hG hc hS (by omega) h1
      obtain ⟨q1, q2⟩ := FS_jn hS h1
      obtain ⟨a1, a2, a3⟩ := mem_FS.mp h1
      have ex : (c : Int) * L G c S = c + c * L G c (jn G S T) := by rw [h2, Int.mul_add, Int.mul_one]
      have hin : ∀ v, v ∈ rng G.length → v ∉ jn G S T → v ∉ S ∧ v ∉ T := fun v hv n => ⟨fun z => n (mem_jn.mpr ⟨hv, .inl z⟩), fun z => n (mem_jn.mpr ⟨hv, .inr z⟩)⟩
      by_cases w : T.length = c
      · have := ih (G.length - (jn G S T).length) (by omega) _ t q1 rfl (fun v hv n => ht v hv (hin v hv n).1) hts
        rw [ex]
        omega
      · have eT : T = ready G S := (asc_sublist a1 (ready_asc G S) a2).eq_of_length (by omega)
        obtain ⟨v0, r0, e0⟩ := List.exists_cons_of_ne_nil (l := T) (fun z => by rw [z] at p; simp at p)
        have hv0 : v0 ∈ T := by rw [e0]; exact List.mem_cons_self
        obtain ⟨b1, b2, b3⟩ := mem_ready.mp (a2 v0 hv0)
        have t1 := ht v0 b1 b2
        have t2 := hd_span b1
        have := ih (G.length - (jn G S T).length) (by omega) _ (t + 1) q1 rfl (fun v hv n => by
          obtain ⟨n1, n2⟩ := hin v hv n
          rw [eT, mem_ready] at n2
          have : ∃ b ∈ deps G v, b ∉ S := by
            refine Classical.byContradiction fun q => n2 ⟨hv, n1, fun b hb => Classical.byContradiction fun z => q ⟨b, hb, z⟩⟩
          obtain ⟨b, hb, nb⟩ := this
          have z1 := ht b (deps_rng hG hv hb) nb
          have z2 := hd_step hG hv hb
          omega) (by omega)
        rw [ex]
        have e3 : ((c : Int) - 1) * (spanV G - (t + 1)) = ((c : Int) - 1) * (spanV G - t) - ((c : Int) - 1) := by
          rw [show spanV G - (t + 1) = spanV G - t - 1 by omega, Int.mul_sub, Int.mul_one]
        rw [e3] at this
        omega
theorem L_bound (hG : Good G) (hc : 1 ≤ c) : (c : Int) * L G c [] ≤ G.length + ((c : Int) - 1) * spanV G := by
  have := L_area hG hc _ [] 0 (cl_nil G) rfl (fun v hv _ => hd_nn hv) (span_nn G)
  simpa using this
/-! below: windows, by numbers B that go down along the edges -/
theorem L_tail (hG : Good G) (hc : 1 ≤ c) {B : Int → Int} (hB : ∀ v ∈ rng G.length, B v ≤ 0 ∨ ∃ w ∈ rng G.length, v ∈ deps G w ∧ B v ≤ B w + 1) : ∀ (k : Nat) (S : List Int), Cl G S → G.length - S.length = k → ∀ v ∈ rng G.length, v ∉ S → B v + 1 ≤ L G c S := by
  intro k
  induction k using Nat.strongRecOn with
  | ind k ih =>
    intro S hS hk v hv n
    have e : S.length ≠ G.length := fun e => n (by rw [full_eq hS e]; exact hv)
    have hl := hS.len
    obtain ⟨T, h1, h2⟩ := L_ex hG hc hS e
    have p := FS_pos hG hc hS (by omega) h1
    obtain ⟨q1, q2⟩ := FS_jn hS h1
    have nn := L_nn hG hc _ _ q1 rfl
    rcases hB v hv with z | ⟨w, w1, w2, w3⟩
    · omega
    · have nw : w ∉ jn G S T := fun z => by
        rcases (mem_jn.mp z).2 with z | z
        · exact n (hS.cl w z v w2)
        · exact n ((mem_ready.mp (FS_ready h1 w z)).2.2 v w2)
      have := ih (G.length - (jn G S T).length) (by omega) _ q1 rfl w w1 nw
      omega
theorem filter_len_add {p : Int → Bool} {S' : List Int} (l : List Int) (hT : ∀ a ∈ l, a ∉ S → a ∈ S' → a ∈ T) (hl : l.Nodup) : (l.filter fun a => p a && !decide (a ∈ S)).length ≤ (l.filter fun a => p a && !decide (a ∈ S')).length + T.length := by
  have h : (l.filter fun a => p a && !decide (a ∈ S)).length ≤ ((l.filter fun a => p a && !decide (a ∈ S')) ++ T).length := by
    refine len_sub _ _ (List.Pairwise.filter _ hl) fun a ha => ?_
    obtain ⟨h1, h2⟩ := List.mem_filter.mp ha
    simp only [Bool.and_eq_true, Bool.not_eq_true', decide_eq_false_iff_not] at h2
    rw [List.mem_append]
    by_cases z : a ∈ S'
    · exact .inr (hT a h1 h2.2 z)
    · exact .inl (List.mem_filter.mpr ⟨h1, by simp [h2.1, z]⟩)
  rw [List.length_append] at h
  exact h
theorem L_win (hG : Good G) (hc : 1 ≤ c) {B : Int → Int} (hB : ∀ v ∈ rng G.length, B v ≤ 0 ∨ ∃ w ∈ rng G.length, v ∈ deps G w ∧ B v ≤ B w + 1) {p : Int → Bool} {b : Int} (hp : ∀ v ∈ rng G.length, p v = true → b ≤ B v) : ∀ (k : Nat) (S : List Int), Cl G S → G.length - S.length = k → (∃ v ∈ rng G.length, p v = true ∧ v ∉ S) →
    (((rng G.length).filter fun a => p a && !decide (a ∈ S)).length : Int) ≤ c * (L G c S - b) := by
  intro k
  induction k using Nat.strongRecOn with
  | ind k ih =>
    rintro S hS hk ⟨v, hv, pv, n⟩
    have e : S.length ≠ G.length := fun e => n (by rw [full_eq hS e]; exact hv)
    have hl := hS.len
    have lb := L_tail hG hc hB _ S hS rfl v hv n
    have b0 := hp v hv pv
    obtain ⟨T, h1, h2⟩ := L_ex hG hc hS e
    have pp := FS_pos hG hc hS (by omega) h1
    obtain ⟨q1, q2⟩ := FS_jn hS h1
    have tl := (mem_FS.mp h1).2.2
    have add := filter_len_add (p := p) (S := S) (S' := jn G S T) (T := T) (rng G.length) (fun a _ n z => ((mem_jn.mp z).2).elim (fun z => absurd z n) fun z => z) (rng_nodup _)
    by_cases q : ∃ v ∈ rng G.length, p v = true ∧ v ∉ jn G S T
    · have := ih (G.length - (jn G S T).length) (by omega) _ q1 rfl q
      have ex : (c : Int) * (L G c S - b) = c + c * (L G c (jn G S T) - b) := by rw [h2, show 1 + L G c (jn G S T) - b = 1 + (L G c (jn G S T) - b) by omega, Int.mul_add, Int.mul_one]
      rw [ex]
      omega
    · have z : ((rng G.length).filter fun a => p a && !decide (a ∈ jn G S T)) = [] := List.filter_eq_nil_iff.mpr fun a ha => by
        intro z
        simp only [Bool.and_eq_true, Bool.not_eq_true', decide_eq_false_iff_not] at z
        exact q ⟨a, ha, z.1, z.2⟩
      rw [z] at add
      have : (c : Int) * 1 ≤ c * (L G c S - b) := Int.mul_le_mul_of_nonneg_left (by omega) (by omega)
      simp only [List.length_nil] at add
      omega
/-- behind so many steps only nodes of low heads are done -/
theorem Rch.head (hG : Good G) : ∀ {k : Nat} {S : List Int}, Rch G c k S → ∀ v ∈ S, Hd G v < k
  | 0, _, h, v, hv => by cases h; cases hv
  | k + 1, _, ⟨S0, h, T, hT, e⟩, v, hv => by
    subst e
    have ih := Rch.head hG h
    obtain ⟨h1, h2⟩ := mem_jn.mp hv
    rcases h2 with h2 | h2
    · have := ih v h2; push_cast; omega
    · rw [hd_eq hG h1]
      have : mx0 ((deps G v).map fun a => Hd G a + 1) ≤ k := mx0_le (by omega) fun x hx => by
        obtain ⟨b, hb, rfl⟩ := List.mem_map.mp hx
        have := ih b ((mem_ready.mp (FS_ready hT v h2)).2.2 b hb)
        omega
      push_cast
      omega
theorem L_span_le (hG : Good G) (hc : 1 ≤ c) : spanV G ≤ L G c [] := by
  have h0 := L_nn hG hc _ [] (cl_nil G) rfl
  by_cases h : 0 < spanV G
  · obtain ⟨v, h1, h2⟩ := span_at h
    have := Rch.head hG (Rch.end_ hG hc (k := (L G c []).toNat) (by omega)) v h1
    omega
  · omega
/-- THE WINDOW: a steps ahead, b steps behind -/
theorem L_window (hG : Good G) (hc : 1 ≤ c) {B : Int → Int} (hB : ∀ v ∈ rng G.length, B v ≤ 0 ∨ ∃ w ∈ rng G.length, v ∈ deps G w ∧ B v ≤ B w + 1) {a b : Int} (ha : 0 ≤ a) (hne : ((rng G.length).filter fun v => decide (a ≤ Hd G v) && decide (b ≤ B v)) ≠ []) :
    ((((rng G.length).filter fun v => decide (a ≤ Hd G v) && decide (b ≤ B v)).length : Nat) : Int) ≤ c * (L G c [] - a - b) := by
  obtain ⟨v, hv⟩ := List.exists_mem_of_ne_nil _ hne
  obtain ⟨h1, h2⟩ := List.mem_filter.mp hv
  simp only [Bool.and_eq_true, decide_eq_true_eq] at h2
  have s1 := hd_span h1
  have s2 := L_span_le hG hc (c := c)
  obtain ⟨S, r1, r2⟩ := Rch.ex hG hc a.toNat (by omega)
  have hd := Rch.head hG r1
  have nS : ∀ u, a ≤ Hd G u → u ∉ S := fun u hu z => by have := hd u z; omega
  have := L_win hG hc hB (p := fun v => decide (a ≤ Hd G v) && decide (b ≤ B v)) (b := b) (fun v _ h => by simp only [Bool.and_eq_true, decide_eq_true_eq] at h; exact h.2) _ S r1.cl rfl ⟨v, h1, by simp [h2], nS v h2.1⟩
  rw [r2, Int.toNat_of_nonneg ha] at this
  have e : ((rng G.length).filter fun u => (decide (a ≤ Hd G u) && decide (b ≤ B u)) && !decide (u ∈ S)) = (rng G.length).filter fun v => decide (a ≤ Hd G v) && decide (b ≤ B v) := by
    refine List.filter_congr fun u _ => ?_
    by_cases z : a ≤ Hd G u
    · simp [z, nS u z]
    · simp [z]
  rw [e] at this
  exact this
end
end LM
namespace LM
open FK
/-! ### the first of the shortest schedules -/
theorem lt_irr (a : List Int) : ¬ a < a := List.lt_irrefl a
theorem lt_tr {a b c : List Int} (h1 : a < b) (h2 : b < c) : a < c := List.lt_trans h1 h2
theorem lt_tri {a b : List Int} (h1 : ¬ a < b) (h2 : ¬ b < a) : a = b := List.le_antisymm (List.not_lt.mp h2) (List.not_lt.mp h1)
def mnT : List (List Int) → List Int | [] => [] | d :: r => r.foldl (fun a y => if y < a then y else a) d
theorem mnT_go : ∀ (r : List (List Int)) (d : List Int), (r.foldl (fun a y => if y < a then y else a) d = d ∨ r.foldl (fun a y => if y < a then y else a) d ∈ r) ∧ (¬ d < r.foldl (fun a y => if y < a then y else a) d) ∧ ∀ x ∈ r, ¬ x < r.foldl (fun a y => if y < a then y else a) d
  | [], d => ⟨.inl rfl, lt_irr d, fun x h => nomatch h⟩
  | y :: r, d => by
    obtain ⟨h1, h2, h3⟩ := mnT_go r (if y < d then y else d)
    rw [List.foldl_cons]
    generalize r.foldl (fun a y => if y < a then y else a) (if y < d then y else d) = m at h1 h2 h3 ⊢
    by_cases c : y < d
    · rw [if_pos c] at h1 h2
      refine ⟨.inr ?_, fun z => h2 (lt_tr c z), fun x hx => ?_⟩
      · rcases h1 with h1 | h1
        · rw [h1]; exact List.mem_cons_self
        · exact List.mem_cons_of_mem _ h1
      · rcases List.mem_cons.mp hx with rfl | hx
        · exact h2
        · exact h3 x hx
    · rw [if_neg c] at h1 h2
      refine ⟨h1.imp (fun z => z) (List.mem_cons_of_mem _), h2, fun x hx => ?_⟩
      rcases List.mem_cons.mp hx with rfl | hx
      · intro z
        by_cases e : x = d
        · subst e; exact h2 z
        · have : d < x := Decidable.byContradiction fun q => e (lt_tri c q)
          exact h2 (lt_tr this z)
      · exact h3 x hx
theorem mnT_mem {l : List (List Int)} (h : l ≠ []) : mnT l ∈ l := by
  cases l with
  | nil => exact absurd rfl h
  | cons d r =>
    rcases (mnT_go r d).1 with e | e
    · show r.foldl _ d ∈ _
      rw [e]; exact List.mem_cons_self
    · exact List.mem_cons_of_mem _ e
theorem mnT_le {l : List (List Int)} {x : List Int} (h : x ∈ l) : ¬ x < mnT l := by
  cases l with
  | nil => cases h
  | cons d r =>
    rcases List.mem_cons.mp h with rfl | h
    · exact (mnT_go r x).2.1
    · exact (mnT_go r d).2.2 x h
theorem mnT_uniq {l : List (List Int)} {m : List Int} (h : m ∈ l) (h2 : ∀ x ∈ l, ¬ x < m) : m = mnT l :=
  lt_tri (mnT_le h) (h2 _ (mnT_mem fun e => by rw [e] at h; cases h))
theorem mnT_same {l m : List (List Int)} (h : ∀ x, x ∈ l ↔ x ∈ m) (hne : l ≠ []) : mnT l = mnT m :=
  mnT_uniq ((h _).mp (mnT_mem hne)) fun x hx => mnT_le ((h x).mpr hx)
section
variable {G : List (List Int)} {c : Nat} {S T : List Int}
def stp (G : List (List Int)) (c : Nat) (S : List Int) : List (List Int) := ((List.range (min c (ready G S).length)).map fun k => chs (ready G S) (k + 1)).flatten
theorem mem_stp : T ∈ stp G c S ↔ T.Pairwise (· < ·) ∧ (∀ a ∈ T, a ∈ ready G S) ∧ 1 ≤ T.length ∧ T.length ≤ min c (ready G S).length := by
  unfold stp
  rw [List.mem_flatten]
  constructor
  · rintro ⟨l, hl, hT⟩
    obtain ⟨k, hk, rfl⟩ := List.mem_map.mp hl
    have hk := List.mem_range.mp hk
    obtain ⟨h1, h2⟩ := mem_chs.mp hT
    exact ⟨(ready_asc G S).sublist h1, fun a ha => h1.mem ha, by omega, by omega⟩
  · rintro ⟨h1, h2, h3, h4⟩
    refine ⟨_, List.mem_map.mpr ⟨T.length - 1, List.mem_range.mpr (by omega), rfl⟩, mem_chs.mpr ⟨asc_sublist h1 (ready_asc G S) h2, by omega⟩⟩
def fitsV (G : List (List Int)) (c : Nat) (S : List Int) : List (List Int) := (stp G c S).filter fun T => decide (L G c (jn G S T) < L G c S)
theorem mem_fits : T ∈ fitsV G c S ↔ (T.Pairwise (· < ·) ∧ (∀ a ∈ T, a ∈ ready G S) ∧ 1 ≤ T.length ∧ T.length ≤ min c (ready G S).length) ∧ L G c (jn G S T) < L G c S := by
  unfold fitsV
  rw [List.mem_filter, mem_stp, decide_eq_true_iff]
def fst (G : List (List Int)) (c : Nat) (S : List Int) : List Int := mnT (fitsV G c S)
theorem fits_ne (hG : Good G) (hc : 1 ≤ c) (hS : Cl G S) (h : S.length ≠ G.length) : fitsV G c S ≠ [] := by
  obtain ⟨T, h1, h2⟩ := L_ex hG hc hS h
  have := hS.len
  have p := FS_pos hG hc hS (by omega) h1
  obtain ⟨a1, a2, a3⟩ := mem_FS.mp h1
  have : T ∈ fitsV G c S := mem_fits.mpr ⟨⟨a1, a2, p, by omega⟩, by omega⟩
  intro e
  rw [e] at this
  cases this
theorem fst_ok (hG : Good G) (hc : 1 ≤ c) (hS : Cl G S) (h : S.length ≠ G.length) : (fst G c S).Pairwise (· < ·) ∧ (∀ a ∈ fst G c S, a ∈ ready G S) ∧ 1 ≤ (fst G c S).length ∧ (fst G c S).length ≤ c ∧ L G c (jn G S (fst G c S)) = L G c S - 1 := by
  obtain ⟨⟨h1, h2, h3, h4⟩, h5⟩ := mem_fits.mp (mnT_mem (fits_ne hG hc hS h))
  have := L_step hG hc hS (asc_nodup h1) h2 (by omega)
  refine ⟨h1, h2, h3, ?_, ?_⟩
  · show (mnT (fitsV G c S)).length ≤ c
    omega
  · show L G c (jn G S (mnT (fitsV G c S))) = _
    omega
def itS (G : List (List Int)) (c : Nat) : Nat → List Int
  | 0 => []
  | k + 1 => jn G (itS G c k) (fst G c (itS G c k))
def outs (G : List (List Int)) (c : Nat) (k : Nat) : List (List Int) := (List.range k).map fun i => fst G c (itS G c i)
theorem outs_succ (G : List (List Int)) (c k : Nat) : outs G c (k + 1) = outs G c k ++ [fst G c (itS G c k)] := by
  unfold outs
  rw [List.range_succ, List.map_append]
  rfl
theorem outs_len (G : List (List Int)) (c k : Nat) : (outs G c k).length = k := by simp [outs]
theorem itS_ok (hG : Good G) (hc : 1 ≤ c) : ∀ k : Nat, (k : Int) ≤ L G c [] → Cl G (itS G c k) ∧ L G c (itS G c k) = L G c [] - k
  | 0, _ => ⟨cl_nil G, by simp [itS]⟩
  | k + 1, h => by
    obtain ⟨h1, h2⟩ := itS_ok hG hc k (by push_cast at h; omega)
    have ne : (itS G c k).length ≠ G.length := fun e => by rw [L_full e] at h2; push_cast at h; omega
    obtain ⟨f1, f2, f3, f4, f5⟩ := fst_ok hG hc h1 ne
    refine ⟨jn_cl h1 f2, ?_⟩
    show L G c (jn G (itS G c k) (fst G c (itS G c k))) = _
    push_cast
    omega
theorem itS_ne (hG : Good G) (hc : 1 ≤ c) {k : Nat} (h : (k : Int) < L G c []) : (itS G c k).length ≠ G.length := fun e => by
  have := (itS_ok hG hc k (by omega)).2
  rw [L_full e] at this
  omega
theorem itS_end (hG : Good G) (hc : 1 ≤ c) {k : Nat} (h : (k : Int) = L G c []) : (itS G c k).length = G.length := by
  obtain ⟨h1, h2⟩ := itS_ok hG hc k (by omega)
  refine Decidable.byContradiction fun e => ?_
  have := L_pos hG hc h1 e
  omega
end
end LM
namespace FK
open PySem PySem.Spec L2
open PyProof.Rows hiding St
/-! PL4: tuples of numbers in order. -/
theorem dataLt_tups (a b : List Int) : PySem.W.dataLt (D.tup (iL a)).py (D.tup (iL b)).py = decide (a < b) := by
  rw [py_tup, py_tup, ints_py, ints_py, PySem.W.dataLt_tuple]
  exact PySem.W.dataLt_ints a b
theorem alike_tups : ∀ a b : List Int, PySem.W.alike (D.tup (iL a)).py (D.tup (iL b)).py = true := by
  intro a b
  rw [py_tup, py_tup, ints_py, ints_py]
  simp only [PySem.W.alike]
  induction a generalizing b with
  | nil => cases b <;> simp only [List.map_nil, List.map_cons, PySem.W.alikeAll]
  | cons x r ih =>
    cases b with
    | nil => simp only [List.map_nil, List.map_cons, PySem.W.alikeAll]
    | cons y s => simp only [List.map_cons, PySem.W.alikeAll, PySem.W.alike, ih s, Bool.and_self]
theorem tL_alike (ss : List (List Int)) : ((tL ss).all fun a => (tL ss).all fun b => PySem.W.alike a.py b.py) = true := by
  rw [List.all_eq_true]
  intro a ha
  rw [List.all_eq_true]
  intro b hb
  obtain ⟨S, _, rfl⟩ := tL_mem ha
  obtain ⟨T, _, rfl⟩ := tL_mem hb
  exact alike_tups S T
theorem tL_tup1 {ss : List (List Int)} (h : ∀ S ∈ ss, S ≠ []) : (tL ss).all D.tup1 = true := by
  rw [List.all_eq_true]
  intro a ha
  obtain ⟨S, hS, rfl⟩ := tL_mem ha
  cases S with
  | nil => exact absurd rfl (h _ hS)
  | cons x r => rfl
theorem tL_depth (ss : List (List Int)) : ((tL ss).all fun a => decide (a.py.depth ≤ 100)) = true := by
  rw [List.all_eq_true]
  intro a ha
  obtain ⟨S, _, rfl⟩ := tL_mem ha
  rw [depth_tup]
  rfl
def srtT (ss : List (List Int)) : List (List Int) := ss.mergeSort fun a b => decide (¬ b < a)
theorem sortedA_tL {ss : List (List Int)} (k : Kd) (h : ∀ S ∈ ss, S ≠ []) (hz : ss.length ≤ PySem.sizeLine) : gSortedA (.lst (tL ss), k) = .ok (.lst (tL (srtT ss)), .ow) := by
  show gSorted (.lst (tL ss), k) = _
  have ok : sortOk (tL ss) = true := by
    unfold sortOk
    have a1 : (tL ss).length ≤ PySem.sizeLine := by rw [tL_length]; exact hz
    rw [decide_eq_true a1, plainAll_tL, tL_alike, tL_tup1 h, tL_depth]
    simp
  unfold gSorted
  dsimp only
  rw [if_pos ok]
  have e : sortD (tL ss) = tL (srtT ss) := by
    unfold sortD tL srtT
    refine (List.map_mergeSort fun a _ b _ => ?_).symm
    show decide (¬ b < a) = !PySem.W.dataLt (D.tup (iL b)).py (D.tup (iL a)).py
    rw [dataLt_tups, ← decide_not]
  rw [e]
theorem mem_srtT {ss : List (List Int)} {S : List Int} : S ∈ srtT ss ↔ S ∈ ss := (List.mergeSort_perm _ _).mem_iff
theorem srtT_len (ss : List (List Int)) : (srtT ss).length = ss.length := List.length_mergeSort _
theorem srtT_sorted (ss : List (List Int)) : (srtT ss).Pairwise fun a b => ¬ b < a := by
  have := List.pairwise_mergeSort (le := fun a b : List Int => decide (¬ b < a)) (fun a b c h1 h2 => by
    simp only [decide_eq_true_eq] at *
    intro z
    by_cases e : b < a
    · exact h1 e
    · by_cases e2 : a < b
      · exact h2 (LM.lt_tr z e2)
      · have := LM.lt_tri e2 e
        subst this
        exact h2 z) (fun a b => by
    by_cases e : b < a
    · have : ¬ a < b := fun z => LM.lt_irr _ (LM.lt_tr z e)
      simp [e, this]
    · simp [e]) ss
  exact this.imp fun h => by simpa using h
theorem head_min {l : List (List Int)} {d : List Int} {r : List (List Int)} (h : l.Pairwise fun a b => ¬ b < a) (e : l = d :: r) : d = LM.mnT l := by
  subst e
  refine LM.mnT_uniq List.mem_cons_self fun x hx => ?_
  rcases List.mem_cons.mp hx with rfl | hx
  · exact LM.lt_irr _
  · exact (List.pairwise_cons.mp h).1 x hx
theorem gMinT_tL {ss : List (List Int)} (k : Kd) (hne : ss ≠ []) (h : ∀ S ∈ ss, S ≠ []) : gMinT (.lst (tL ss), k) = .ok (.tup (iL (LM.mnT ss)), .fz) := by
  cases ss with
  | nil => exact absurd rfl hne
  | cons d r =>
    have ok : minOk (tL (d :: r)) = true := by
      unfold minOk
      rw [plainAll_tL, tL_alike, tL_tup1 h, tL_depth]
      rfl
    have e : ∀ (r : List (List Int)) (d : List Int), minDD (.tup (iL d)) (tL r) = .tup (iL (r.foldl (fun a y => if y < a then y else a) d)) := by
      intro r
      induction r with
      | nil => intro d; rfl
      | cons y r ih =>
        intro d
        show minDD (if PySem.W.dataLt (D.tup (iL y)).py (D.tup (iL d)).py = true then D.tup (iL y) else D.tup (iL d)) (tL r) = _
        rw [dataLt_tups, List.foldl_cons]
        by_cases c : y < d
        · rw [if_pos (decide_eq_true c), if_pos c]; exact ih y
        · rw [if_neg (by simpa using c), if_neg c]; exact ih d
    unfold gMinT
    show (if minOk (tL (d :: r)) = true then R.ok (minDD (.tup (iL d)) (tL r), Kd.fz) else .no) = _
    rw [if_pos ok, e]
    rfl
@[simp] theorem revD_lst (xs : List D) (k : Kd) : revD (.lst xs, k) = .ok (xs.reverse, k) := Eq.trans rfl rfl
theorem rev_tL (ss : List (List Int)) : (tL ss).reverse = tL ss.reverse := by unfold tL; rw [List.map_reverse]
theorem mkDt1_ints (S : List Int) (d : D) : mkDt1 (.tup (iL S), .fz) (d, .fz) = .ok (.dt (dtM [(S, d)]), .ow) := by
  unfold mkDt1
  dsimp only
  rw [keysD_ints]
  rfl
@[simp] theorem e_mDt1 (p q : Env → R DV) (ρ : Env) (P : DV → Prop) : (mDt1 p q ρ).w P = (p ρ).w fun x => (q ρ).w fun y => (mkDt1 x y).w P := by
  unfold mDt1
  rw [R.w_bind, R.w_quiet]
  refine R.w_cg fun x => ?_
  rw [R.w_bind, R.w_quiet]
end FK
namespace LM
open FK
/-! ### tails, windows -/
section
variable {G : List (List Int)} {c : Nat}
def Tl (G : List (List Int)) (v : Int) : Int := nth (tls G) v
theorem nth_set {f : List Int} {j : Nat} {x : Int} (v : Int) (h0 : 0 ≤ v) (hj : j < f.length) : nth (f.set j x) v = if v = j then x else nth f v := by
  unfold nth
  rw [List.getD_eq_getElem?_getD, List.getD_eq_getElem?_getD]
  by_cases e : v = j
  · rw [if_pos e, e, Int.toNat_natCast, List.getElem?_set_self hj]
    rfl
  · rw [if_neg e, List.getElem?_set_ne (by omega)]
structure TlOk (G : List (List Int)) (k : Nat) (f : List Int) : Prop where
  len : f.length = G.length
  nn : ∀ v ∈ rng G.length, 0 ≤ nth f v
  up : ∀ v ∈ rng G.length, nth f v = 0 ∨ ∃ w ∈ rng G.length, (G.length : Int) - k ≤ w ∧ v ∈ deps G w ∧ nth f v = nth f w + 1
theorem tl_row (hG : Good G) {k u : Nat} (hu : u + k + 1 = G.length) {f0 : List Int} (h0 : TlOk G k f0) : ∀ (done row : List Int), done ++ row = deps G u → ∀ f, f.length = G.length → (∀ v ∈ rng G.length, (u : Int) ≤ v → nth f v = nth f0 v) → (∀ v ∈ rng G.length, 0 ≤ nth f v) →
    (∀ v ∈ rng G.length, nth f v = 0 ∨ ∃ w ∈ rng G.length, (u : Int) ≤ w ∧ v ∈ deps G w ∧ nth f v = nth f w + 1) → TlOk G (k + 1) (row.foldl (tlJ u) f)
  | _, [], _, f, h1, h2, h3, h4 => ⟨h1, h3, fun v hv => (h4 v hv).imp (fun z => z) fun ⟨w, w1, w2, w3⟩ => ⟨w, w1, by push_cast; omega, w3⟩⟩
  | done, j :: r, e, f, h1, h2, h3, h4 => by
    have hur : (u : Int) ∈ rng G.length := mem_rng.mpr (by omega)
    have hj : j ∈ deps G u := by rw [← e]; simp
    obtain ⟨j0, j1⟩ := deps_in hG hur hj
    have hjr := deps_rng hG hur hj
    obtain ⟨jn, rfl⟩ : ∃ n : Nat, j = n := ⟨j.toNat, by omega⟩
    have hjl : jn < f.length := by omega
    have set := fun v (hv : v ∈ rng G.length) => nth_set (f := f) (x := max (nth f jn) (nth f u + 1)) v (mem_rng.mp hv).1 hjl
    have step : tlJ u f jn = f.set jn (max (nth f jn) (nth f u + 1)) := by unfold tlJ; rw [Int.toNat_natCast]
    rw [List.foldl_cons, step]
    refine tl_row hG hu h0 (done ++ [(jn : Int)]) r (by rw [← e]; simp) _ (by rw [List.length_set]; exact h1) (fun v hv hle => ?_) (fun v hv => ?_) fun v hv => ?_
    · rw [set v hv, if_neg (by omega)]
      exact h2 v hv hle
    · rw [set v hv]
      split
      · have := h3 jn hjr; omega
      · exact h3 v hv
    · have big : ∀ w ∈ rng G.length, (u : Int) ≤ w → nth (f.set jn (max (nth f jn) (nth f u + 1))) w = nth f w := fun w hw hle => by
        rw [set w hw, if_neg (by omega)]
      have old : nth f v = 0 ∨ ∃ w ∈ rng G.length, (u : Int) ≤ w ∧ v ∈ deps G w ∧ nth f v = nth (f.set jn (max (nth f jn) (nth f u + 1))) w + 1 := by
        rcases h4 v hv with z | ⟨w, w1, w2, w3, w4⟩
        · exact .inl z
        · exact .inr ⟨w, w1, w2, w3, by rw [big w w1 w2]; exact w4⟩
      rw [set v hv]
      by_cases q : v = jn
      · subst q
        rw [if_pos rfl]
        by_cases m : nth f u + 1 ≤ nth f jn
        · rw [show max (nth f jn) (nth f u + 1) = nth f jn by omega]
          rw [show max (nth f jn) (nth f u + 1) = nth f jn by omega] at old
          exact old
        · refine .inr ⟨u, hur, Int.le_refl _, hj, ?_⟩
          rw [big u hur (Int.le_refl _)]
          omega
      · rw [if_neg q]
        exact old
theorem tlF_ok (hG : Good G) : ∀ k : Nat, k ≤ G.length → TlOk G k (tlF G k)
  | 0, _ => by
    have e : tlF G 0 = List.replicate G.length 0 := rfl
    have z : ∀ v ∈ rng G.length, nth (tlF G 0) v = 0 := fun v hv => by
      have := mem_rng.mp hv
      rw [e]
      unfold nth
      rw [List.getD_eq_getElem?_getD, List.getElem?_replicate, if_pos (by omega)]
      rfl
    exact ⟨by rw [e, List.length_replicate], fun v hv => by rw [z v hv]; omega, fun v hv => .inl (z v hv)⟩
  | k + 1, h => by
    have ih := tlF_ok hG k (by omega)
    have hu : (G.length - 1 - k) + k + 1 = G.length := by omega
    have ed : G.getD (G.length - 1 - k) [] = deps G ((G.length - 1 - k : Nat) : Int) := by unfold deps; rw [Int.toNat_natCast]
    rw [tlF_succ, ed]
    exact tl_row hG hu ih [] _ rfl _ ih.len (fun v _ _ => rfl) ih.nn fun v hv => (ih.up v hv).imp (fun z => z) fun ⟨w, w1, w2, w3⟩ => ⟨w, w1, by omega, w3⟩
theorem tls_len (G : List (List Int)) : (tls G).length = G.length := tlF_len G G.length
theorem tl_nn (hG : Good G) {v : Int} (hv : v ∈ rng G.length) : 0 ≤ Tl G v := (tlF_ok hG _ (Nat.le_refl _)).nn v hv
theorem tl_up (hG : Good G) {v : Int} (hv : v ∈ rng G.length) : Tl G v = 0 ∨ ∃ w ∈ rng G.length, v ∈ deps G w ∧ Tl G v = Tl G w + 1 :=
  ((tlF_ok hG _ (Nat.le_refl _)).up v hv).imp (fun z => z) fun ⟨w, w1, _, w3⟩ => ⟨w, w1, w3⟩
theorem tl_lt (hG : Good G) : ∀ (m : Nat) (v : Int), v ∈ rng G.length → G.length - v.toNat = m → Tl G v ≤ G.length - 1 - v := by
  intro m
  induction m using Nat.strongRecOn with
  | ind m ih =>
    intro v hv hm
    have := mem_rng.mp hv
    rcases tl_up hG hv with z | ⟨w, w1, w2, w3⟩
    · omega
    · have := deps_in hG w1 w2
      have := mem_rng.mp w1
      have := ih (G.length - w.toNat) (by omega) w w1 rfl
      omega
def cnt (G : List (List Int)) (a b : Int) : Nat := ((rng G.length).filter fun v => decide (a ≤ Hd G v) && decide (b ≤ Tl G v)).length
def wv (G : List (List Int)) (c : Nat) (a b : Int) : Int := a + ((cnt G a b : Int) + c - 1) / c + b
theorem cnt_mem {a b : Int} (h : cnt G a b ≠ 0) : ∃ v ∈ rng G.length, a ≤ Hd G v ∧ b ≤ Tl G v := by
  obtain ⟨v, hv⟩ := List.exists_mem_of_length_pos (Nat.pos_of_ne_zero h)
  obtain ⟨h1, h2⟩ := List.mem_filter.mp hv
  simp only [Bool.and_eq_true, decide_eq_true_eq] at h2
  exact ⟨v, h1, h2⟩
theorem cnt_of {a b v : Int} (h1 : v ∈ rng G.length) (h2 : a ≤ Hd G v) (h3 : b ≤ Tl G v) : cnt G a b ≠ 0 := by
  have : v ∈ (rng G.length).filter fun v => decide (a ≤ Hd G v) && decide (b ≤ Tl G v) := List.mem_filter.mpr ⟨h1, by simp [h2, h3]⟩
  have := List.length_pos_of_mem this
  unfold cnt
  omega
theorem cnt_le {a b a' b' : Int} (h : ∀ v ∈ rng G.length, a ≤ Hd G v → b ≤ Tl G v → a' ≤ Hd G v ∧ b' ≤ Tl G v) : cnt G a b ≤ cnt G a' b' := by
  refine len_sub _ _ (List.Pairwise.filter _ (rng_nodup _)) fun v hv => ?_
  obtain ⟨h1, h2⟩ := List.mem_filter.mp hv
  simp only [Bool.and_eq_true, decide_eq_true_eq] at h2
  obtain ⟨h3, h4⟩ := h v h1 h2.1 h2.2
  exact List.mem_filter.mpr ⟨h1, by simp [h3, h4]⟩
theorem up_mono {m n : Nat} (hc : 1 ≤ c) (h : m ≤ n) : ((m : Int) + c - 1) / c ≤ ((n : Int) + c - 1) / c := Int.ediv_le_ediv (by omega) (by omega)
theorem up_one {m : Nat} (hc : 1 ≤ c) (h : m ≠ 0) : 1 ≤ ((m : Int) + c - 1) / c := by
  rw [Int.le_ediv_iff_mul_le (by omega)]
  omega
theorem up_le {m : Nat} {x : Int} (hc : 1 ≤ c) (h : (m : Int) ≤ c * x) : ((m : Int) + c - 1) / c ≤ x := by
  have := Int.ediv_lt_of_lt_mul (a := (m : Int) + c - 1) (b := x + 1) (c := c) (by omega) (by rw [Int.add_mul, Int.mul_comm x]; omega)
  omega
structure WBp (G : List (List Int)) (c : Nat) (w : Int) : Prop where
  nn : 0 ≤ w
  le : ∀ a b : Int, 0 ≤ a → 0 ≤ b → cnt G a b ≠ 0 → wv G c a b ≤ w
  at_ : w = 0 ∨ ∃ a b : Int, 0 ≤ a ∧ 0 ≤ b ∧ cnt G a b ≠ 0 ∧ wv G c a b = w
theorem WBp.uniq {w w' : Int} (h : WBp G c w) (h' : WBp G c w') : w = w' := by
  have go : ∀ {w w' : Int}, WBp G c w → WBp G c w' → w ≤ w' := fun {w w'} h h' => by
    rcases h.at_ with e | ⟨a, b, h1, h2, h3, h4⟩
    · rw [e]; exact h'.nn
    · rw [← h4]; exact h'.le a b h1 h2 h3
  exact Int.le_antisymm (go h h') (go h' h)
theorem tl_hyp (hG : Good G) : ∀ v ∈ rng G.length, Tl G v ≤ 0 ∨ ∃ w ∈ rng G.length, v ∈ deps G w ∧ Tl G v ≤ Tl G w + 1 := fun v hv => (tl_up hG hv).imp (fun z => by omega) fun ⟨w, w1, w2, w3⟩ => ⟨w, w1, w2, by omega⟩
theorem wv_le_L (hG : Good G) (hc : 1 ≤ c) {a b : Int} (ha : 0 ≤ a) (hne : cnt G a b ≠ 0) : wv G c a b ≤ L G c [] := by
  have := L_window hG hc (tl_hyp hG) (a := a) (b := b) ha (fun z => hne (by unfold cnt; rw [z]; rfl))
  have := up_le (m := cnt G a b) (x := L G c [] - a - b) hc this
  unfold wv
  omega
theorem WBp.le_L (hG : Good G) (hc : 1 ≤ c) {w : Int} (h : WBp G c w) : w ≤ L G c [] := by
  rcases h.at_ with e | ⟨a, b, h1, h2, h3, h4⟩
  · rw [e]; exact L_nn hG hc _ [] (cl_nil G) rfl
  · rw [← h4]; exact wv_le_L hG hc h1 h3
theorem WBp.area (hG : Good G) (hc : 1 ≤ c) {w : Int} (h : WBp G c w) : ((G.length : Int) + c - 1) / c ≤ w := by
  by_cases z : G.length = 0
  · have e : ((G.length : Int) + c - 1) / c = 0 := by rw [z]; exact Int.ediv_eq_zero_of_lt (by omega) (by omega)
    rw [e]
    exact h.nn
  · have e : cnt G 0 0 = G.length := by
      unfold cnt
      rw [List.filter_eq_self.mpr fun v hv => by simp [hd_nn hv, tl_nn hG hv], rng_length]
    have := h.le 0 0 (Int.le_refl _) (Int.le_refl _) (by omega)
    unfold wv at this
    rw [e] at this
    omega
theorem WBp.span (hG : Good G) (hc : 1 ≤ c) {w : Int} (h : WBp G c w) : spanV G ≤ w := by
  have s0 := span_nn G
  by_cases z : 0 < spanV G
  · obtain ⟨v, h1, h2⟩ := span_at z
    have ne : cnt G (spanV G - 1) 0 ≠ 0 := cnt_of h1 (by omega) (tl_nn hG h1)
    have := h.le (spanV G - 1) 0 (by omega) (Int.le_refl _) ne
    have := up_one (m := cnt G (spanV G - 1) 0) hc ne
    unfold wv at *
    omega
  · have := h.nn
    omega
theorem L_top (hG : Good G) (hc : 1 ≤ c) : L G c [] ≤ ((G.length : Int) + ((c : Int) - 1) * spanV G) / c := by
  rw [Int.le_ediv_iff_mul_le (by omega), Int.mul_comm]
  exact L_bound hG hc
/-- the windows at heads and tails that stand there are enough -/
theorem WBp.of (hG : Good G) {w : Int} (hc : 1 ≤ c) (h0 : 0 ≤ w) (h1 : ∀ u ∈ rng G.length, ∀ v ∈ rng G.length, cnt G (Hd G u) (Tl G v) ≠ 0 → wv G c (Hd G u) (Tl G v) ≤ w)
    (h2 : w = 0 ∨ ∃ a b : Int, 0 ≤ a ∧ 0 ≤ b ∧ cnt G a b ≠ 0 ∧ wv G c a b = w) : WBp G c w := ⟨h0, fun a b ha hb hne => by
  -- the least head and the least tail within
  have least : ∀ (f : Int → Int) (l : List Int), l ≠ [] → ∃ u ∈ l, ∀ v ∈ l, f u ≤ f v := by
    intro f l
    induction l with
    | nil => intro h; exact absurd rfl h
    | cons x r ih =>
      intro _
      by_cases e : r = []
      · subst e; exact ⟨x, List.mem_cons_self, fun v hv => by cases List.mem_singleton.mp hv; exact Int.le_refl _⟩
      · obtain ⟨u, hu, hm⟩ := ih e
        by_cases c : f x ≤ f u
        · refine ⟨x, List.mem_cons_self, fun v hv => ?_⟩
          rcases List.mem_cons.mp hv with rfl | hv
          · exact Int.le_refl _
          · have := hm v hv; omega
        · refine ⟨u, List.mem_cons_of_mem _ hu, fun v hv => ?_⟩
          rcases List.mem_cons.mp hv with rfl | hv
          · omega
          · exact hm v hv
  have ne : ((rng G.length).filter fun v => decide (a ≤ Hd G v) && decide (b ≤ Tl G v)) ≠ [] := fun z => hne (by unfold cnt; rw [z]; rfl)
  have mem : ∀ {v}, v ∈ ((rng G.length).filter fun v => decide (a ≤ Hd G v) && decide (b ≤ Tl G v)) ↔ v ∈ rng G.length ∧ a ≤ Hd G v ∧ b ≤ Tl G v := fun {v} => by
    rw [List.mem_filter]
    simp
  obtain ⟨u, hu, mu⟩ := least (Hd G) _ ne
  obtain ⟨v, hv, mv⟩ := least (Tl G) _ ne
  obtain ⟨u1, u2, u3⟩ := mem.mp hu
  obtain ⟨v1, v2, v3⟩ := mem.mp hv
  have le : cnt G a b ≤ cnt G (Hd G u) (Tl G v) := cnt_le fun x hx x1 x2 => ⟨mu x (mem.mpr ⟨hx, x1, x2⟩), mv x (mem.mpr ⟨hx, x1, x2⟩)⟩
  have := h1 u u1 v v1 (by omega)
  have := up_mono hc le
  unfold wv at *
  omega, h2⟩
end
end LM
namespace FK
open PySem PySem.Spec L2
open PyProof.Rows hiding St
/-! PL5: dicts by comprehension, zip, sorted numbers. -/
def insI (acc : List Int) (i : Int) : List Int := if i ∈ acc then acc else acc ++ [i]
def ddI (ns : List Int) : List Int := ns.foldl insI []
theorem ddI_go : ∀ (ns acc : List Int), acc.Nodup → (ns.foldl insI acc).Nodup ∧ (∀ a, a ∈ ns.foldl insI acc ↔ a ∈ acc ∨ a ∈ ns) ∧ (ns.foldl insI acc).length ≤ acc.length + ns.length
  | [], acc, h => ⟨h, fun a => by simp, by simp⟩
  | i :: r, acc, h => by
    have hn : (insI acc i).Nodup := by
      unfold insI
      split
      · exact h
      · rw [List.nodup_append]
        refine ⟨h, by simp, fun a ha b hb e => ?_⟩
        cases List.mem_singleton.mp hb
        subst e
        contradiction
    have hm : ∀ a, a ∈ insI acc i ↔ a ∈ acc ∨ a = i := fun a => by
      unfold insI
      split
      · exact ⟨.inl, fun h => h.elim (fun h => h) fun h => by rw [h]; assumption⟩
      · rw [List.mem_append, List.mem_singleton]
    have hl : (insI acc i).length ≤ acc.length + 1 := by
      unfold insI
      split
      · omega
      · simp
    obtain ⟨h1, h2, h3⟩ := ddI_go r (insI acc i) hn
    rw [List.foldl_cons]
    refine ⟨h1, fun a => ?_, by rw [List.length_cons]; omega⟩
    rw [h2, hm, List.mem_cons, or_assoc]
theorem mem_ddI {ns : List Int} {a : Int} : a ∈ ddI ns ↔ a ∈ ns := by
  have := (ddI_go ns [] (by simp)).2.1 a
  simpa [ddI] using this
theorem ddI_len (ns : List Int) : (ddI ns).length ≤ ns.length := by
  have := (ddI_go ns [] (by simp)).2.2
  simpa [ddI] using this
theorem put_insI (acc : List Int) (i : Int) : putD (dkI acc) (Sum.inl i : Key) (.bl true) = dkI (insI acc i) := by
  unfold insI
  by_cases h : i ∈ acc
  · rw [if_pos h]
    have hl := look_dkI acc i
    unfold putD
    have any : ((dkI acc).any fun kv => decide (kv.1 = (Sum.inl i : Key))) = true := by
      rw [List.any_eq_true]
      exact ⟨(Sum.inl i, .bl true), List.mem_map.mpr ⟨i, h, rfl⟩, by simp⟩
    rw [if_pos any]
    unfold dkI
    rw [List.map_map]
    refine List.map_congr_left fun a _ => ?_
    show (if (Sum.inl a : Key) = Sum.inl i then ((Sum.inl a : Key), D.bl true) else (Sum.inl a, .bl true)) = _
    split <;> rfl
  · rw [if_neg h]
    exact put_dkI h
/-- {x: True for x in ns} -/
theorem dcM_set {f : D → Env → Option Env} {pk : Env → R DV} {ρ : Env} : ∀ (ns acc : List Int), (∀ n ∈ ns, ∃ ρ1, f (.int n) ρ = some ρ1 ∧ pk ρ1 = .ok (.int n, .fz)) → dcM (fun x : DV => keyD x.1) f kTrue pk (kBl true) (iL ns) ρ (dkI acc) = .ok (dkI (ns.foldl insI acc))
  | [], _, _ => rfl
  | n :: r, acc, h => by
    obtain ⟨ρ1, h1, h2⟩ := h n List.mem_cons_self
    have ih := dcM_set (f := f) (pk := pk) (ρ := ρ) r (insI acc n) fun m hm => h m (List.mem_cons_of_mem _ hm)
    show dcM (fun x : DV => keyD x.1) f kTrue pk (kBl true) (.int n :: iL r) ρ (dkI acc) = _
    unfold dcM
    rw [h1]
    dsimp only
    show ((R.ok true).quiet.bind _) = _
    show ((pk ρ1).quiet.bind _) = _
    rw [h2]
    show dcM (fun x : DV => keyD x.1) f kTrue pk (kBl true) (iL r) ρ (putD (dkI acc) (Sum.inl n : Key) (.bl true)) = _
    rw [put_insI, List.foldl_cons]
    exact ih
theorem w_dcSet {f : D → Env → Option Env} {pk : Env → R DV} {ρ : Env} {ns : List Int} {P : List (Key × D) → Prop} (h : ∀ n ∈ ns, ∃ ρ1, f (.int n) ρ = some ρ1 ∧ (pk ρ1).w fun x => x = (.int n, .fz)) (p : P (dkI (ddI ns))) : (dcM (fun x : DV => keyD x.1) f kTrue pk (kBl true) (iL ns) ρ []).w P :=
  R.w_of (dcM_set ns [] fun n hn => by
    obtain ⟨ρ1, h1, h2⟩ := h n hn
    exact ⟨ρ1, h1, R.w_eq h2⟩) p
@[simp] theorem e_mDcK (ρ : Env) (it : Env → R (List D × Kd)) (gt : D → Env → Option Env) (pt : Env → R Bool) (pk pv : Env → R DV) (vs : List Nat) (P : DV → Prop) : (mDcK it gt pt pk pv vs ρ).w P = (it ρ).w fun x => if x.1.length ≤ sizeLine then (dcM (fun x : DV => keyD x.1) gt pt pk pv x.1 (wipeD ρ vs) []).w fun r => P (.dk r, .ow) else False := by
  unfold mDcK
  rw [R.w_bind]
  refine R.w_cg fun x => ?_
  rw [R.w_ite, R.w_noF]
  congr 1
  rw [R.w_bind]
  exact R.w_cg fun x => R.w_ok _ _
@[simp] theorem gListD_dkI (ns : List Int) (k : Kd) : gListD (.dk (dkI ns), k) = .ok (.lst (iL ns), .ow) := by
  unfold gListD
  dsimp only
  congr 3
  unfold dkI iL
  rw [List.map_map]
  rfl
@[simp] theorem gListD_lst (xs : List D) (k : Kd) : gListD (.lst xs, k) = .ok (.lst xs, .ow) := Eq.trans rfl rfl
def srtI (l : List Int) : List Int := l.mergeSort fun a b => decide (a ≤ b)
theorem mem_srtI {l : List Int} {a : Int} : a ∈ srtI l ↔ a ∈ l := (List.mergeSort_perm _ _).mem_iff
theorem srtI_len (l : List Int) : (srtI l).length = l.length := List.length_mergeSort _
theorem sortedA_srtI {l : List Int} (k : Kd) (hz : l.length ≤ PySem.sizeLine) : gSortedA (.lst (iL l), k) = .ok (.lst (iL (srtI l)), .ow) :=
  sortedA_lst k (List.mergeSort_perm _ _) ((List.pairwise_mergeSort (le := fun a b : Int => decide (a ≤ b)) (fun a b c h1 h2 => by simp at *; omega) (fun a b => by simp; omega) l).imp fun h => by simpa using h) hz
@[simp] theorem zipD_ow (xs ys : List D) : zipD (.lst xs, .ow) (.lst ys, .ow) = .ok (zipL xs ys, .fz) := Eq.trans rfl rfl
theorem zipL_map {α : Type} (f g : α → D) : ∀ l : List α, zipL (l.map f) (l.map g) = l.map fun a => .tup [f a, g a]
  | [] => rfl
  | a :: r => by
    show .tup [f a, g a] :: zipL (r.map f) (r.map g) = _
    rw [zipL_map f g r]
    rfl
@[simp] theorem isNone_int (g : Bool → Bool) (i : Int) : isNoneD g (.int i, .fz) (.non, .fz) = .ok (.bl (g false), .fz) := Eq.trans rfl rfl
@[simp] theorem isNone_non (g : Bool → Bool) : isNoneD g (.non, .fz) (.non, .fz) = .ok (.bl (g true), .fz) := Eq.trans rfl rfl
theorem rgRev_nat (n : Nat) (k : Kd) (h : n < 2 ^ 60) : rgRev (.int n, k) = .ok (rangeL ((n : Int) - 1) (-1) n, .fz) := by
  unfold rgRev
  dsimp only
  rw [if_pos (by omega), Int.toNat_natCast]
/-- pairs of ranges seen so far -/
theorem hds_map {G : List (List Int)} : LM.hds G = (rng G.length).map (LM.Hd G) := by
  have hl := LM.hds_len G
  refine List.ext_getElem (by simp [hl]) fun i h1 h2 => ?_
  rw [List.getElem_map]
  have hi : i < G.length := by rw [← hl]; exact h1
  have e : (rng G.length)[i]'(by simpa using hi) = (i : Int) := by
    have := rng_get hi
    rw [List.getElem?_eq_getElem (by simpa using hi)] at this
    exact Option.some.inj this
  rw [e]
  exact (LM.nth_at (a := (i : Int)) h1).symm
theorem tls_map {G : List (List Int)} : LM.tls G = (rng G.length).map (LM.Tl G) := by
  have hl := LM.tls_len G
  refine List.ext_getElem (by simp [hl]) fun i h1 h2 => ?_
  rw [List.getElem_map]
  have hi : i < G.length := by rw [← hl]; exact h1
  have e : (rng G.length)[i]'(by simpa using hi) = (i : Int) := by
    have := rng_get hi
    rw [List.getElem?_eq_getElem (by simpa using hi)] at this
    exact Option.some.inj this
  rw [e]
  exact (LM.nth_at (a := (i : Int)) h1).symm
end FK
namespace K52
open PySem.Spec L2 FK
open PyProof.Rows hiding St
def b__law_pool : Env → SO := (mRet (dBin opAdd (mLst (aCons (kInt 0) (aCons (kInt 7) (aCons (kInt 3) aNil)))) (dCB (one gList) (aCons (dVar 0) aNil))))
def m__law_pool : List DV → R DV := runD 1 b__law_pool
def b__law_draw : Env → SOp := (pSeq (pIf (tAndD (dCmp (cEq id) (dBin ixD (dVar 0) (kInt 0)) (kInt 0)) (dCmp (cOrd oLt) (dBin ixD (dVar 0) (kInt 2)) (dCB (one gLen) (aCons (dVar 0) aNil)))) (pSeq (pSet 2 (dBin ixD (dVar 0) (dBin ixD (dVar 0) (kInt 2))))
    (pSeq (pPut (dBin opAdd (dBin ixD (dVar 0) (kInt 2)) (kInt 1)) (kInt 2))
    (pSeq (pPut (dBin (opInt fMod) (dCB (one gInt) (aCons (dBin opAdd (dBin opMul (dBin ixD (dVar 0) (kInt 1)) (kInt 31)) (dVar 2)) aNil)) (kInt 2147483647)) (kInt 1))
    (pIf (dCmp (cOrd oGe) (dCB (one (gI1 fun i => if i < 0 then -i else i)) (aCons (dVar 2) aNil)) (dBin (opInt fPow) (kInt 10) (kInt 18))) (pPut (dCB (one (gI1 fun i => if i < 0 then -i else i)) (aCons (dVar 2) aNil)) (kInt 0)) pNil)))) pNil)
    (pSeq (pIf (dCmp (cOrd oGt) (dBin ixD (dVar 0) (kInt 0)) (kInt 0)) (pSeq (pSet 3 (dBin (opInt fMod) (dCB (one gInt) (aCons (dBin ixD (dVar 0) (kInt 0)) aNil)) (dVar 1)))
    (pSeq (pPut (dBin (opInt fDiv) (dBin ixD (dVar 0) (kInt 0)) (dVar 1)) (kInt 0))
    (pRet (dVar 3)))) pNil)
    (pSeq (pPut (dBin (opInt fMod) (dCB (one gInt) (aCons (dBin opAdd (dBin opMul (dBin ixD (dVar 0) (kInt 1)) (kInt 48271)) (kInt 12345)) aNil)) (kInt 2147483647)) (kInt 1))
    (pSeq (pSet 4 (dBin (opInt fMod) (dCB (one gInt) (aCons (dBin opAdd (dBin opAdd (dBin opMul (dBin ixD (dVar 0) (kInt 1)) (kInt 69621)) (dBin (opInt fDiv) (dBin ixD (dVar 0) (kInt 1)) (kInt 65536))) (kInt 17)) aNil)) (kInt 2147483629)))
    (pRet (dBin (opInt fMod) (dCB (one gInt) (aCons (dBin (opInt fDiv) (dVar 4) (kInt 16)) aNil)) (dVar 1)))))))
def m__law_draw : D → List DV → R (DV × D) := runP 5 b__law_draw
def b__law_graph_L1 : Env → SOp := (pSetM 3 (m2 opAdd (mP (dVar 3)) (mT1 (m1 (one gTuple) (mLcM 0 (mRg1 (dVar 4)) (gName 5) (mCmp (cEq id) (mCall 1 m__law_draw 0 (aCons (dVar 2) aNil)) (mP (kInt 0))) (dVar 5) [5])))))
def b__law_graph : Env → SOp := (pSeq (pSetM 2 (m2 ixD (mP (mLst (aCons (kInt 1) (aCons (kInt 2) (aCons (kInt 2) (aCons (kInt 3) (aCons (kInt 5) (aCons (kInt 20) aNil)))))))) (mCall 1 m__law_draw 0 (aCons (kInt 6) aNil))))
    (pSeq (pSet 3 (mTup aNil))
    (pSeq (pFor 4 (mCall 1 m__law_draw 0 (aCons (dBin opAdd (dVar 1) (kInt 1)) aNil)) b__law_graph_L1)
    (pRet (dVar 3)))))
def m__law_graph : D → List DV → R (DV × D) := runP 6 b__law_graph
def b__law_ready : Env → SO := (mRet (mLc (mRg1 (dCB (one gLen) (aCons (dVar 0) aNil))) (gName 2) (tAndD (dCmp (cIn (!·)) (dVar 2) (dVar 1)) (dCmp (cEq id) (mLc (mItems (dBin ixD (dVar 0) (dVar 2))) (gName 3) (dCmp (cIn (!·)) (dVar 3) (dVar 1)) (dVar 3) [3]) (mLst aNil))) (dVar 2) [2]))
def m__law_ready : List DV → R DV := runD 4 b__law_ready
def b__law_choices_L1 : Env → SO := (sSet 2 (dBin opAdd (dVar 2) (mLc (mItems (dVar 2)) (gName 4) (dCmp (cOrd oLt) (dCB (one gLen) (aCons (dVar 4) aNil)) (dVar 1)) (dBin opAdd (dVar 4) (mTup (aCons (dVar 3) aNil))) [4])))
def b__law_choices : Env → SO := (mSeq (sSet 2 (mLst (aCons (mTup aNil) aNil)))
    (mSeq (sFor (mItems (dVar 0)) (gName 3) b__law_choices_L1)
    (mRet (mLc (mItems (dVar 2)) (gName 4) (dCmp (cEq id) (dCB (one gLen) (aCons (dVar 4) aNil)) (dVar 1)) (dVar 4) [4]))))
def m__law_choices : List DV → R DV := runD 5 b__law_choices
def b__law_steps : Env → SO := (mSeq (sSet 3 (dCall 2 m__law_ready (aCons (dVar 0) (aCons (dVar 2) aNil))))
    (mRet (mLc (mItems (dCall 2 m__law_choices (aCons (dVar 3) (aCons (dCB (two (gI2 fun i j => if j < i then j else i)) (aCons (dVar 1) (aCons (dCB (one gLen) (aCons (dVar 3) aNil)) aNil))) aNil)))) (gName 4) kTrue (dCB (one gTuple) (aCons (dCB (one gSortedA) (aCons (dBin opAdd (dVar 2) (dVar 4)) aNil)) aNil)) [4])))
def m__law_steps : List DV → R DV := runD 5 b__law_steps
def b__law_least_L1 : Env → SO := (sPut 4 (kInt 1) (dVar 6))
def b__law_least_L2 : Env → SO := (sFor (mItems (dCall 3 m__law_steps (aCons (dVar 0) (aCons (dVar 1) (aCons (dVar 5) aNil))))) (gName 6) b__law_least_L1)
def b__law_least_L3 : Env → SO := (mSeq (mIf (tOrD (dCmp (cEq id) (dCB (one gLen) (aCons (dBin ixD (dVar 2) (kInt 0)) aNil)) (dCB (one gLen) (aCons (dVar 0) aNil))) (dCmp (cIn id) (mTrg1 (dCB (one gLen) (aCons (dVar 0) aNil))) (dVar 2))) (retV 3) mPass)
    (mSeq (sSet 4 kDt)
    (mSeq (mFrz 2 (sFor (mItems (dVar 2)) (gName 5) b__law_least_L2))
    (keysS 4 2 5))))
def b__law_least : Env → SO := (mSeq (sSet 2 (mLst (aCons (mTup aNil) aNil)))
    (mSeq (sFor (mRg1 (dBin opAdd (dCB (one gLen) (aCons (dVar 0) aNil)) (kInt 1))) (gName 3) b__law_least_L3)
    (mRet (dCB (one gLen) (aCons (dVar 0) aNil)))))
def m__law_least : List DV → R DV := runD 7 b__law_least
def b__law_heads_L1 : Env → SO := (methS gAppend 1 (aCons (dCB (one (gInts fMaxL)) (aCons (dBin opAdd (mLst (aCons (kInt 0) aNil)) (mLc (mItems (dVar 2)) (gName 3) kTrue (dBin opAdd (dBin ixD (dVar 1) (dVar 3)) (kInt 1)) [3])) aNil)) aNil))
def b__law_heads : Env → SO := (mSeq (sSet 1 (mLst aNil))
    (mSeq (sFor (mItems (dVar 0)) (gName 2) b__law_heads_L1)
    (retV 1)))
def m__law_heads : List DV → R DV := runD 4 b__law_heads
def b__law_tails_L1 : Env → SO := (sPut 1 (dCB (two (gI2 fun i j => if j > i then j else i)) (aCons (dBin ixD (dVar 1) (dVar 3)) (aCons (dBin opAdd (dBin ixD (dVar 1) (dVar 2)) (kInt 1)) aNil))) (dVar 3))
def b__law_tails_L2 : Env → SO := (sFor (mItems (dBin ixD (dVar 0) (dVar 2))) (gName 3) b__law_tails_L1)
def b__law_tails : Env → SO := (mSeq (sSet 1 (dBin opMul (mLst (aCons (kInt 0) aNil)) (dCB (one gLen) (aCons (dVar 0) aNil))))
    (mSeq (sFor (fun ρ => ((dCB (one gLen) (aCons (dVar 0) aNil)) ρ).bind rgRev) (gName 2) b__law_tails_L2)
    (retV 1)))
def m__law_tails : List DV → R DV := runD 4 b__law_tails
def b__law_up : Env → SO := (mRet (dBin (opInt fDiv) (dBin (opInt fSub) (dBin opAdd (dVar 0) (dVar 1)) (kInt 1)) (dVar 1)))
def m__law_up : List DV → R DV := runD 2 b__law_up
def b__law_window : Env → SO := (mSeq (sSet 4 (dCall 1 m__law_heads (aCons (dVar 0) aNil)))
    (mSeq (sSet 5 (dCall 1 m__law_tails (aCons (dVar 0) aNil)))
    (mSeq (sSet 6 (dCB (one gLen) (aCons (mLc (mRg1 (dCB (one gLen) (aCons (dVar 0) aNil))) (gName 7) (tAndD (dCmp (cOrd oGe) (dBin ixD (dVar 4) (dVar 7)) (dVar 2)) (dCmp (cOrd oGe) (dBin ixD (dVar 5) (dVar 7)) (dVar 3))) (dVar 7) [7]) aNil)))
    (mSeq (mIf (dCmp (cEq id) (dVar 6) (kInt 0)) (mRet (kInt 0)) mPass)
    (mRet (dBin opAdd (dBin opAdd (dVar 2) (dCall 2 m__law_up (aCons (dVar 6) (aCons (dVar 1) aNil)))) (dVar 3)))))))
def m__law_window : List DV → R DV := runD 8 b__law_window
def b__law_window_bound_L1 : Env → SO := (sSet 2 (dCB (two (gI2 fun i j => if j > i then j else i)) (aCons (dVar 2) (aCons (dCall 4 m__law_window (aCons (dVar 0) (aCons (dVar 1) (aCons (dVar 3) (aCons (dVar 4) aNil))))) aNil))))
def b__law_window_bound_L2 : Env → SO := (sFor (mRg1 (dCB (one gLen) (aCons (dVar 0) aNil))) (gName 4) b__law_window_bound_L1)
def b__law_window_bound : Env → SO := (mSeq (sSet 2 (kInt 0))
    (mSeq (sFor (mRg1 (dCB (one gLen) (aCons (dVar 0) aNil))) (gName 3) b__law_window_bound_L2)
    (retV 2)))
def m__law_window_bound : List DV → R DV := runD 5 b__law_window_bound
def b__law_same_L1 (rr : List DV → R DV) : Env → SO := (mIf (tNotD (dTru (dCall 2 rr (aCons (dBin ixD (dVar 0) (dVar 2)) (aCons (dBin ixD (dVar 1) (dVar 2)) aNil))))) (mRet (kBl false)) mPass)
def b__law_same (rr : List DV → R DV) : Env → SO := (mSeq (mIf (dTru (mIs (dVar 1) "int")) (mRet (dAnd (mIs (dVar 0) "int") (dAnd (dNot (mIs (dVar 0) "bool")) (dBin (cEq id) (dVar 0) (dVar 1))))) mPass)
    (mSeq (mIf (dTru (mIs (dVar 1) "str")) (mRet (dAnd (mIs (dVar 0) "str") (dBin (cEq id) (dVar 0) (dVar 1)))) mPass)
    (mSeq (mIf (tOrD (tNotD (dTru (mIs (dVar 0) "tuple"))) (dCmp (cEq (!·)) (dCB (one gLen) (aCons (dVar 0) aNil)) (dCB (one gLen) (aCons (dVar 1) aNil)))) (mRet (kBl false)) mPass)
    (mSeq (sFor (mRg1 (dCB (one gLen) (aCons (dVar 1) aNil))) (gName 2) (b__law_same_L1 rr))
    (mRet (kBl true))))))
def l__law_same : Nat → List DV → R DV
  | 0 => fun _ => .no
  | j + 1 => runD 3 (b__law_same (l__law_same j))
def m__law_same : List DV → R DV := l__law_same 12
def b_is_whole : Env → SO := (mRet (dAnd (mIs (dVar 0) "int") (dNot (mIs (dVar 0) "bool"))))
def m_is_whole : List DV → R DV := runD 1 b_is_whole
def b__is_row : Env → SO := (mSeq (mIf (tOrD (tNotD (dTru (mIs (dVar 0) "tuple"))) (tNotD (dTru (dCB (one (gBools fun bs => bs.all id)) (aCons (mLc (mItems (dVar 0)) (gName 2) kTrue (dAnd (dCall 1 m_is_whole (aCons (dVar 2) aNil)) (dChn (cOrd oLe) (cOrd oLt) (kInt 0) (dVar 2) (dVar 1))) [2]) aNil))))) (mRet (kBl false)) mPass)
    (mRet (dCB (one (gBools fun bs => bs.all id)) (aCons (mLc (mRg1 (dBin (opInt fSub) (dCB (one gLen) (aCons (dVar 0) aNil)) (kInt 1))) (gName 3) kTrue (dBin (cOrd oLt) (dBin ixD (dVar 0) (dVar 3)) (dBin ixD (dVar 0) (dBin opAdd (dVar 3) (kInt 1)))) [3]) aNil))))
def m__is_row : List DV → R DV := runD 4 b__is_row
def b_is_graph : Env → SO := (mRet (dAnd (mIs (dVar 0) "tuple") (dCB (one (gBools fun bs => bs.all id)) (aCons (mLc (mEnum (dVar 0)) (gTup 2 (gsCons (gName 1) (gsCons (gName 2) gsNil))) kTrue (dCall 2 m__is_row (aCons (dVar 2) (aCons (dVar 1) aNil))) [1, 2]) aNil))))
def m_is_graph : List DV → R DV := runD 3 b_is_graph
def b_need_graph : Env → SO := (mIf (tNotD (dTru (dCall 1 m_is_graph (aCons (dVar 0) aNil)))) (mRaise "InvalidGraph" ["value"] (aCons (dVar 0) aNil)) mPass)
def m_need_graph : List DV → R DV := runD 1 b_need_graph
def b_work : Env → SO := (mSeq (mExpr (dCall 1 m_need_graph (aCons (dVar 0) aNil)))
    (mRet (dCB (one gLen) (aCons (dVar 0) aNil))))
def m_work : List DV → R DV := runD 1 b_work
def b_heads_of_L1 : Env → SO := (methS gAppend 1 (aCons (dBin gMaxDef (mLc (mItems (dVar 2)) (gName 3) kTrue (dBin opAdd (dBin ixD (dVar 1) (dVar 3)) (kInt 1)) [3]) (kInt 0)) aNil))
def b_heads_of : Env → SO := (mSeq (sSet 1 (mLst aNil))
    (mSeq (sFor (mItems (dVar 0)) (gName 2) b_heads_of_L1)
    (retV 1)))
def m_heads_of : List DV → R DV := runD 4 b_heads_of
def b_span_of : Env → SO := (mRet (dBin gMaxDef (mLc (mItems (dCall 1 m_heads_of (aCons (dVar 0) aNil))) (gName 1) kTrue (dBin opAdd (dVar 1) (kInt 1)) [1]) (kInt 0)))
def m_span_of : List DV → R DV := runD 2 b_span_of
def b_span : Env → SO := (mSeq (mExpr (dCall 1 m_need_graph (aCons (dVar 0) aNil)))
    (mRet (dCall 1 m_span_of (aCons (dVar 0) aNil))))
def m_span : List DV → R DV := runD 1 b_span
def b_area_of : Env → SO := (mRet (dBin (opInt fDiv) (dBin (opInt fSub) (dBin opAdd (dCB (one gLen) (aCons (dVar 0) aNil)) (dVar 1)) (kInt 1)) (dVar 1)))
def m_area_of : List DV → R DV := runD 2 b_area_of
def b_area_bound : Env → SO := (mSeq (mExpr (dCall 1 m_need_graph (aCons (dVar 0) aNil)))
    (mRet (dCall 2 m_area_of (aCons (dVar 0) (aCons (dVar 1) aNil)))))
def m_area_bound : List DV → R DV := runD 2 b_area_bound
def b_tails_of_L1 : Env → SO := (sPut 1 (dCB (two (gI2 fun i j => if j > i then j else i)) (aCons (dBin ixD (dVar 1) (dVar 4)) (aCons (dBin opAdd (dBin ixD (dVar 1) (dVar 3)) (kInt 1)) aNil))) (dVar 4))
def b_tails_of_L2 : Env → SO := (sFor (mItems (dBin ixD (dVar 0) (dVar 3))) (gName 4) b_tails_of_L1)
def b_tails_of : Env → SO := (mSeq (sSet 1 (mLc (mItems (dVar 0)) (gName 2) kTrue (kInt 0) [2]))
    (mSeq (sFor (fun ρ => ((dBin (opInt fSub) (dCB (one gLen) (aCons (dVar 0) aNil)) (kInt 1)) ρ).bind fun x => ((mNeg (kInt 1)) ρ).bind fun y => ((mNeg (kInt 1)) ρ).bind fun z => rg3 x y z) (gName 3) b_tails_of_L2)
    (retV 1)))
def m_tails_of : List DV → R DV := runD 5 b_tails_of
def b_window_at : Env → SO := (mSeq (sSet 4 (dCB (one gLen) (aCons (mLc (fun ρ => ((dCall 1 m_heads_of (aCons (dVar 0) aNil)) ρ).bind fun x => ((dCall 1 m_tails_of (aCons (dVar 0) aNil)) ρ).bind fun y => zipD x y) (gTup 2 (gsCons (gName 5) (gsCons (gName 6) gsNil))) (tAndD (dCmp (cOrd oGe) (dVar 5) (dVar 2)) (dCmp (cOrd oGe) (dVar 6) (dVar 3))) (kInt 1) [5, 6]) aNil)))
    (mRet (dIf (dCmp (cEq id) (dVar 4) (kInt 0)) kNon (dBin opAdd (dBin opAdd (dVar 2) (dBin (opInt fDiv) (dBin (opInt fSub) (dBin opAdd (dVar 4) (dVar 1)) (kInt 1)) (dVar 1))) (dVar 3)))))
def m_window_at : List DV → R DV := runD 7 b_window_at
def b_best_window_L1 : Env → SO := (mSeq (sSet 7 (dCall 4 m_window_at (aCons (dVar 0) (aCons (dVar 1) (aCons (dVar 3) (aCons (dVar 5) aNil))))))
    (mIf (tAndD (dCmp (isNoneD (!·)) (dVar 7) kNon) (dCmp (cOrd oGt) (dVar 7) (dBin ixD (dVar 2) (kInt 0)))) (mFrz 7 (sSet 2 (mTup (aCons (dVar 7) (aCons (dVar 3) (aCons (dVar 5) aNil)))))) mPass))
def b_best_window_L2 : Env → SO := (sFor (mItems (dCB (one gSortedA) (aCons (dCB (one gListD) (aCons (mDcK (mItems (dCall 1 m_tails_of (aCons (dVar 0) aNil))) (gName 6) kTrue (dVar 6) (kBl true) [6]) aNil)) aNil))) (gName 5) b_best_window_L1)
def b_best_window : Env → SO := (mSeq (sSet 2 (mTup (aCons (kInt 0) (aCons (kInt 0) (aCons (kInt 0) aNil)))))
    (mSeq (sFor (mItems (dCB (one gSortedA) (aCons (dCB (one gListD) (aCons (mDcK (mItems (dCall 1 m_heads_of (aCons (dVar 0) aNil))) (gName 4) kTrue (dVar 4) (kBl true) [4]) aNil)) aNil))) (gName 3) b_best_window_L2)
    (retV 2)))
def m_best_window : List DV → R DV := runD 8 b_best_window
def b_window_bound : Env → SO := (mSeq (mExpr (dCall 1 m_need_graph (aCons (dVar 0) aNil)))
    (mRet (dBin ixD (dCall 2 m_best_window (aCons (dVar 0) (aCons (dVar 1) aNil))) (kInt 0))))
def m_window_bound : List DV → R DV := runD 2 b_window_bound
def b_ready_nodes : Env → SO := (mRet (mLc (mEnum (dVar 0)) (gTup 2 (gsCons (gName 2) (gsCons (gName 3) gsNil))) (tAndD (dCmp (cIn (!·)) (dVar 2) (dVar 1)) (dTru (dCB (one (gBools fun bs => bs.all id)) (aCons (mLc (mItems (dVar 3)) (gName 4) kTrue (dBin (cIn id) (dVar 4) (dVar 1)) [4]) aNil)))) (dVar 2) [2, 3]))
def m_ready_nodes : List DV → R DV := runD 5 b_ready_nodes
def b_with_nodes : Env → SO := (mRet (dCB (one gTuple) (aCons (dCB (one gSortedA) (aCons (dBin opAdd (dVar 0) (dVar 1)) aNil)) aNil)))
def m_with_nodes : List DV → R DV := runD 2 b_with_nodes
def b_closed_sets_L1 : Env → SO := (sPut 4 (kBl true) (dCall 2 m_with_nodes (aCons (dVar 5) (aCons (mTup (aCons (dVar 6) aNil)) aNil))))
def b_closed_sets_L2 : Env → SO := (sFor (mItems (dCall 2 m_ready_nodes (aCons (dVar 0) (aCons (dVar 5) aNil)))) (gName 6) b_closed_sets_L1)
def b_closed_sets_L3 : Env → SO := (mSeq (sSet 4 kDt)
    (mSeq (mFrz 2 (sFor (mItems (dVar 2)) (gName 5) b_closed_sets_L2))
    (mSeq (sSet 2 (mListT (dVar 4)))
    (sSet 1 (dBin opAdd (dVar 1) (dVar 2))))))
def b_closed_sets : Env → SO := (mSeq (sSet 1 (mLst (aCons (mTup aNil) aNil)))
    (mSeq (sSet 2 (mLst (aCons (mTup aNil) aNil)))
    (mSeq (sFor (mItems (dVar 0)) (gName 3) b_closed_sets_L3)
    (retV 1))))
def m_closed_sets : List DV → R DV := runD 7 b_closed_sets
def b_choices_L1 : Env → SO := (sSet 2 (mLc2 (mItems (dVar 2)) (gName 4) kTrue (mItems (dVar 0)) (gName 5) (tOrD (dCmp (cEq id) (dCB (one gLen) (aCons (dVar 4) aNil)) (kInt 0)) (dCmp (cOrd oGt) (dVar 5) (dBin ixD (dVar 4) (mNeg (kInt 1))))) (dBin opAdd (dVar 4) (mTup (aCons (dVar 5) aNil))) [4, 5] [5]))
def b_choices : Env → SO := (mSeq (sSet 2 (mLst (aCons (mTup aNil) aNil)))
    (mSeq (sFor (mRg1 (dVar 1)) (gName 3) b_choices_L1)
    (retV 2)))
def m_choices : List DV → R DV := runD 6 b_choices
def b_full_steps : Env → SO := (mSeq (sSet 3 (dCall 2 m_ready_nodes (aCons (dVar 0) (aCons (dVar 2) aNil))))
    (mRet (dCall 2 m_choices (aCons (dVar 3) (aCons (dCB (two (gI2 fun i j => if j < i then j else i)) (aCons (dVar 1) (aCons (dCB (one gLen) (aCons (dVar 3) aNil)) aNil))) aNil)))))
def m_full_steps : List DV → R DV := runD 4 b_full_steps
def b_rests_of_L1 : Env → SO := (mSeq (sSet 4 (dCall 3 m_full_steps (aCons (dVar 0) (aCons (dVar 1) (aCons (dVar 3) aNil)))))
    (sPut 2 (dIf (dCmp (cEq id) (dCB (one gLen) (aCons (dVar 3) aNil)) (dCB (one gLen) (aCons (dVar 0) aNil))) (kInt 0) (dBin opAdd (kInt 1) (dCB (one (gInts fMinL)) (aCons (mLc (mItems (dVar 4)) (gName 5) kTrue (dBin ixD (dVar 2) (dCall 2 m_with_nodes (aCons (dVar 3) (aCons (dVar 5) aNil)))) [5]) aNil)))) (dVar 3)))
def b_rests_of : Env → SO := (mSeq (sSet 2 kDt)
    (mSeq (sFor (mItems (mRevL (dCall 1 m_closed_sets (aCons (dVar 0) aNil)))) (gName 3) b_rests_of_L1)
    (retV 2)))
def m_rests_of : List DV → R DV := runD 6 b_rests_of
def b_least : Env → SO := (mSeq (mExpr (dCall 1 m_need_graph (aCons (dVar 0) aNil)))
    (mRet (dBin ixD (dCall 2 m_rests_of (aCons (dVar 0) (aCons (dVar 1) aNil))) (mTup aNil))))
def m_least : List DV → R DV := runD 2 b_least
def b_step_bound : Env → SO := (mSeq (mExpr (dCall 1 m_need_graph (aCons (dVar 0) aNil)))
    (mRet (dBin (opInt fDiv) (dBin opAdd (dCB (one gLen) (aCons (dVar 0) aNil)) (dBin opMul (dBin (opInt fSub) (dVar 1) (kInt 1)) (dCall 1 m_span_of (aCons (dVar 0) aNil)))) (dVar 1))))
def m_step_bound : List DV → R DV := runD 2 b_step_bound
def b__law_bounds : Env → SO := (mTry (mRet (mTup (aCons (dCall 1 m_work (aCons (dVar 0) aNil)) (aCons (dCall 1 m_span (aCons (dVar 0) aNil)) (aCons (dCall 2 m_area_bound (aCons (dVar 0) (aCons (dVar 1) aNil))) (aCons (dCall 2 m_window_bound (aCons (dVar 0) (aCons (dVar 1) aNil))) (aCons (dCall 2 m_least (aCons (dVar 0) (aCons (dVar 1) aNil))) (aCons (dCall 2 m_step_bound (aCons (dVar 0) (aCons (dVar 1) aNil))) aNil)))))))) [([("InvalidGraph", true)], qNon)])
def m__law_bounds : List DV → R DV := runD 2 b__law_bounds
def b_law_L1 : Env → SO := (mSeq (sSet 8 (dBin opAdd (kInt 1) (dBin (opInt fMod) (dCB (one gInt) (aCons (dBin opAdd (dVar 3) (dBin opMul (kInt 2) (dVar 7))) aNil)) (kInt 6))))
    (mSeq (sSet 9 (dCall 2 m__law_least (aCons (dVar 2) (aCons (dVar 8) aNil))))
    (mSeq (sSet 10 (dCall 2 m__law_window_bound (aCons (dVar 2) (aCons (dVar 8) aNil))))
    (mSeq (sSet 11 (dCall 2 m__law_up (aCons (dVar 6) (aCons (dVar 8) aNil))))
    (mSeq (sSet 12 (dBin (opInt fDiv) (dBin opAdd (dVar 6) (dBin opMul (dBin (opInt fSub) (dVar 8) (kInt 1)) (dVar 4))) (dVar 8)))
    (mSeq (mIf (tOrD (tNotD (dCmp (cOrd oLe) (dCB (two (gI2 fun i j => if j > i then j else i)) (aCons (dVar 11) (aCons (dVar 4) aNil))) (dVar 10))) (tOrD (tNotD (dCmp (cOrd oLe) (dVar 10) (dVar 9))) (tNotD (dCmp (cOrd oLe) (dVar 9) (dVar 12))))) (mRet (kBl false)) mPass)
    (mFrz 6 (mFrz 4 (mFrz 11 (mFrz 10 (mFrz 9 (mFrz 12 (mIf (tNotD (dTru (dCall 2 m__law_same (aCons (dCall 2 m__law_bounds (aCons (dVar 2) (aCons (dVar 8) aNil))) (aCons (mTup (aCons (dVar 6) (aCons (dVar 4) (aCons (dVar 11) (aCons (dVar 10) (aCons (dVar 9) (aCons (dVar 12) aNil))))))) aNil))))) (mRet (kBl false)) mPass)))))))))))))
def b_law : Env → SO := (mSeq (sSet 1 (dCall 1 m__law_pool (aCons (dVar 0) aNil)))
    (mSeq (sSetM 2 (mCall 1 m__law_graph 1 (aCons (kInt 7) aNil)))
    (mSeq (sSetM 3 (m2 opAdd (mP (kInt 1)) (mCall 1 m__law_draw 1 (aCons (kInt 6) aNil))))
    (mSeq (sSet 4 (dCB (one (gInts fMaxL)) (aCons (dBin opAdd (mLst (aCons (kInt 0) aNil)) (mLc (mItems (dCall 1 m__law_heads (aCons (dVar 2) aNil))) (gName 5) kTrue (dBin opAdd (dVar 5) (kInt 1)) [5])) aNil)))
    (mSeq (sSet 6 (dCB (one gLen) (aCons (dVar 2) aNil)))
    (mSeq (sFor (mRg1 (kInt 3)) (gName 7) b_law_L1)
    (mRet (kBl true))))))))
def m_law : List DV → R DV := runD 13 b_law
end K52
namespace K52
open PySem.Spec L2 FK
open PyProof.Rows hiding St
def topS (i : Nat) : PySem.Stmt := PySem.Challenge.pw_forkspan_k52_area_windows_and_span.main.body.getD i (.Pass ⟨0, 0, 0, 0⟩)
abbrev s__law_pool : PySem.Stmt := topS 30
abbrev n__law_pool : List PySem.Str := ["_law_script"]
theorem sc__law_pool : FnScope n__law_pool ["_law_script"] (defScope s__law_pool) := ⟨rfl, rfl, rfl, by decide +kernel, rfl, by decide +kernel, by decide +kernel⟩
theorem ok__law_pool {P : PySem.Program} {w : PySem.World} {K : PySem.W.Frag} {mg : PySem.Str → Option PySem.Value} {base : PySem.Heap} {fa : PySem.Addr} {fd : PySem.FuncData} (F : Fun K "_law_pool" "_law_pool" s__law_pool fa fd) (gf : mg "_law_pool" = some (.ref fa)) (bf : Binds K fd ["_law_script"] []) (z_list : mg "list" = none) :
    CallOk P w K mg base "_law_pool" 1 1 m__law_pool := by
  refine fn_rule F sc__law_pool rfl gf bf fun cdv A outer s H E hr => ?_
  have d : DSs (bodyX P w K mg base n__law_pool "_law_pool" s__law_pool fa cdv A outer s H E) E (defBody s__law_pool) _ :=
      (dss_one (ds_ret (de_add (de_lst (da_cons de_int (da_cons de_int (da_cons de_int da_nil)))) (de_callTy cb_list rfl z_list (by decide +kernel) (da_cons (de_var 0 (pv 0)) da_nil)))))
  exact d
abbrev s__law_draw : PySem.Stmt := topS 31
abbrev n__law_draw : List PySem.Str := ["_law_pool_here", "_law_many", "_law_cell", "_law_digit", "_law_mixed"]
theorem sc__law_draw : FnScope n__law_draw ["_law_pool_here", "_law_many"] (defScope s__law_draw) := ⟨rfl, rfl, rfl, by decide +kernel, rfl, by decide +kernel, by decide +kernel⟩
theorem om__law_draw {P : PySem.Program} {w : PySem.World} {K : PySem.W.Frag} {mg : PySem.Str → Option PySem.Value} {base : PySem.Heap} {fa : PySem.Addr} {fd : PySem.FuncData} (F : Fun K "_law_draw" "_law_draw" s__law_draw fa fd) (gf : mg "_law_draw" = some (.ref fa)) (bf : Binds K fd ["_law_pool_here", "_law_many"] []) (z_len : mg "len" = none) (z_int : mg "int" = none) (z_abs : mg "abs" = none) :
    CallM P w K mg base "_law_draw" 1 1 m__law_draw := by
  refine fn_ruleM F sc__law_draw rfl gf bf fun cdv A outer s H E hr => ?_
  have d : DSps (bodyX P w K mg base n__law_draw "_law_draw" s__law_draw fa cdv A outer s H E) E (defBody s__law_draw) _ :=
      (dps_cons (dp_if (DW.dt (dw_and (dt_c (co_eq hr) (de_ix hr (de_var 0 (pv 0)) de_int) de_int) (dw_and1 (dt_c (co_lt hr) (de_ix hr (de_var 0 (pv 0)) de_int) (de_callB cb_len rfl z_len (by decide +kernel) (da_cons (de_var 0 (pv 0)) da_nil)))))) (dps_cons (dp_set 2 (by decide) (de_ix hr (de_var 0 (pv 0)) (de_ix hr (de_var 0 (pv 0)) de_int)) sc__law_draw.nd rfl (Or.inl rfl))
      (dps_cons (dp_put hr (pv 0) de_int (de_add (de_ix hr (de_var 0 (pv 0)) de_int) de_int))
      (dps_cons (dp_put hr (pv 0) de_int (de_mod (de_callTy cb_int rfl z_int (by decide +kernel) (da_cons (de_add (de_mul (de_ix hr (de_var 0 (pv 0)) de_int) de_int) (de_var 2 (pv 2))) da_nil)) de_int))
      (dps_one (dp_if (dt_c (co_ge hr) (de_callB cb_abs rfl z_abs (by decide +kernel) (da_cons (de_var 2 (pv 2)) da_nil)) (de_pow de_int de_int)) (dps_one (dp_put hr (pv 0) de_int (de_callB cb_abs rfl z_abs (by decide +kernel) (da_cons (de_var 2 (pv 2)) da_nil)))) dps_nil))))) dps_nil)
      (dps_cons (dp_if (dt_c (co_gt hr) (de_ix hr (de_var 0 (pv 0)) de_int) de_int) (dps_cons (dp_set 3 (by decide) (de_mod (de_callTy cb_int rfl z_int (by decide +kernel) (da_cons (de_ix hr (de_var 0 (pv 0)) de_int) da_nil)) (de_var 1 (pv 1))) sc__law_draw.nd rfl (Or.inl rfl))
      (dps_cons (dp_put hr (pv 0) de_int (de_div (de_ix hr (de_var 0 (pv 0)) de_int) (de_var 1 (pv 1))))
      (dps_one (dp_ret (de_var 3 (pv 3)))))) dps_nil)
      (dps_cons (dp_put hr (pv 0) de_int (de_mod (de_callTy cb_int rfl z_int (by decide +kernel) (da_cons (de_add (de_mul (de_ix hr (de_var 0 (pv 0)) de_int) de_int) de_int) da_nil)) de_int))
      (dps_cons (dp_set 4 (by decide) (de_mod (de_callTy cb_int rfl z_int (by decide +kernel) (da_cons (de_add (de_add (de_mul (de_ix hr (de_var 0 (pv 0)) de_int) de_int) (de_div (de_ix hr (de_var 0 (pv 0)) de_int) de_int)) de_int) da_nil)) de_int) sc__law_draw.nd rfl (Or.inl rfl))
      (dps_one (dp_ret (de_mod (de_callTy cb_int rfl z_int (by decide +kernel) (da_cons (de_div (de_var 4 (pv 4)) de_int) da_nil)) (de_var 1 (pv 1)))))))))
  exact d
abbrev s__law_graph : PySem.Stmt := topS 33
abbrev n__law_graph : List PySem.Str := ["_law_pool_here", "_law_most", "_law_dense", "_law_graph_here", "_law_i", "_law_k"]
theorem sc__law_graph : FnScope n__law_graph ["_law_pool_here", "_law_most"] (defScope s__law_graph) := ⟨rfl, rfl, rfl, by decide +kernel, rfl, by decide +kernel, by decide +kernel⟩
theorem om__law_graph {P : PySem.Program} {w : PySem.World} {K : PySem.W.Frag} {mg : PySem.Str → Option PySem.Value} {base : PySem.Heap} {fa : PySem.Addr} {fd : PySem.FuncData} (F : Fun K "_law_graph" "_law_graph" s__law_graph fa fd) (gf : mg "_law_graph" = some (.ref fa)) (bf : Binds K fd ["_law_pool_here", "_law_most"] []) (cm__law_draw : CallM P w K mg base "_law_draw" 1 1 m__law_draw) (z_range : mg "range" = none) (z_tuple : mg "tuple" = none) :
    CallM P w K mg base "_law_graph" 2 1 m__law_graph := by
  refine fn_ruleM F sc__law_graph rfl gf bf fun cdv A outer s H E hr => ?_
  have d : DSps (bodyX P w K mg base n__law_graph "_law_graph" s__law_graph fa cdv A outer s H E) E (defBody s__law_graph) _ :=
      (dps_cons (dp_setM 2 (by decide) (dm_ix hr (dm_of (de_lst (da_cons de_int (da_cons de_int (da_cons de_int (da_cons de_int (da_cons de_int (da_cons de_int da_nil)))))))) (dm_call 0 cm__law_draw (hr.mono (by decide)) rfl body_passes (pv 0) (da_cons de_int da_nil))) sc__law_graph.nd rfl (Or.inr rfl))
      (dps_cons (dp_set 3 (by decide) (de_tup da_nil) sc__law_graph.nd rfl (Or.inl rfl))
      (dps_cons (dp_for 4 (by decide) body_own rfl rfl z_range (dm_call 0 cm__law_draw (hr.mono (by decide)) rfl body_passes (pv 0) (da_cons (de_add (de_var 1 (pv 1)) de_int) da_nil)) sc__law_graph.nd rfl (Or.inl rfl) (dps_one (dp_setM 3 (by decide) (dm_add (dm_of (de_var 3 (pv 3))) (dm_tup1 (dm_callTy cb_tuple rfl z_tuple (by decide +kernel) (dm_lc 0 rfl sc__law_graph.nd (di_range1 rfl z_range (de_var 4 (pv 4))) (blkOk_by (own := [("_law_k", 5)]) (N := n__law_graph) (by kernel_rfl)) (by decide) (fun _ _ _ _ _ => (dg_name 5 sc__law_graph.nd rfl (Or.inl rfl))) (fun _ _ _ _ _ => (dtm_c (co_eq hr) (dm_call 0 cm__law_draw (hr.mono (by decide)) rfl passL (pv 0) (da_cons (de_var 2 (pv 2)) da_nil)) (dm_of de_int))) (fun _ _ _ _ _ => (de_var 5 (pv 5))))))) sc__law_graph.nd rfl (Or.inl rfl))))
      (dps_one (dp_ret (de_var 3 (pv 3)))))))
  exact d
abbrev s__law_ready : PySem.Stmt := topS 34
abbrev n__law_ready : List PySem.Str := ["_law_graph_here", "_law_done", "_law_i", "_law_k"]
theorem sc__law_ready : FnScope n__law_ready ["_law_graph_here", "_law_done"] (defScope s__law_ready) := ⟨rfl, rfl, rfl, by decide +kernel, rfl, by decide +kernel, by decide +kernel⟩
theorem ok__law_ready {P : PySem.Program} {w : PySem.World} {K : PySem.W.Frag} {mg : PySem.Str → Option PySem.Value} {base : PySem.Heap} {fa : PySem.Addr} {fd : PySem.FuncData} (F : Fun K "_law_ready" "_law_ready" s__law_ready fa fd) (gf : mg "_law_ready" = some (.ref fa)) (bf : Binds K fd ["_law_graph_here", "_law_done"] []) (z_len : mg "len" = none) (z_range : mg "range" = none) :
    CallOk P w K mg base "_law_ready" 1 2 m__law_ready := by
  refine fn_rule F sc__law_ready rfl gf bf fun cdv A outer s H E hr => ?_
  have d : DSs (bodyX P w K mg base n__law_ready "_law_ready" s__law_ready fa cdv A outer s H E) E (defBody s__law_ready) _ :=
      (dss_one (ds_ret (de_lc rfl sc__law_ready.nd (di_range1 rfl z_range (de_callB cb_len rfl z_len (by decide +kernel) (da_cons (de_var 0 (pv 0)) da_nil))) (blkOk_by (own := [("_law_i", 2)]) (N := n__law_ready) (by kernel_rfl)) (by decide) (fun _ _ _ _ _ => (dg_name 2 sc__law_ready.nd rfl (Or.inl rfl))) (fun _ _ _ _ _ => (dts_one (DW.dt (dw_and (dt_c (co_ni hr) (de_var 2 (pv 2)) (de_var 1 (pv 1))) (dw_and1 (dt_c (co_eq hr) (de_lc rfl sc__law_ready.nd (di_seq (de_ix hr (de_var 0 (pv 0)) (de_var 2 (pv 2)))) (blkOk_by (own := [("_law_k", 3)]) (N := n__law_ready) (by kernel_rfl)) (by decide) (fun _ _ _ _ _ => (dg_name 3 sc__law_ready.nd rfl (Or.inl rfl))) (fun _ _ _ _ _ => (dts_one (dt_c (co_ni hr) (de_var 3 (pv 3)) (de_var 1 (pv 1))))) (fun _ _ _ _ _ => (de_var 3 (pv 3)))) (de_lst da_nil))))))) (fun _ _ _ _ _ => (de_var 2 (pv 2))))))
  exact d
abbrev s__law_choices : PySem.Stmt := topS 35
abbrev n__law_choices : List PySem.Str := ["_law_rows", "_law_size", "_law_out", "_law_item", "_law_choice"]
theorem sc__law_choices : FnScope n__law_choices ["_law_rows", "_law_size"] (defScope s__law_choices) := ⟨rfl, rfl, rfl, by decide +kernel, rfl, by decide +kernel, by decide +kernel⟩
theorem ok__law_choices {P : PySem.Program} {w : PySem.World} {K : PySem.W.Frag} {mg : PySem.Str → Option PySem.Value} {base : PySem.Heap} {fa : PySem.Addr} {fd : PySem.FuncData} (F : Fun K "_law_choices" "_law_choices" s__law_choices fa fd) (gf : mg "_law_choices" = some (.ref fa)) (bf : Binds K fd ["_law_rows", "_law_size"] []) (z_len : mg "len" = none) :
    CallOk P w K mg base "_law_choices" 1 2 m__law_choices := by
  refine fn_rule F sc__law_choices rfl gf bf fun cdv A outer s H E hr => ?_
  have d : DSs (bodyX P w K mg base n__law_choices "_law_choices" s__law_choices fa cdv A outer s H E) E (defBody s__law_choices) _ :=
      (dss_cons (ds_set 2 (de_lst (da_cons (de_tup da_nil) da_nil)) sc__law_choices.nd rfl (Or.inl rfl))
      (dss_cons (ds_for body_own rfl (di_seq (de_var 0 (pv 0))) (dg_name 3 sc__law_choices.nd rfl (Or.inr rfl)) (dss_one (ds_set 2 (de_add (de_var 2 (pv 2)) (de_lc rfl sc__law_choices.nd (di_seq (de_var 2 (pv 2))) (blkOk_by (own := [("_law_choice", 4)]) (N := n__law_choices) (by kernel_rfl)) (by decide) (fun _ _ _ _ _ => (dg_name 4 sc__law_choices.nd rfl (Or.inl rfl))) (fun _ _ _ _ _ => (dts_one (dt_c (co_lt hr) (de_callB cb_len rfl z_len (by decide +kernel) (da_cons (de_var 4 (pv 4)) da_nil)) (de_var 1 (pv 1))))) (fun _ _ _ _ _ => (de_add (de_var 4 (pv 4)) (de_tup (da_cons (de_var 3 (pv 3)) da_nil)))))) sc__law_choices.nd rfl (Or.inl rfl))))
      (dss_one (ds_ret (de_lc rfl sc__law_choices.nd (di_seq (de_var 2 (pv 2))) (blkOk_by (own := [("_law_choice", 4)]) (N := n__law_choices) (by kernel_rfl)) (by decide) (fun _ _ _ _ _ => (dg_name 4 sc__law_choices.nd rfl (Or.inl rfl))) (fun _ _ _ _ _ => (dts_one (dt_c (co_eq hr) (de_callB cb_len rfl z_len (by decide +kernel) (da_cons (de_var 4 (pv 4)) da_nil)) (de_var 1 (pv 1))))) (fun _ _ _ _ _ => (de_var 4 (pv 4))))))))
  exact d
abbrev s__law_steps : PySem.Stmt := topS 36
abbrev n__law_steps : List PySem.Str := ["_law_graph_here", "_law_cores", "_law_done", "_law_rows", "_law_choice"]
theorem sc__law_steps : FnScope n__law_steps ["_law_graph_here", "_law_cores", "_law_done"] (defScope s__law_steps) := ⟨rfl, rfl, rfl, by decide +kernel, rfl, by decide +kernel, by decide +kernel⟩
theorem ok__law_steps {P : PySem.Program} {w : PySem.World} {K : PySem.W.Frag} {mg : PySem.Str → Option PySem.Value} {base : PySem.Heap} {fa : PySem.Addr} {fd : PySem.FuncData} (F : Fun K "_law_steps" "_law_steps" s__law_steps fa fd) (gf : mg "_law_steps" = some (.ref fa)) (bf : Binds K fd ["_law_graph_here", "_law_cores", "_law_done"] []) (c__law_ready : CallOk P w K mg base "_law_ready" 1 2 m__law_ready) (c__law_choices : CallOk P w K mg base "_law_choices" 1 2 m__law_choices) (z_len : mg "len" = none) (z_min : mg "min" = none) (z_sorted : mg "sorted" = none) (z_tuple : mg "tuple" = none) :
    CallOk P w K mg base "_law_steps" 2 3 m__law_steps := by
  refine fn_rule F sc__law_steps rfl gf bf fun cdv A outer s H E hr => ?_
  have d : DSs (bodyX P w K mg base n__law_steps "_law_steps" s__law_steps fa cdv A outer s H E) E (defBody s__law_steps) _ :=
      (dss_cons (ds_set 3 (de_call c__law_ready (hr.mono (by decide)) rfl body_passes (da_cons (de_var 0 (pv 0)) (da_cons (de_var 2 (pv 2)) da_nil))) sc__law_steps.nd rfl (Or.inl rfl))
      (dss_one (ds_ret (de_lc rfl sc__law_steps.nd (di_seq (de_call c__law_choices (hr.mono (by decide)) rfl body_passes (da_cons (de_var 3 (pv 3)) (da_cons (de_callB (cb_min2 rfl) rfl z_min (by decide +kernel) (da_cons (de_var 1 (pv 1)) (da_cons (de_callB cb_len rfl z_len (by decide +kernel) (da_cons (de_var 3 (pv 3)) da_nil)) da_nil))) da_nil)))) (blkOk_by (own := [("_law_choice", 4)]) (N := n__law_steps) (by kernel_rfl)) (by decide) (fun _ _ _ _ _ => (dg_name 4 sc__law_steps.nd rfl (Or.inl rfl))) (fun _ _ _ _ _ => dts_nil) (fun _ _ _ _ _ => (de_callTy cb_tuple rfl z_tuple (by decide +kernel) (da_cons (de_callB (cb_sortedA hr) rfl z_sorted (by decide +kernel) (da_cons (de_add (de_var 2 (pv 2)) (de_var 4 (pv 4))) da_nil)) da_nil)))))))
  exact d
abbrev s__law_least : PySem.Stmt := topS 37
abbrev n__law_least : List PySem.Str := ["_law_graph_here", "_law_cores", "_law_sets", "_law_steps_here", "_law_more", "_law_done", "_law_new"]
theorem sc__law_least : FnScope n__law_least ["_law_graph_here", "_law_cores"] (defScope s__law_least) := ⟨rfl, rfl, rfl, by decide +kernel, rfl, by decide +kernel, by decide +kernel⟩
theorem ok__law_least {P : PySem.Program} {w : PySem.World} {K : PySem.W.Frag} {mg : PySem.Str → Option PySem.Value} {base : PySem.Heap} {fa : PySem.Addr} {fd : PySem.FuncData} (F : Fun K "_law_least" "_law_least" s__law_least fa fd) (gf : mg "_law_least" = some (.ref fa)) (bf : Binds K fd ["_law_graph_here", "_law_cores"] []) (c__law_steps : CallOk P w K mg base "_law_steps" 2 3 m__law_steps) (z_len : mg "len" = none) (z_range : mg "range" = none) (z_tuple : mg "tuple" = none) :
    CallOk P w K mg base "_law_least" 3 2 m__law_least := by
  refine fn_rule F sc__law_least rfl gf bf fun cdv A outer s H E hr => ?_
  have d : DSs (bodyX P w K mg base n__law_least "_law_least" s__law_least fa cdv A outer s H E) E (defBody s__law_least) _ :=
      (dss_cons (ds_set 2 (de_lst (da_cons (de_tup da_nil) da_nil)) sc__law_least.nd rfl (Or.inl rfl))
      (dss_cons (ds_for body_own rfl (di_range1 rfl z_range (de_add (de_callB cb_len rfl z_len (by decide +kernel) (da_cons (de_var 0 (pv 0)) da_nil)) de_int)) (dg_name 3 sc__law_least.nd rfl (Or.inl rfl)) (dss_cons (ds_if (DW.dt (dw_or (dt_c (co_eq hr) (de_callB cb_len rfl z_len (by decide +kernel) (da_cons (de_ix hr (de_var 2 (pv 2)) de_int) da_nil)) (de_callB cb_len rfl z_len (by decide +kernel) (da_cons (de_var 0 (pv 0)) da_nil))) (dw_or1 (dt_c (co_in hr) (de_tupRg1 rfl rfl z_tuple rfl z_range (de_callB cb_len rfl z_len (by decide +kernel) (da_cons (de_var 0 (pv 0)) da_nil))) (de_var 2 (pv 2)))))) (dss_one (ds_retV 3 (pv 3))) dss_nil)
      (dss_cons (ds_set 4 de_dt sc__law_least.nd rfl (Or.inl rfl))
      (dss_cons (ds_frz 2 (ds_for body_own rfl (di_seq (de_var 2 (pv 2))) (dg_name 5 sc__law_least.nd rfl (Or.inl rfl)) (dss_one (ds_for body_own rfl (di_seq (de_call c__law_steps (hr.mono (by decide)) rfl body_passes (da_cons (de_var 0 (pv 0)) (da_cons (de_var 1 (pv 1)) (da_cons (de_var 5 (pv 5)) da_nil))))) (dg_name 6 sc__law_least.nd rfl (Or.inl rfl)) (dss_one (ds_put 4 hr (pv 4) (de_var 6 (pv 6)) de_int))))))
      (dss_one (ds_setKeys 4 2 5 rfl sc__law_least.nd rfl rfl (sw_true rfl rfl rfl (by decide +kernel)) (pv 4) (blkOk_by (own := [("_law_done", 5)]) (N := n__law_least) (by kernel_rfl)) rfl (fun _ _ _ _ _ => pg_name sc__law_least.nd rfl (Or.inl rfl)) (fun _ _ _ _ _ => pv 5)))))))
      (dss_one (ds_ret (de_callB cb_len rfl z_len (by decide +kernel) (da_cons (de_var 0 (pv 0)) da_nil))))))
  exact d
abbrev s__law_heads : PySem.Stmt := topS 38
abbrev n__law_heads : List PySem.Str := ["_law_graph_here", "_law_out", "_law_row", "_law_k"]
theorem sc__law_heads : FnScope n__law_heads ["_law_graph_here"] (defScope s__law_heads) := ⟨rfl, rfl, rfl, by decide +kernel, rfl, by decide +kernel, by decide +kernel⟩
theorem ok__law_heads {P : PySem.Program} {w : PySem.World} {K : PySem.W.Frag} {mg : PySem.Str → Option PySem.Value} {base : PySem.Heap} {fa : PySem.Addr} {fd : PySem.FuncData} (F : Fun K "_law_heads" "_law_heads" s__law_heads fa fd) (gf : mg "_law_heads" = some (.ref fa)) (bf : Binds K fd ["_law_graph_here"] []) (z_max : mg "max" = none) :
    CallOk P w K mg base "_law_heads" 1 1 m__law_heads := by
  refine fn_rule F sc__law_heads rfl gf bf fun cdv A outer s H E hr => ?_
  have d : DSs (bodyX P w K mg base n__law_heads "_law_heads" s__law_heads fa cdv A outer s H E) E (defBody s__law_heads) _ :=
      (dss_cons (ds_set 1 (de_lst da_nil) sc__law_heads.nd rfl (Or.inr rfl))
      (dss_cons (ds_for body_own rfl (di_seq (de_var 0 (pv 0))) (dg_name 2 sc__law_heads.nd rfl (Or.inl rfl)) (dss_one (ds_append 1 (pv 1) (de_callB (cb_max1 rfl) rfl z_max (by decide +kernel) (da_cons (de_add (de_lst (da_cons de_int da_nil)) (de_lc rfl sc__law_heads.nd (di_seq (de_var 2 (pv 2))) (blkOk_by (own := [("_law_k", 3)]) (N := n__law_heads) (by kernel_rfl)) (by decide) (fun _ _ _ _ _ => (dg_name 3 sc__law_heads.nd rfl (Or.inl rfl))) (fun _ _ _ _ _ => dts_nil) (fun _ _ _ _ _ => (de_add (de_ix hr (de_var 1 (pv 1)) (de_var 3 (pv 3))) de_int)))) da_nil)))))
      (dss_one (ds_retV 1 (pv 1)))))
  exact d
abbrev s__law_tails : PySem.Stmt := topS 39
abbrev n__law_tails : List PySem.Str := ["_law_graph_here", "_law_out", "_law_i", "_law_k"]
theorem sc__law_tails : FnScope n__law_tails ["_law_graph_here"] (defScope s__law_tails) := ⟨rfl, rfl, rfl, by decide +kernel, rfl, by decide +kernel, by decide +kernel⟩
theorem ok__law_tails {P : PySem.Program} {w : PySem.World} {K : PySem.W.Frag} {mg : PySem.Str → Option PySem.Value} {base : PySem.Heap} {fa : PySem.Addr} {fd : PySem.FuncData} (F : Fun K "_law_tails" "_law_tails" s__law_tails fa fd) (gf : mg "_law_tails" = some (.ref fa)) (bf : Binds K fd ["_law_graph_here"] []) (z_len : mg "len" = none) (z_reversed : mg "reversed" = none) (z_range : mg "range" = none) (z_max : mg "max" = none) :
    CallOk P w K mg base "_law_tails" 1 1 m__law_tails := by
  refine fn_rule F sc__law_tails rfl gf bf fun cdv A outer s H E hr => ?_
  have d : DSs (bodyX P w K mg base n__law_tails "_law_tails" s__law_tails fa cdv A outer s H E) E (defBody s__law_tails) _ :=
      (dss_cons (ds_set 1 (de_mul (de_lst (da_cons de_int da_nil)) (de_callB cb_len rfl z_len (by decide +kernel) (da_cons (de_var 0 (pv 0)) da_nil))) sc__law_tails.nd rfl (Or.inl rfl))
      (dss_cons (ds_for body_own rfl (di_revRg z_reversed z_range (de_callB cb_len rfl z_len (by decide +kernel) (da_cons (de_var 0 (pv 0)) da_nil))) (dg_name 2 sc__law_tails.nd rfl (Or.inl rfl)) (dss_one (ds_for body_own rfl (di_seq (de_ix hr (de_var 0 (pv 0)) (de_var 2 (pv 2)))) (dg_name 3 sc__law_tails.nd rfl (Or.inl rfl)) (dss_one (ds_put 1 hr (pv 1) (de_var 3 (pv 3)) (de_callB (cb_max2 rfl) rfl z_max (by decide +kernel) (da_cons (de_ix hr (de_var 1 (pv 1)) (de_var 3 (pv 3))) (da_cons (de_add (de_ix hr (de_var 1 (pv 1)) (de_var 2 (pv 2))) de_int) da_nil))))))))
      (dss_one (ds_retV 1 (pv 1)))))
  exact d
abbrev s__law_up : PySem.Stmt := topS 40
abbrev n__law_up : List PySem.Str := ["_law_many", "_law_cores"]
theorem sc__law_up : FnScope n__law_up ["_law_many", "_law_cores"] (defScope s__law_up) := ⟨rfl, rfl, rfl, by decide +kernel, rfl, by decide +kernel, by decide +kernel⟩
theorem ok__law_up {P : PySem.Program} {w : PySem.World} {K : PySem.W.Frag} {mg : PySem.Str → Option PySem.Value} {base : PySem.Heap} {fa : PySem.Addr} {fd : PySem.FuncData} (F : Fun K "_law_up" "_law_up" s__law_up fa fd) (gf : mg "_law_up" = some (.ref fa)) (bf : Binds K fd ["_law_many", "_law_cores"] []) :
    CallOk P w K mg base "_law_up" 1 2 m__law_up := by
  refine fn_rule F sc__law_up rfl gf bf fun cdv A outer s H E hr => ?_
  have d : DSs (bodyX P w K mg base n__law_up "_law_up" s__law_up fa cdv A outer s H E) E (defBody s__law_up) _ :=
      (dss_one (ds_ret (de_div (de_sub (de_add (de_var 0 (pv 0)) (de_var 1 (pv 1))) de_int) (de_var 1 (pv 1)))))
  exact d
abbrev s__law_window : PySem.Stmt := topS 41
abbrev n__law_window : List PySem.Str := ["_law_graph_here", "_law_cores", "_law_a", "_law_b", "_law_heads_here", "_law_tails_here", "_law_many", "_law_i"]
theorem sc__law_window : FnScope n__law_window ["_law_graph_here", "_law_cores", "_law_a", "_law_b"] (defScope s__law_window) := ⟨rfl, rfl, rfl, by decide +kernel, rfl, by decide +kernel, by decide +kernel⟩
theorem ok__law_window {P : PySem.Program} {w : PySem.World} {K : PySem.W.Frag} {mg : PySem.Str → Option PySem.Value} {base : PySem.Heap} {fa : PySem.Addr} {fd : PySem.FuncData} (F : Fun K "_law_window" "_law_window" s__law_window fa fd) (gf : mg "_law_window" = some (.ref fa)) (bf : Binds K fd ["_law_graph_here", "_law_cores", "_law_a", "_law_b"] []) (c__law_heads : CallOk P w K mg base "_law_heads" 1 1 m__law_heads) (c__law_tails : CallOk P w K mg base "_law_tails" 1 1 m__law_tails) (c__law_up : CallOk P w K mg base "_law_up" 1 2 m__law_up) (z_len : mg "len" = none) (z_range : mg "range" = none) :
    CallOk P w K mg base "_law_window" 2 4 m__law_window := by
  refine fn_rule F sc__law_window rfl gf bf fun cdv A outer s H E hr => ?_
  have d : DSs (bodyX P w K mg base n__law_window "_law_window" s__law_window fa cdv A outer s H E) E (defBody s__law_window) _ :=
      (dss_cons (ds_set 4 (de_call c__law_heads (hr.mono (by decide)) rfl body_passes (da_cons (de_var 0 (pv 0)) da_nil)) sc__law_window.nd rfl (Or.inr rfl))
      (dss_cons (ds_set 5 (de_call c__law_tails (hr.mono (by decide)) rfl body_passes (da_cons (de_var 0 (pv 0)) da_nil)) sc__law_window.nd rfl (Or.inr rfl))
      (dss_cons (ds_set 6 (de_callB cb_len rfl z_len (by decide +kernel) (da_cons (de_lc rfl sc__law_window.nd (di_range1 rfl z_range (de_callB cb_len rfl z_len (by decide +kernel) (da_cons (de_var 0 (pv 0)) da_nil))) (blkOk_by (own := [("_law_i", 7)]) (N := n__law_window) (by kernel_rfl)) (by decide) (fun _ _ _ _ _ => (dg_name 7 sc__law_window.nd rfl (Or.inl rfl))) (fun _ _ _ _ _ => (dts_one (DW.dt (dw_and (dt_c (co_ge hr) (de_ix hr (de_var 4 (pv 4)) (de_var 7 (pv 7))) (de_var 2 (pv 2))) (dw_and1 (dt_c (co_ge hr) (de_ix hr (de_var 5 (pv 5)) (de_var 7 (pv 7))) (de_var 3 (pv 3)))))))) (fun _ _ _ _ _ => (de_var 7 (pv 7)))) da_nil)) sc__law_window.nd rfl (Or.inl rfl))
      (dss_cons (ds_if (dt_c (co_eq hr) (de_var 6 (pv 6)) de_int) (dss_one (ds_ret de_int)) dss_nil)
      (dss_one (ds_ret (de_add (de_add (de_var 2 (pv 2)) (de_call c__law_up (hr.mono (by decide)) rfl body_passes (da_cons (de_var 6 (pv 6)) (da_cons (de_var 1 (pv 1)) da_nil)))) (de_var 3 (pv 3)))))))))
  exact d
abbrev s__law_window_bound : PySem.Stmt := topS 42
abbrev n__law_window_bound : List PySem.Str := ["_law_graph_here", "_law_cores", "_law_out", "_law_a", "_law_b"]
theorem sc__law_window_bound : FnScope n__law_window_bound ["_law_graph_here", "_law_cores"] (defScope s__law_window_bound) := ⟨rfl, rfl, rfl, by decide +kernel, rfl, by decide +kernel, by decide +kernel⟩
theorem ok__law_window_bound {P : PySem.Program} {w : PySem.World} {K : PySem.W.Frag} {mg : PySem.Str → Option PySem.Value} {base : PySem.Heap} {fa : PySem.Addr} {fd : PySem.FuncData} (F : Fun K "_law_window_bound" "_law_window_bound" s__law_window_bound fa fd) (gf : mg "_law_window_bound" = some (.ref fa)) (bf : Binds K fd ["_law_graph_here", "_law_cores"] []) (c__law_window : CallOk P w K mg base "_law_window" 2 4 m__law_window) (z_len : mg "len" = none) (z_range : mg "range" = none) (z_max : mg "max" = none) :
    CallOk P w K mg base "_law_window_bound" 3 2 m__law_window_bound := by
  refine fn_rule F sc__law_window_bound rfl gf bf fun cdv A outer s H E hr => ?_
  have d : DSs (bodyX P w K mg base n__law_window_bound "_law_window_bound" s__law_window_bound fa cdv A outer s H E) E (defBody s__law_window_bound) _ :=
      (dss_cons (ds_set 2 de_int sc__law_window_bound.nd rfl (Or.inl rfl))
      (dss_cons (ds_for body_own rfl (di_range1 rfl z_range (de_callB cb_len rfl z_len (by decide +kernel) (da_cons (de_var 0 (pv 0)) da_nil))) (dg_name 3 sc__law_window_bound.nd rfl (Or.inl rfl)) (dss_one (ds_for body_own rfl (di_range1 rfl z_range (de_callB cb_len rfl z_len (by decide +kernel) (da_cons (de_var 0 (pv 0)) da_nil))) (dg_name 4 sc__law_window_bound.nd rfl (Or.inl rfl)) (dss_one (ds_set 2 (de_callB (cb_max2 rfl) rfl z_max (by decide +kernel) (da_cons (de_var 2 (pv 2)) (da_cons (de_call c__law_window (hr.mono (by decide)) rfl body_passes (da_cons (de_var 0 (pv 0)) (da_cons (de_var 1 (pv 1)) (da_cons (de_var 3 (pv 3)) (da_cons (de_var 4 (pv 4)) da_nil))))) da_nil))) sc__law_window_bound.nd rfl (Or.inl rfl))))))
      (dss_one (ds_retV 2 (pv 2)))))
  exact d
abbrev s__law_same : PySem.Stmt := topS 32
abbrev n__law_same : List PySem.Str := ["_law_actual", "_law_value", "_law_k"]
theorem sc__law_same : FnScope n__law_same ["_law_actual", "_law_value"] (defScope s__law_same) := ⟨rfl, rfl, rfl, by decide +kernel, rfl, by decide +kernel, by decide +kernel⟩
theorem ok__law_same {P : PySem.Program} {w : PySem.World} {K : PySem.W.Frag} {mg : PySem.Str → Option PySem.Value} {base : PySem.Heap} {fa : PySem.Addr} {fd : PySem.FuncData} (F : Fun K "_law_same" "_law_same" s__law_same fa fd) (gf : mg "_law_same" = some (.ref fa)) (bf : Binds K fd ["_law_actual", "_law_value"] []) (z_isinstance : mg "isinstance" = none) (z_int : mg "int" = none) (z_bool : mg "bool" = none) (z_str : mg "str" = none) (z_len : mg "len" = none) (z_tuple : mg "tuple" = none) (z_range : mg "range" = none) : ∀ j : Nat,
    CallOk P w K mg base "_law_same" (0 + j) 2 (l__law_same j)
  | 0 => call_zero gf F.kp bf rfl
  | j + 1 => by
    have c_self := ok__law_same (P := P) (w := w) (base := base) F gf bf z_isinstance z_int z_bool z_str z_len z_tuple z_range j
    refine fn_rule (k := 0 + j) F sc__law_same rfl gf bf fun cdv A outer s H E hr => ?_
    have d : DSs (bodyX P w K mg base n__law_same "_law_same" s__law_same fa cdv A outer s H E) E (defBody s__law_same) _ :=
      (dss_cons (ds_if (dt_truth (de_isinst (x := "int") (T := "int") rfl z_isinstance (de_var 1 (pv 1)) rfl z_int (by decide +kernel))) (dss_one (ds_ret (de_and (de_isinst (x := "int") (T := "int") rfl z_isinstance (de_var 0 (pv 0)) rfl z_int (by decide +kernel)) (de_and (de_not (de_isinst (x := "bool") (T := "bool") rfl z_isinstance (de_var 0 (pv 0)) rfl z_bool (by decide +kernel))) (de_one (de_c (co_eq hr) (de_var 0 (pv 0)) (de_var 1 (pv 1)))))))) dss_nil)
      (dss_cons (ds_if (dt_truth (de_isinst (x := "str") (T := "str") rfl z_isinstance (de_var 1 (pv 1)) rfl z_str (by decide +kernel))) (dss_one (ds_ret (de_and (de_isinst (x := "str") (T := "str") rfl z_isinstance (de_var 0 (pv 0)) rfl z_str (by decide +kernel)) (de_one (de_c (co_eq hr) (de_var 0 (pv 0)) (de_var 1 (pv 1))))))) dss_nil)
      (dss_cons (ds_if (DW.dt (dw_or (dt_not (dt_truth (de_isinst (x := "tuple") (T := "tuple") rfl z_isinstance (de_var 0 (pv 0)) rfl z_tuple (by decide +kernel)))) (dw_or1 (dt_c (co_ne hr) (de_callB cb_len rfl z_len (by decide +kernel) (da_cons (de_var 0 (pv 0)) da_nil)) (de_callB cb_len rfl z_len (by decide +kernel) (da_cons (de_var 1 (pv 1)) da_nil)))))) (dss_one (ds_ret de_bl)) dss_nil)
      (dss_cons (ds_for body_own rfl (di_range1 rfl z_range (de_callB cb_len rfl z_len (by decide +kernel) (da_cons (de_var 1 (pv 1)) da_nil))) (dg_name 2 sc__law_same.nd rfl (Or.inl rfl)) (dss_one (ds_if (dt_not (dt_truth (de_call c_self hr rfl body_passes (da_cons (de_ix hr (de_var 0 (pv 0)) (de_var 2 (pv 2))) (da_cons (de_ix hr (de_var 1 (pv 1)) (de_var 2 (pv 2))) da_nil))))) (dss_one (ds_ret de_bl)) dss_nil)))
      (dss_one (ds_ret de_bl))))))
    exact d
abbrev s_is_whole : PySem.Stmt := topS 4
abbrev n_is_whole : List PySem.Str := ["value"]
theorem sc_is_whole : FnScope n_is_whole ["value"] (defScope s_is_whole) := ⟨rfl, rfl, rfl, by decide +kernel, rfl, by decide +kernel, by decide +kernel⟩
theorem ok_is_whole {P : PySem.Program} {w : PySem.World} {K : PySem.W.Frag} {mg : PySem.Str → Option PySem.Value} {base : PySem.Heap} {fa : PySem.Addr} {fd : PySem.FuncData} (F : Fun K "is_whole" "is_whole" s_is_whole fa fd) (gf : mg "is_whole" = some (.ref fa)) (bf : Binds K fd ["value"] []) (z_isinstance : mg "isinstance" = none) (z_bool : mg "bool" = none) (z_int : mg "int" = none) :
    CallOk P w K mg base "is_whole" 1 1 m_is_whole := by
  refine fn_rule F sc_is_whole rfl gf bf fun cdv A outer s H E hr => ?_
  have d : DSs (bodyX P w K mg base n_is_whole "is_whole" s_is_whole fa cdv A outer s H E) E (defBody s_is_whole) _ :=
      (dss_one (ds_ret (de_and (de_isinst (x := "int") (T := "int") rfl z_isinstance (de_var 0 (pv 0)) rfl z_int (by decide +kernel)) (de_one (de_not (de_isinst (x := "bool") (T := "bool") rfl z_isinstance (de_var 0 (pv 0)) rfl z_bool (by decide +kernel)))))))
  exact d
abbrev s__is_row : PySem.Stmt := topS 5
abbrev n__is_row : List PySem.Str := ["value", "at", "one", "k"]
theorem sc__is_row : FnScope n__is_row ["value", "at"] (defScope s__is_row) := ⟨rfl, rfl, rfl, by decide +kernel, rfl, by decide +kernel, by decide +kernel⟩
theorem ok__is_row {P : PySem.Program} {w : PySem.World} {K : PySem.W.Frag} {mg : PySem.Str → Option PySem.Value} {base : PySem.Heap} {fa : PySem.Addr} {fd : PySem.FuncData} (F : Fun K "_is_row" "_is_row" s__is_row fa fd) (gf : mg "_is_row" = some (.ref fa)) (bf : Binds K fd ["value", "at"] []) (c_is_whole : CallOk P w K mg base "is_whole" 1 1 m_is_whole) (z_all : mg "all" = none) (z_isinstance : mg "isinstance" = none) (z_tuple : mg "tuple" = none) (z_len : mg "len" = none) (z_range : mg "range" = none) :
    CallOk P w K mg base "_is_row" 2 2 m__is_row := by
  refine fn_rule F sc__is_row rfl gf bf fun cdv A outer s H E hr => ?_
  have d : DSs (bodyX P w K mg base n__is_row "_is_row" s__is_row fa cdv A outer s H E) E (defBody s__is_row) _ :=
      (dss_cons (ds_if (DW.dt (dw_or (dt_not (dt_truth (de_isinst (x := "tuple") (T := "tuple") rfl z_isinstance (de_var 0 (pv 0)) rfl z_tuple (by decide +kernel)))) (dw_or1 (dt_not (dt_truth (de_callB (cb_all rfl) rfl z_all (by decide +kernel) (da_cons (de_lc rfl sc__is_row.nd (di_seq (de_var 0 (pv 0))) (blkOk_by (own := [("one", 2)]) (N := n__is_row) (by kernel_rfl)) (by decide) (fun _ _ _ _ _ => (dg_name 2 sc__is_row.nd rfl (Or.inl rfl))) (fun _ _ _ _ _ => dts_nil) (fun _ _ _ _ _ => (de_and (de_call c_is_whole (hr.mono (by decide)) rfl passL (da_cons (de_var 2 (pv 2)) da_nil)) (de_one (de_chain (co_le hr) (co_lt hr) de_int (de_var 2 (pv 2)) (de_var 1 (pv 1))))))) da_nil))))))) (dss_one (ds_ret de_bl)) dss_nil)
      (dss_one (ds_ret (de_callB (cb_all rfl) rfl z_all (by decide +kernel) (da_cons (de_lc rfl sc__is_row.nd (di_range1 rfl z_range (de_sub (de_callB cb_len rfl z_len (by decide +kernel) (da_cons (de_var 0 (pv 0)) da_nil)) de_int)) (blkOk_by (own := [("k", 3)]) (N := n__is_row) (by kernel_rfl)) (by decide) (fun _ _ _ _ _ => (dg_name 3 sc__is_row.nd rfl (Or.inl rfl))) (fun _ _ _ _ _ => dts_nil) (fun _ _ _ _ _ => (de_c (co_lt hr) (de_ix hr (de_var 0 (pv 0)) (de_var 3 (pv 3))) (de_ix hr (de_var 0 (pv 0)) (de_add (de_var 3 (pv 3)) de_int))))) da_nil)))))
  exact d
abbrev s_is_graph : PySem.Stmt := topS 6
abbrev n_is_graph : List PySem.Str := ["value", "at", "row"]
theorem sc_is_graph : FnScope n_is_graph ["value"] (defScope s_is_graph) := ⟨rfl, rfl, rfl, by decide +kernel, rfl, by decide +kernel, by decide +kernel⟩
theorem ok_is_graph {P : PySem.Program} {w : PySem.World} {K : PySem.W.Frag} {mg : PySem.Str → Option PySem.Value} {base : PySem.Heap} {fa : PySem.Addr} {fd : PySem.FuncData} (F : Fun K "is_graph" "is_graph" s_is_graph fa fd) (gf : mg "is_graph" = some (.ref fa)) (bf : Binds K fd ["value"] []) (c__is_row : CallOk P w K mg base "_is_row" 2 2 m__is_row) (z_enumerate : mg "enumerate" = none) (z_all : mg "all" = none) (z_isinstance : mg "isinstance" = none) (z_tuple : mg "tuple" = none) :
    CallOk P w K mg base "is_graph" 3 1 m_is_graph := by
  refine fn_rule F sc_is_graph rfl gf bf fun cdv A outer s H E hr => ?_
  have d : DSs (bodyX P w K mg base n_is_graph "is_graph" s_is_graph fa cdv A outer s H E) E (defBody s_is_graph) _ :=
      (dss_one (ds_ret (de_and (de_isinst (x := "tuple") (T := "tuple") rfl z_isinstance (de_var 0 (pv 0)) rfl z_tuple (by decide +kernel)) (de_one (de_callB (cb_all rfl) rfl z_all (by decide +kernel) (da_cons (de_lc rfl sc_is_graph.nd (di_enum rfl z_enumerate (de_var 0 (pv 0))) (blkOk_by (own := [("at", 1), ("row", 2)]) (N := n_is_graph) (by kernel_rfl)) (by decide) (fun _ _ _ _ _ => (dg_tup (n := 2) rfl (dgs_cons (dg_name 1 sc_is_graph.nd rfl (Or.inl rfl)) (dgs_cons (dg_name 2 sc_is_graph.nd rfl (Or.inl rfl)) dgs_nil)))) (fun _ _ _ _ _ => dts_nil) (fun _ _ _ _ _ => (de_call c__is_row (hr.mono (by decide)) rfl passL (da_cons (de_var 2 (pv 2)) (da_cons (de_var 1 (pv 1)) da_nil))))) da_nil))))))
  exact d
abbrev s_need_graph : PySem.Stmt := topS 7
abbrev n_need_graph : List PySem.Str := ["graph"]
theorem sc_need_graph : FnScope n_need_graph ["graph"] (defScope s_need_graph) := ⟨rfl, rfl, rfl, by decide +kernel, rfl, by decide +kernel, by decide +kernel⟩
theorem ok_need_graph {P : PySem.Program} {w : PySem.World} {K : PySem.W.Frag} {mg : PySem.Str → Option PySem.Value} {base : PySem.Heap} {fa : PySem.Addr} {fd : PySem.FuncData} (F : Fun K "need_graph" "need_graph" s_need_graph fa fd) (gf : mg "need_graph" = some (.ref fa)) (bf : Binds K fd ["graph"] []) (c_is_graph : CallOk P w K mg base "is_graph" 3 1 m_is_graph) (e_InvalidGraph : ErrK P w K mg base "InvalidGraph" ["value"]) :
    CallOk P w K mg base "need_graph" 4 1 m_need_graph := by
  refine fn_rule F sc_need_graph rfl gf bf fun cdv A outer s H E hr => ?_
  have d : DSs (bodyX P w K mg base n_need_graph "need_graph" s_need_graph fa cdv A outer s H E) E (defBody s_need_graph) _ :=
      (dss_one (ds_if (dt_not (dt_truth (de_call c_is_graph (hr.mono (by decide)) rfl body_passes (da_cons (de_var 0 (pv 0)) da_nil)))) (dss_one (ds_raise e_InvalidGraph rfl (hr.mono (by decide)) body_takes rfl (da_cons (de_var 0 (pv 0)) da_nil))) dss_nil))
  exact d
abbrev s_work : PySem.Stmt := topS 8
abbrev n_work : List PySem.Str := ["graph"]
theorem sc_work : FnScope n_work ["graph"] (defScope s_work) := ⟨rfl, rfl, rfl, by decide +kernel, rfl, by decide +kernel, by decide +kernel⟩
theorem ok_work {P : PySem.Program} {w : PySem.World} {K : PySem.W.Frag} {mg : PySem.Str → Option PySem.Value} {base : PySem.Heap} {fa : PySem.Addr} {fd : PySem.FuncData} (F : Fun K "work" "work" s_work fa fd) (gf : mg "work" = some (.ref fa)) (bf : Binds K fd ["graph"] []) (c_need_graph : CallOk P w K mg base "need_graph" 4 1 m_need_graph) (z_len : mg "len" = none) :
    CallOk P w K mg base "work" 5 1 m_work := by
  refine fn_rule F sc_work rfl gf bf fun cdv A outer s H E hr => ?_
  have d : DSs (bodyX P w K mg base n_work "work" s_work fa cdv A outer s H E) E (defBody s_work) _ :=
      (dss_cons (ds_expr (de_call c_need_graph (hr.mono (by decide)) rfl body_passes (da_cons (de_var 0 (pv 0)) da_nil)))
      (dss_one (ds_ret (de_callB cb_len rfl z_len (by decide +kernel) (da_cons (de_var 0 (pv 0)) da_nil)))))
  exact d
abbrev s_heads_of : PySem.Stmt := topS 9
abbrev n_heads_of : List PySem.Str := ["graph", "found", "row", "one"]
theorem sc_heads_of : FnScope n_heads_of ["graph"] (defScope s_heads_of) := ⟨rfl, rfl, rfl, by decide +kernel, rfl, by decide +kernel, by decide +kernel⟩
theorem ok_heads_of {P : PySem.Program} {w : PySem.World} {K : PySem.W.Frag} {mg : PySem.Str → Option PySem.Value} {base : PySem.Heap} {fa : PySem.Addr} {fd : PySem.FuncData} (F : Fun K "heads_of" "heads_of" s_heads_of fa fd) (gf : mg "heads_of" = some (.ref fa)) (bf : Binds K fd ["graph"] []) (z_max : mg "max" = none) :
    CallOk P w K mg base "heads_of" 1 1 m_heads_of := by
  refine fn_rule F sc_heads_of rfl gf bf fun cdv A outer s H E hr => ?_
  have d : DSs (bodyX P w K mg base n_heads_of "heads_of" s_heads_of fa cdv A outer s H E) E (defBody s_heads_of) _ :=
      (dss_cons (ds_set 1 (de_lst da_nil) sc_heads_of.nd rfl (Or.inr rfl))
      (dss_cons (ds_for body_own rfl (di_seq (de_var 0 (pv 0))) (dg_name 2 sc_heads_of.nd rfl (Or.inl rfl)) (dss_one (ds_append 1 (pv 1) (de_maxDef rfl rfl z_max (by decide +kernel) hr (de_lc rfl sc_heads_of.nd (di_seq (de_var 2 (pv 2))) (blkOk_by (own := [("one", 3)]) (N := n_heads_of) (by kernel_rfl)) (by decide) (fun _ _ _ _ _ => (dg_name 3 sc_heads_of.nd rfl (Or.inl rfl))) (fun _ _ _ _ _ => dts_nil) (fun _ _ _ _ _ => (de_add (de_ix hr (de_var 1 (pv 1)) (de_var 3 (pv 3))) de_int))) de_int))))
      (dss_one (ds_retV 1 (pv 1)))))
  exact d
abbrev s_span_of : PySem.Stmt := topS 11
abbrev n_span_of : List PySem.Str := ["graph", "head"]
theorem sc_span_of : FnScope n_span_of ["graph"] (defScope s_span_of) := ⟨rfl, rfl, rfl, by decide +kernel, rfl, by decide +kernel, by decide +kernel⟩
theorem ok_span_of {P : PySem.Program} {w : PySem.World} {K : PySem.W.Frag} {mg : PySem.Str → Option PySem.Value} {base : PySem.Heap} {fa : PySem.Addr} {fd : PySem.FuncData} (F : Fun K "span_of" "span_of" s_span_of fa fd) (gf : mg "span_of" = some (.ref fa)) (bf : Binds K fd ["graph"] []) (c_heads_of : CallOk P w K mg base "heads_of" 1 1 m_heads_of) (z_max : mg "max" = none) :
    CallOk P w K mg base "span_of" 2 1 m_span_of := by
  refine fn_rule F sc_span_of rfl gf bf fun cdv A outer s H E hr => ?_
  have d : DSs (bodyX P w K mg base n_span_of "span_of" s_span_of fa cdv A outer s H E) E (defBody s_span_of) _ :=
      (dss_one (ds_ret (de_maxDef rfl rfl z_max (by decide +kernel) hr (de_lc rfl sc_span_of.nd (di_seq (de_call c_heads_of (hr.mono (by decide)) rfl body_passes (da_cons (de_var 0 (pv 0)) da_nil))) (blkOk_by (own := [("head", 1)]) (N := n_span_of) (by kernel_rfl)) (by decide) (fun _ _ _ _ _ => (dg_name 1 sc_span_of.nd rfl (Or.inl rfl))) (fun _ _ _ _ _ => dts_nil) (fun _ _ _ _ _ => (de_add (de_var 1 (pv 1)) de_int))) de_int)))
  exact d
abbrev s_span : PySem.Stmt := topS 12
abbrev n_span : List PySem.Str := ["graph"]
theorem sc_span : FnScope n_span ["graph"] (defScope s_span) := ⟨rfl, rfl, rfl, by decide +kernel, rfl, by decide +kernel, by decide +kernel⟩
theorem ok_span {P : PySem.Program} {w : PySem.World} {K : PySem.W.Frag} {mg : PySem.Str → Option PySem.Value} {base : PySem.Heap} {fa : PySem.Addr} {fd : PySem.FuncData} (F : Fun K "span" "span" s_span fa fd) (gf : mg "span" = some (.ref fa)) (bf : Binds K fd ["graph"] []) (c_need_graph : CallOk P w K mg base "need_graph" 4 1 m_need_graph) (c_span_of : CallOk P w K mg base "span_of" 2 1 m_span_of) :
    CallOk P w K mg base "span" 5 1 m_span := by
  refine fn_rule F sc_span rfl gf bf fun cdv A outer s H E hr => ?_
  have d : DSs (bodyX P w K mg base n_span "span" s_span fa cdv A outer s H E) E (defBody s_span) _ :=
      (dss_cons (ds_expr (de_call c_need_graph (hr.mono (by decide)) rfl body_passes (da_cons (de_var 0 (pv 0)) da_nil)))
      (dss_one (ds_ret (de_call c_span_of (hr.mono (by decide)) rfl body_passes (da_cons (de_var 0 (pv 0)) da_nil)))))
  exact d
abbrev s_area_of : PySem.Stmt := topS 22
abbrev n_area_of : List PySem.Str := ["graph", "cores"]
theorem sc_area_of : FnScope n_area_of ["graph", "cores"] (defScope s_area_of) := ⟨rfl, rfl, rfl, by decide +kernel, rfl, by decide +kernel, by decide +kernel⟩
theorem ok_area_of {P : PySem.Program} {w : PySem.World} {K : PySem.W.Frag} {mg : PySem.Str → Option PySem.Value} {base : PySem.Heap} {fa : PySem.Addr} {fd : PySem.FuncData} (F : Fun K "area_of" "area_of" s_area_of fa fd) (gf : mg "area_of" = some (.ref fa)) (bf : Binds K fd ["graph", "cores"] []) (z_len : mg "len" = none) :
    CallOk P w K mg base "area_of" 1 2 m_area_of := by
  refine fn_rule F sc_area_of rfl gf bf fun cdv A outer s H E hr => ?_
  have d : DSs (bodyX P w K mg base n_area_of "area_of" s_area_of fa cdv A outer s H E) E (defBody s_area_of) _ :=
      (dss_one (ds_ret (de_div (de_sub (de_add (de_callB cb_len rfl z_len (by decide +kernel) (da_cons (de_var 0 (pv 0)) da_nil)) (de_var 1 (pv 1))) de_int) (de_var 1 (pv 1)))))
  exact d
abbrev s_area_bound : PySem.Stmt := topS 27
abbrev n_area_bound : List PySem.Str := ["graph", "cores"]
theorem sc_area_bound : FnScope n_area_bound ["graph", "cores"] (defScope s_area_bound) := ⟨rfl, rfl, rfl, by decide +kernel, rfl, by decide +kernel, by decide +kernel⟩
theorem ok_area_bound {P : PySem.Program} {w : PySem.World} {K : PySem.W.Frag} {mg : PySem.Str → Option PySem.Value} {base : PySem.Heap} {fa : PySem.Addr} {fd : PySem.FuncData} (F : Fun K "area_bound" "area_bound" s_area_bound fa fd) (gf : mg "area_bound" = some (.ref fa)) (bf : Binds K fd ["graph", "cores"] []) (c_need_graph : CallOk P w K mg base "need_graph" 4 1 m_need_graph) (c_area_of : CallOk P w K mg base "area_of" 1 2 m_area_of) :
    CallOk P w K mg base "area_bound" 5 2 m_area_bound := by
  refine fn_rule F sc_area_bound rfl gf bf fun cdv A outer s H E hr => ?_
  have d : DSs (bodyX P w K mg base n_area_bound "area_bound" s_area_bound fa cdv A outer s H E) E (defBody s_area_bound) _ :=
      (dss_cons (ds_expr (de_call c_need_graph (hr.mono (by decide)) rfl body_passes (da_cons (de_var 0 (pv 0)) da_nil)))
      (dss_one (ds_ret (de_call c_area_of (hr.mono (by decide)) rfl body_passes (da_cons (de_var 0 (pv 0)) (da_cons (de_var 1 (pv 1)) da_nil))))))
  exact d
abbrev s_tails_of : PySem.Stmt := topS 10
abbrev n_tails_of : List PySem.Str := ["graph", "found", "_", "at", "one"]
theorem sc_tails_of : FnScope n_tails_of ["graph"] (defScope s_tails_of) := ⟨rfl, rfl, rfl, by decide +kernel, rfl, by decide +kernel, by decide +kernel⟩
theorem ok_tails_of {P : PySem.Program} {w : PySem.World} {K : PySem.W.Frag} {mg : PySem.Str → Option PySem.Value} {base : PySem.Heap} {fa : PySem.Addr} {fd : PySem.FuncData} (F : Fun K "tails_of" "tails_of" s_tails_of fa fd) (gf : mg "tails_of" = some (.ref fa)) (bf : Binds K fd ["graph"] []) (z_len : mg "len" = none) (z_range : mg "range" = none) (z_max : mg "max" = none) :
    CallOk P w K mg base "tails_of" 1 1 m_tails_of := by
  refine fn_rule F sc_tails_of rfl gf bf fun cdv A outer s H E hr => ?_
  have d : DSs (bodyX P w K mg base n_tails_of "tails_of" s_tails_of fa cdv A outer s H E) E (defBody s_tails_of) _ :=
      (dss_cons (ds_setLc 1 rfl sc_tails_of.nd rfl rfl (sw_true rfl rfl rfl (by decide +kernel)) (di_seq (de_var 0 (pv 0))) (blkOk_by (own := [("_", 2)]) (N := n_tails_of) (by kernel_rfl)) (by decide) (fun _ _ _ _ _ => (dg_name 2 sc_tails_of.nd rfl (Or.inl rfl))) (fun _ _ _ _ _ => dts_nil) (fun _ _ _ _ _ => de_int))
      (dss_cons (ds_for body_own rfl (di_range3 rfl z_range (de_sub (de_callB cb_len rfl z_len (by decide +kernel) (da_cons (de_var 0 (pv 0)) da_nil)) de_int) (de_neg de_int) (de_neg de_int)) (dg_name 3 sc_tails_of.nd rfl (Or.inl rfl)) (dss_one (ds_for body_own rfl (di_seq (de_ix hr (de_var 0 (pv 0)) (de_var 3 (pv 3)))) (dg_name 4 sc_tails_of.nd rfl (Or.inl rfl)) (dss_one (ds_put 1 hr (pv 1) (de_var 4 (pv 4)) (de_callB (cb_max2 rfl) rfl z_max (by decide +kernel) (da_cons (de_ix hr (de_var 1 (pv 1)) (de_var 4 (pv 4))) (da_cons (de_add (de_ix hr (de_var 1 (pv 1)) (de_var 3 (pv 3))) de_int) da_nil))))))))
      (dss_one (ds_retV 1 (pv 1)))))
  exact d
abbrev s_window_at : PySem.Stmt := topS 23
abbrev n_window_at : List PySem.Str := ["graph", "cores", "a", "b", "many", "head", "tail"]
theorem sc_window_at : FnScope n_window_at ["graph", "cores", "a", "b"] (defScope s_window_at) := ⟨rfl, rfl, rfl, by decide +kernel, rfl, by decide +kernel, by decide +kernel⟩
theorem ok_window_at {P : PySem.Program} {w : PySem.World} {K : PySem.W.Frag} {mg : PySem.Str → Option PySem.Value} {base : PySem.Heap} {fa : PySem.Addr} {fd : PySem.FuncData} (F : Fun K "window_at" "window_at" s_window_at fa fd) (gf : mg "window_at" = some (.ref fa)) (bf : Binds K fd ["graph", "cores", "a", "b"] []) (c_heads_of : CallOk P w K mg base "heads_of" 1 1 m_heads_of) (c_tails_of : CallOk P w K mg base "tails_of" 1 1 m_tails_of) (z_zip : mg "zip" = none) (z_len : mg "len" = none) :
    CallOk P w K mg base "window_at" 2 4 m_window_at := by
  refine fn_rule F sc_window_at rfl gf bf fun cdv A outer s H E hr => ?_
  have d : DSs (bodyX P w K mg base n_window_at "window_at" s_window_at fa cdv A outer s H E) E (defBody s_window_at) _ :=
      (dss_cons (ds_set 4 (de_callB cb_len rfl z_len (by decide +kernel) (da_cons (de_lc rfl sc_window_at.nd (di_zip rfl z_zip (de_call c_heads_of (hr.mono (by decide)) rfl body_passes (da_cons (de_var 0 (pv 0)) da_nil)) (de_call c_tails_of (hr.mono (by decide)) rfl body_passes (da_cons (de_var 0 (pv 0)) da_nil))) (blkOk_by (own := [("head", 5), ("tail", 6)]) (N := n_window_at) (by kernel_rfl)) (by decide) (fun _ _ _ _ _ => (dg_tup (n := 2) rfl (dgs_cons (dg_name 5 sc_window_at.nd rfl (Or.inl rfl)) (dgs_cons (dg_name 6 sc_window_at.nd rfl (Or.inl rfl)) dgs_nil)))) (fun _ _ _ _ _ => (dts_one (DW.dt (dw_and (dt_c (co_ge hr) (de_var 5 (pv 5)) (de_var 2 (pv 2))) (dw_and1 (dt_c (co_ge hr) (de_var 6 (pv 6)) (de_var 3 (pv 3)))))))) (fun _ _ _ _ _ => de_int)) da_nil)) sc_window_at.nd rfl (Or.inl rfl))
      (dss_one (ds_ret (de_if (dt_c (co_eq hr) (de_var 4 (pv 4)) de_int) de_non (de_add (de_add (de_var 2 (pv 2)) (de_div (de_sub (de_add (de_var 4 (pv 4)) (de_var 1 (pv 1))) de_int) (de_var 1 (pv 1)))) (de_var 3 (pv 3)))))))
  exact d
abbrev s_best_window : PySem.Stmt := topS 24
abbrev n_best_window : List PySem.Str := ["graph", "cores", "best", "a", "head", "b", "tail", "steps"]
theorem sc_best_window : FnScope n_best_window ["graph", "cores"] (defScope s_best_window) := ⟨rfl, rfl, rfl, by decide +kernel, rfl, by decide +kernel, by decide +kernel⟩
theorem ok_best_window {P : PySem.Program} {w : PySem.World} {K : PySem.W.Frag} {mg : PySem.Str → Option PySem.Value} {base : PySem.Heap} {fa : PySem.Addr} {fd : PySem.FuncData} (F : Fun K "best_window" "best_window" s_best_window fa fd) (gf : mg "best_window" = some (.ref fa)) (bf : Binds K fd ["graph", "cores"] []) (c_heads_of : CallOk P w K mg base "heads_of" 1 1 m_heads_of) (c_tails_of : CallOk P w K mg base "tails_of" 1 1 m_tails_of) (c_window_at : CallOk P w K mg base "window_at" 2 4 m_window_at) (z_list : mg "list" = none) (z_sorted : mg "sorted" = none) :
    CallOk P w K mg base "best_window" 3 2 m_best_window := by
  refine fn_rule F sc_best_window rfl gf bf fun cdv A outer s H E hr => ?_
  have d : DSs (bodyX P w K mg base n_best_window "best_window" s_best_window fa cdv A outer s H E) E (defBody s_best_window) _ :=
      (dss_cons (ds_set 2 (de_tup (da_cons de_int (da_cons de_int (da_cons de_int da_nil)))) sc_best_window.nd rfl (Or.inl rfl))
      (dss_cons (ds_for body_own rfl (di_seq (de_callB (cb_sortedA hr) rfl z_sorted (by decide +kernel) (da_cons (de_callTy (cb_listD rfl) rfl z_list (by decide +kernel) (da_cons (de_dcK rfl sc_best_window.nd (di_seq (de_call c_heads_of (hr.mono (by decide)) rfl body_passes (da_cons (de_var 0 (pv 0)) da_nil))) (blkOk_by (own := [("head", 4)]) (N := n_best_window) (by kernel_rfl)) (by decide) (fun _ _ _ _ _ => (dg_name 4 sc_best_window.nd rfl (Or.inl rfl))) (fun _ _ _ _ _ => dts_nil) (fun _ _ _ _ _ => (de_var 4 (pv 4))) (fun _ _ _ _ _ => de_bl)) da_nil)) da_nil))) (dg_name 3 sc_best_window.nd rfl (Or.inl rfl)) (dss_one (ds_for body_own rfl (di_seq (de_callB (cb_sortedA hr) rfl z_sorted (by decide +kernel) (da_cons (de_callTy (cb_listD rfl) rfl z_list (by decide +kernel) (da_cons (de_dcK rfl sc_best_window.nd (di_seq (de_call c_tails_of (hr.mono (by decide)) rfl body_passes (da_cons (de_var 0 (pv 0)) da_nil))) (blkOk_by (own := [("tail", 6)]) (N := n_best_window) (by kernel_rfl)) (by decide) (fun _ _ _ _ _ => (dg_name 6 sc_best_window.nd rfl (Or.inl rfl))) (fun _ _ _ _ _ => dts_nil) (fun _ _ _ _ _ => (de_var 6 (pv 6))) (fun _ _ _ _ _ => de_bl)) da_nil)) da_nil))) (dg_name 5 sc_best_window.nd rfl (Or.inl rfl)) (dss_cons (ds_set 7 (de_call c_window_at (hr.mono (by decide)) rfl body_passes (da_cons (de_var 0 (pv 0)) (da_cons (de_var 1 (pv 1)) (da_cons (de_var 3 (pv 3)) (da_cons (de_var 5 (pv 5)) da_nil))))) sc_best_window.nd rfl (Or.inl rfl))
      (dss_one (ds_if (DW.dt (dw_and (dt_c (co_isn) (de_var 7 (pv 7)) de_non) (dw_and1 (dt_c (co_gt hr) (de_var 7 (pv 7)) (de_ix hr (de_var 2 (pv 2)) de_int))))) (dss_one (ds_frz 7 (ds_set 2 (de_tup (da_cons (de_var 7 (pv 7)) (da_cons (de_var 3 (pv 3)) (da_cons (de_var 5 (pv 5)) da_nil)))) sc_best_window.nd rfl (Or.inl rfl)))) dss_nil))))))
      (dss_one (ds_retV 2 (pv 2)))))
  exact d
abbrev s_window_bound : PySem.Stmt := topS 28
abbrev n_window_bound : List PySem.Str := ["graph", "cores"]
theorem sc_window_bound : FnScope n_window_bound ["graph", "cores"] (defScope s_window_bound) := ⟨rfl, rfl, rfl, by decide +kernel, rfl, by decide +kernel, by decide +kernel⟩
theorem ok_window_bound {P : PySem.Program} {w : PySem.World} {K : PySem.W.Frag} {mg : PySem.Str → Option PySem.Value} {base : PySem.Heap} {fa : PySem.Addr} {fd : PySem.FuncData} (F : Fun K "window_bound" "window_bound" s_window_bound fa fd) (gf : mg "window_bound" = some (.ref fa)) (bf : Binds K fd ["graph", "cores"] []) (c_need_graph : CallOk P w K mg base "need_graph" 4 1 m_need_graph) (c_best_window : CallOk P w K mg base "best_window" 3 2 m_best_window) :
    CallOk P w K mg base "window_bound" 5 2 m_window_bound := by
  refine fn_rule F sc_window_bound rfl gf bf fun cdv A outer s H E hr => ?_
  have d : DSs (bodyX P w K mg base n_window_bound "window_bound" s_window_bound fa cdv A outer s H E) E (defBody s_window_bound) _ :=
      (dss_cons (ds_expr (de_call c_need_graph (hr.mono (by decide)) rfl body_passes (da_cons (de_var 0 (pv 0)) da_nil)))
      (dss_one (ds_ret (de_ix hr (de_call c_best_window (hr.mono (by decide)) rfl body_passes (da_cons (de_var 0 (pv 0)) (da_cons (de_var 1 (pv 1)) da_nil))) de_int))))
  exact d
abbrev s_ready_nodes : PySem.Stmt := topS 14
abbrev n_ready_nodes : List PySem.Str := ["graph", "done", "at", "row", "one"]
theorem sc_ready_nodes : FnScope n_ready_nodes ["graph", "done"] (defScope s_ready_nodes) := ⟨rfl, rfl, rfl, by decide +kernel, rfl, by decide +kernel, by decide +kernel⟩
theorem ok_ready_nodes {P : PySem.Program} {w : PySem.World} {K : PySem.W.Frag} {mg : PySem.Str → Option PySem.Value} {base : PySem.Heap} {fa : PySem.Addr} {fd : PySem.FuncData} (F : Fun K "ready_nodes" "ready_nodes" s_ready_nodes fa fd) (gf : mg "ready_nodes" = some (.ref fa)) (bf : Binds K fd ["graph", "done"] []) (z_enumerate : mg "enumerate" = none) (z_all : mg "all" = none) :
    CallOk P w K mg base "ready_nodes" 1 2 m_ready_nodes := by
  refine fn_rule F sc_ready_nodes rfl gf bf fun cdv A outer s H E hr => ?_
  have d : DSs (bodyX P w K mg base n_ready_nodes "ready_nodes" s_ready_nodes fa cdv A outer s H E) E (defBody s_ready_nodes) _ :=
      (dss_one (ds_ret (de_lc rfl sc_ready_nodes.nd (di_enum rfl z_enumerate (de_var 0 (pv 0))) (blkOk_by (own := [("at", 2), ("row", 3)]) (N := n_ready_nodes) (by kernel_rfl)) (by decide) (fun _ _ _ _ _ => (dg_tup (n := 2) rfl (dgs_cons (dg_name 2 sc_ready_nodes.nd rfl (Or.inl rfl)) (dgs_cons (dg_name 3 sc_ready_nodes.nd rfl (Or.inl rfl)) dgs_nil)))) (fun _ _ _ _ _ => (dts_one (DW.dt (dw_and (dt_c (co_ni hr) (de_var 2 (pv 2)) (de_var 1 (pv 1))) (dw_and1 (dt_truth (de_callB (cb_all rfl) rfl z_all (by decide +kernel) (da_cons (de_lc rfl sc_ready_nodes.nd (di_seq (de_var 3 (pv 3))) (blkOk_by (own := [("one", 4)]) (N := n_ready_nodes) (by kernel_rfl)) (by decide) (fun _ _ _ _ _ => (dg_name 4 sc_ready_nodes.nd rfl (Or.inl rfl))) (fun _ _ _ _ _ => dts_nil) (fun _ _ _ _ _ => (de_c (co_in hr) (de_var 4 (pv 4)) (de_var 1 (pv 1))))) da_nil)))))))) (fun _ _ _ _ _ => (de_var 2 (pv 2))))))
  exact d
abbrev s_with_nodes : PySem.Stmt := topS 19
abbrev n_with_nodes : List PySem.Str := ["done", "step"]
theorem sc_with_nodes : FnScope n_with_nodes ["done", "step"] (defScope s_with_nodes) := ⟨rfl, rfl, rfl, by decide +kernel, rfl, by decide +kernel, by decide +kernel⟩
theorem ok_with_nodes {P : PySem.Program} {w : PySem.World} {K : PySem.W.Frag} {mg : PySem.Str → Option PySem.Value} {base : PySem.Heap} {fa : PySem.Addr} {fd : PySem.FuncData} (F : Fun K "with_nodes" "with_nodes" s_with_nodes fa fd) (gf : mg "with_nodes" = some (.ref fa)) (bf : Binds K fd ["done", "step"] []) (z_sorted : mg "sorted" = none) (z_tuple : mg "tuple" = none) :
    CallOk P w K mg base "with_nodes" 1 2 m_with_nodes := by
  refine fn_rule F sc_with_nodes rfl gf bf fun cdv A outer s H E hr => ?_
  have d : DSs (bodyX P w K mg base n_with_nodes "with_nodes" s_with_nodes fa cdv A outer s H E) E (defBody s_with_nodes) _ :=
      (dss_one (ds_ret (de_callTy cb_tuple rfl z_tuple (by decide +kernel) (da_cons (de_callB (cb_sortedA hr) rfl z_sorted (by decide +kernel) (da_cons (de_add (de_var 0 (pv 0)) (de_var 1 (pv 1))) da_nil)) da_nil))))
  exact d
abbrev s_closed_sets : PySem.Stmt := topS 20
abbrev n_closed_sets : List PySem.Str := ["graph", "found", "rows", "_", "wider", "done", "at"]
theorem sc_closed_sets : FnScope n_closed_sets ["graph"] (defScope s_closed_sets) := ⟨rfl, rfl, rfl, by decide +kernel, rfl, by decide +kernel, by decide +kernel⟩
theorem ok_closed_sets {P : PySem.Program} {w : PySem.World} {K : PySem.W.Frag} {mg : PySem.Str → Option PySem.Value} {base : PySem.Heap} {fa : PySem.Addr} {fd : PySem.FuncData} (F : Fun K "closed_sets" "closed_sets" s_closed_sets fa fd) (gf : mg "closed_sets" = some (.ref fa)) (bf : Binds K fd ["graph"] []) (c_ready_nodes : CallOk P w K mg base "ready_nodes" 1 2 m_ready_nodes) (c_with_nodes : CallOk P w K mg base "with_nodes" 1 2 m_with_nodes) (z_list : mg "list" = none) :
    CallOk P w K mg base "closed_sets" 2 1 m_closed_sets := by
  refine fn_rule F sc_closed_sets rfl gf bf fun cdv A outer s H E hr => ?_
  have d : DSs (bodyX P w K mg base n_closed_sets "closed_sets" s_closed_sets fa cdv A outer s H E) E (defBody s_closed_sets) _ :=
      (dss_cons (ds_set 1 (de_lst (da_cons (de_tup da_nil) da_nil)) sc_closed_sets.nd rfl (Or.inl rfl))
      (dss_cons (ds_set 2 (de_lst (da_cons (de_tup da_nil) da_nil)) sc_closed_sets.nd rfl (Or.inl rfl))
      (dss_cons (ds_for body_own rfl (di_seq (de_var 0 (pv 0))) (dg_name 3 sc_closed_sets.nd rfl (Or.inl rfl)) (dss_cons (ds_set 4 de_dt sc_closed_sets.nd rfl (Or.inl rfl))
      (dss_cons (ds_frz 2 (ds_for body_own rfl (di_seq (de_var 2 (pv 2))) (dg_name 5 sc_closed_sets.nd rfl (Or.inl rfl)) (dss_one (ds_for body_own rfl (di_seq (de_call c_ready_nodes (hr.mono (by decide)) rfl body_passes (da_cons (de_var 0 (pv 0)) (da_cons (de_var 5 (pv 5)) da_nil)))) (dg_name 6 sc_closed_sets.nd rfl (Or.inl rfl)) (dss_one (ds_put 4 hr (pv 4) (de_call c_with_nodes (hr.mono (by decide)) rfl body_passes (da_cons (de_var 5 (pv 5)) (da_cons (de_tup (da_cons (de_var 6 (pv 6)) da_nil)) da_nil))) de_bl))))))
      (dss_cons (ds_set 2 (de_listT rfl rfl z_list (by decide +kernel) (de_var 4 (pv 4))) sc_closed_sets.nd rfl (Or.inl rfl))
      (dss_one (ds_set 1 (de_add (de_var 1 (pv 1)) (de_var 2 (pv 2))) sc_closed_sets.nd rfl (Or.inl rfl)))))))
      (dss_one (ds_retV 1 (pv 1))))))
  exact d
abbrev s_choices : PySem.Stmt := topS 17
abbrev n_choices : List PySem.Str := ["row", "count", "found", "_", "chosen", "one"]
theorem sc_choices : FnScope n_choices ["row", "count"] (defScope s_choices) := ⟨rfl, rfl, rfl, by decide +kernel, rfl, by decide +kernel, by decide +kernel⟩
theorem ok_choices {P : PySem.Program} {w : PySem.World} {K : PySem.W.Frag} {mg : PySem.Str → Option PySem.Value} {base : PySem.Heap} {fa : PySem.Addr} {fd : PySem.FuncData} (F : Fun K "choices" "choices" s_choices fa fd) (gf : mg "choices" = some (.ref fa)) (bf : Binds K fd ["row", "count"] []) (z_range : mg "range" = none) (z_len : mg "len" = none) :
    CallOk P w K mg base "choices" 1 2 m_choices := by
  refine fn_rule F sc_choices rfl gf bf fun cdv A outer s H E hr => ?_
  have d : DSs (bodyX P w K mg base n_choices "choices" s_choices fa cdv A outer s H E) E (defBody s_choices) _ :=
      (dss_cons (ds_set 2 (de_lst (da_cons (de_tup da_nil) da_nil)) sc_choices.nd rfl (Or.inl rfl))
      (dss_cons (ds_for body_own rfl (di_range1 rfl z_range (de_var 1 (pv 1))) (dg_name 3 sc_choices.nd rfl (Or.inl rfl)) (dss_one (ds_setLc2 (vs1 := [5]) 2 rfl sc_choices.nd rfl rfl (sw_true rfl rfl rfl (by decide +kernel)) (di_seq (de_var 2 (pv 2))) (blkOk_by (own := [("chosen", 4), ("one", 5)]) (N := n_choices) (by kernel_rfl)) (by decide) (by decide) (by decide) (tk_name 4) (fun _ _ _ _ _ => (dg_name 4 sc_choices.nd rfl (Or.inl rfl))) (fun _ _ _ _ _ => dts_nil) (fun _ _ _ _ _ => (di_seq (de_var 0 (pv 0)))) (fun _ _ _ _ _ => (dg_name 5 sc_choices.nd rfl (Or.inl rfl))) (fun _ _ _ _ _ => (dts_one (DW.dt (dw_or (dt_c (co_eq hr) (de_callB cb_len rfl z_len (by decide +kernel) (da_cons (de_var 4 (pv 4)) da_nil)) de_int) (dw_or1 (dt_c (co_gt hr) (de_var 5 (pv 5)) (de_ix hr (de_var 4 (pv 4)) (de_neg de_int)))))))) (fun _ _ _ _ _ => (de_add (de_var 4 (pv 4)) (de_tup (da_cons (de_var 5 (pv 5)) da_nil)))))))
      (dss_one (ds_retV 2 (pv 2)))))
  exact d
abbrev s_full_steps : PySem.Stmt := topS 18
abbrev n_full_steps : List PySem.Str := ["graph", "cores", "done", "there"]
theorem sc_full_steps : FnScope n_full_steps ["graph", "cores", "done"] (defScope s_full_steps) := ⟨rfl, rfl, rfl, by decide +kernel, rfl, by decide +kernel, by decide +kernel⟩
theorem ok_full_steps {P : PySem.Program} {w : PySem.World} {K : PySem.W.Frag} {mg : PySem.Str → Option PySem.Value} {base : PySem.Heap} {fa : PySem.Addr} {fd : PySem.FuncData} (F : Fun K "full_steps" "full_steps" s_full_steps fa fd) (gf : mg "full_steps" = some (.ref fa)) (bf : Binds K fd ["graph", "cores", "done"] []) (c_ready_nodes : CallOk P w K mg base "ready_nodes" 1 2 m_ready_nodes) (c_choices : CallOk P w K mg base "choices" 1 2 m_choices) (z_len : mg "len" = none) (z_min : mg "min" = none) :
    CallOk P w K mg base "full_steps" 2 3 m_full_steps := by
  refine fn_rule F sc_full_steps rfl gf bf fun cdv A outer s H E hr => ?_
  have d : DSs (bodyX P w K mg base n_full_steps "full_steps" s_full_steps fa cdv A outer s H E) E (defBody s_full_steps) _ :=
      (dss_cons (ds_set 3 (de_call c_ready_nodes (hr.mono (by decide)) rfl body_passes (da_cons (de_var 0 (pv 0)) (da_cons (de_var 2 (pv 2)) da_nil))) sc_full_steps.nd rfl (Or.inl rfl))
      (dss_one (ds_ret (de_call c_choices (hr.mono (by decide)) rfl body_passes (da_cons (de_var 3 (pv 3)) (da_cons (de_callB (cb_min2 rfl) rfl z_min (by decide +kernel) (da_cons (de_var 1 (pv 1)) (da_cons (de_callB cb_len rfl z_len (by decide +kernel) (da_cons (de_var 3 (pv 3)) da_nil)) da_nil))) da_nil))))))
  exact d
abbrev s_rests_of : PySem.Stmt := topS 21
abbrev n_rests_of : List PySem.Str := ["graph", "cores", "rests", "done", "steps", "step"]
theorem sc_rests_of : FnScope n_rests_of ["graph", "cores"] (defScope s_rests_of) := ⟨rfl, rfl, rfl, by decide +kernel, rfl, by decide +kernel, by decide +kernel⟩
theorem ok_rests_of {P : PySem.Program} {w : PySem.World} {K : PySem.W.Frag} {mg : PySem.Str → Option PySem.Value} {base : PySem.Heap} {fa : PySem.Addr} {fd : PySem.FuncData} (F : Fun K "rests_of" "rests_of" s_rests_of fa fd) (gf : mg "rests_of" = some (.ref fa)) (bf : Binds K fd ["graph", "cores"] []) (c_closed_sets : CallOk P w K mg base "closed_sets" 2 1 m_closed_sets) (c_full_steps : CallOk P w K mg base "full_steps" 2 3 m_full_steps) (c_with_nodes : CallOk P w K mg base "with_nodes" 1 2 m_with_nodes) (z_len : mg "len" = none) (z_min : mg "min" = none) :
    CallOk P w K mg base "rests_of" 3 2 m_rests_of := by
  refine fn_rule F sc_rests_of rfl gf bf fun cdv A outer s H E hr => ?_
  have d : DSs (bodyX P w K mg base n_rests_of "rests_of" s_rests_of fa cdv A outer s H E) E (defBody s_rests_of) _ :=
      (dss_cons (ds_set 2 de_dt sc_rests_of.nd rfl (Or.inr rfl))
      (dss_cons (ds_for body_own rfl (di_seq (de_revL (de_call c_closed_sets (hr.mono (by decide)) rfl body_passes (da_cons (de_var 0 (pv 0)) da_nil)))) (dg_name 3 sc_rests_of.nd rfl (Or.inr rfl)) (dss_cons (ds_set 4 (de_call c_full_steps (hr.mono (by decide)) rfl body_passes (da_cons (de_var 0 (pv 0)) (da_cons (de_var 1 (pv 1)) (da_cons (de_var 3 (pv 3)) da_nil)))) sc_rests_of.nd rfl (Or.inl rfl))
      (dss_one (ds_put 2 hr (pv 2) (de_var 3 (pv 3)) (de_if (dt_c (co_eq hr) (de_callB cb_len rfl z_len (by decide +kernel) (da_cons (de_var 3 (pv 3)) da_nil)) (de_callB cb_len rfl z_len (by decide +kernel) (da_cons (de_var 0 (pv 0)) da_nil))) de_int (de_add de_int (de_callB (cb_min1 rfl) rfl z_min (by decide +kernel) (da_cons (de_lc rfl sc_rests_of.nd (di_seq (de_var 4 (pv 4))) (blkOk_by (own := [("step", 5)]) (N := n_rests_of) (by kernel_rfl)) (by decide) (fun _ _ _ _ _ => (dg_name 5 sc_rests_of.nd rfl (Or.inl rfl))) (fun _ _ _ _ _ => dts_nil) (fun _ _ _ _ _ => (de_ix hr (de_var 2 (pv 2)) (de_call c_with_nodes (hr.mono (by decide)) rfl passL (da_cons (de_var 3 (pv 3)) (da_cons (de_var 5 (pv 5)) da_nil)))))) da_nil))))))))
      (dss_one (ds_retV 2 (pv 2)))))
  exact d
abbrev s_least : PySem.Stmt := topS 26
abbrev n_least : List PySem.Str := ["graph", "cores"]
theorem sc_least : FnScope n_least ["graph", "cores"] (defScope s_least) := ⟨rfl, rfl, rfl, by decide +kernel, rfl, by decide +kernel, by decide +kernel⟩
theorem ok_least {P : PySem.Program} {w : PySem.World} {K : PySem.W.Frag} {mg : PySem.Str → Option PySem.Value} {base : PySem.Heap} {fa : PySem.Addr} {fd : PySem.FuncData} (F : Fun K "least" "least" s_least fa fd) (gf : mg "least" = some (.ref fa)) (bf : Binds K fd ["graph", "cores"] []) (c_need_graph : CallOk P w K mg base "need_graph" 4 1 m_need_graph) (c_rests_of : CallOk P w K mg base "rests_of" 3 2 m_rests_of) :
    CallOk P w K mg base "least" 5 2 m_least := by
  refine fn_rule F sc_least rfl gf bf fun cdv A outer s H E hr => ?_
  have d : DSs (bodyX P w K mg base n_least "least" s_least fa cdv A outer s H E) E (defBody s_least) _ :=
      (dss_cons (ds_expr (de_call c_need_graph (hr.mono (by decide)) rfl body_passes (da_cons (de_var 0 (pv 0)) da_nil)))
      (dss_one (ds_ret (de_ix hr (de_call c_rests_of (hr.mono (by decide)) rfl body_passes (da_cons (de_var 0 (pv 0)) (da_cons (de_var 1 (pv 1)) da_nil))) (de_tup da_nil)))))
  exact d
abbrev s_step_bound : PySem.Stmt := topS 15
abbrev n_step_bound : List PySem.Str := ["graph", "cores"]
theorem sc_step_bound : FnScope n_step_bound ["graph", "cores"] (defScope s_step_bound) := ⟨rfl, rfl, rfl, by decide +kernel, rfl, by decide +kernel, by decide +kernel⟩
theorem ok_step_bound {P : PySem.Program} {w : PySem.World} {K : PySem.W.Frag} {mg : PySem.Str → Option PySem.Value} {base : PySem.Heap} {fa : PySem.Addr} {fd : PySem.FuncData} (F : Fun K "step_bound" "step_bound" s_step_bound fa fd) (gf : mg "step_bound" = some (.ref fa)) (bf : Binds K fd ["graph", "cores"] []) (c_need_graph : CallOk P w K mg base "need_graph" 4 1 m_need_graph) (c_span_of : CallOk P w K mg base "span_of" 2 1 m_span_of) (z_len : mg "len" = none) :
    CallOk P w K mg base "step_bound" 5 2 m_step_bound := by
  refine fn_rule F sc_step_bound rfl gf bf fun cdv A outer s H E hr => ?_
  have d : DSs (bodyX P w K mg base n_step_bound "step_bound" s_step_bound fa cdv A outer s H E) E (defBody s_step_bound) _ :=
      (dss_cons (ds_expr (de_call c_need_graph (hr.mono (by decide)) rfl body_passes (da_cons (de_var 0 (pv 0)) da_nil)))
      (dss_one (ds_ret (de_div (de_add (de_callB cb_len rfl z_len (by decide +kernel) (da_cons (de_var 0 (pv 0)) da_nil)) (de_mul (de_sub (de_var 1 (pv 1)) de_int) (de_call c_span_of (hr.mono (by decide)) rfl body_passes (da_cons (de_var 0 (pv 0)) da_nil)))) (de_var 1 (pv 1))))))
  exact d
abbrev s__law_bounds : PySem.Stmt := topS 43
abbrev n__law_bounds : List PySem.Str := ["_law_graph_here", "_law_cores"]
theorem sc__law_bounds : FnScope n__law_bounds ["_law_graph_here", "_law_cores"] (defScope s__law_bounds) := ⟨rfl, rfl, rfl, by decide +kernel, rfl, by decide +kernel, by decide +kernel⟩
theorem ok__law_bounds {P : PySem.Program} {w : PySem.World} {K : PySem.W.Frag} {mg : PySem.Str → Option PySem.Value} {base : PySem.Heap} {fa : PySem.Addr} {fd : PySem.FuncData} (F : Fun K "_law_bounds" "_law_bounds" s__law_bounds fa fd) (gf : mg "_law_bounds" = some (.ref fa)) (bf : Binds K fd ["_law_graph_here", "_law_cores"] []) (c_step_bound : CallOk P w K mg base "step_bound" 5 2 m_step_bound) (c_least : CallOk P w K mg base "least" 5 2 m_least) (c_window_bound : CallOk P w K mg base "window_bound" 5 2 m_window_bound) (c_area_bound : CallOk P w K mg base "area_bound" 5 2 m_area_bound) (c_span : CallOk P w K mg base "span" 5 1 m_span) (c_work : CallOk P w K mg base "work" 5 1 m_work) {C_SpanError : PySem.Addr} (k_SpanError : ClsK K mg "SpanError" [] C_SpanError) (m_InvalidGraph_SpanError : ExmK K mg "InvalidGraph" C_SpanError true) :
    CallOk P w K mg base "_law_bounds" 6 2 m__law_bounds := by
  refine fn_rule F sc__law_bounds rfl gf bf fun cdv A outer s H E hr => ?_
  have d : DSs (bodyX P w K mg base n__law_bounds "_law_bounds" s__law_bounds fa cdv A outer s H E) E (defBody s__law_bounds) _ :=
      (dss_one (ds_try rfl rfl sc__law_bounds.nd body_takes (fun E' pn xe px po => (dss_one (ds_ret (de_tup (da_cons (de_call c_work (hr.mono (by decide)) rfl px (da_cons (de_var 0 (pv 0)) da_nil)) (da_cons (de_call c_span (hr.mono (by decide)) rfl px (da_cons (de_var 0 (pv 0)) da_nil)) (da_cons (de_call c_area_bound (hr.mono (by decide)) rfl px (da_cons (de_var 0 (pv 0)) (da_cons (de_var 1 (pv 1)) da_nil))) (da_cons (de_call c_window_bound (hr.mono (by decide)) rfl px (da_cons (de_var 0 (pv 0)) (da_cons (de_var 1 (pv 1)) da_nil))) (da_cons (de_call c_least (hr.mono (by decide)) rfl px (da_cons (de_var 0 (pv 0)) (da_cons (de_var 1 (pv 1)) da_nil))) (da_cons (de_call c_step_bound (hr.mono (by decide)) rfl px (da_cons (de_var 0 (pv 0)) (da_cons (de_var 1 (pv 1)) da_nil))) da_nil)))))))))) (.no ⟨rfl, by decide, .inl k_SpanError.g⟩ dxn_non (cat_cons m_InvalidGraph_SpanError cat_nil) .nil)))
  exact d
abbrev s_law : PySem.Stmt := topS 44
abbrev n_law : List PySem.Str := ["_law_script", "_law_pool_here", "_law_graph_here", "_law_first", "_law_most", "_law_head", "_law_size", "_law_k", "_law_cores", "_law_steps_here", "_law_window_here", "_law_area", "_law_top"]
theorem sc_law : FnScope n_law ["_law_script"] (defScope s_law) := ⟨rfl, rfl, rfl, by decide +kernel, rfl, by decide +kernel, by decide +kernel⟩
theorem ok_law {P : PySem.Program} {w : PySem.World} {K : PySem.W.Frag} {mg : PySem.Str → Option PySem.Value} {base : PySem.Heap} {fa : PySem.Addr} {fd : PySem.FuncData} (F : Fun K "law" "law" s_law fa fd) (c__law_pool : CallOk P w K mg base "_law_pool" 1 1 m__law_pool) (c__law_heads : CallOk P w K mg base "_law_heads" 1 1 m__law_heads) (c__law_least : CallOk P w K mg base "_law_least" 3 2 m__law_least) (c__law_window_bound : CallOk P w K mg base "_law_window_bound" 3 2 m__law_window_bound) (c__law_up : CallOk P w K mg base "_law_up" 1 2 m__law_up) (c__law_same : CallOk P w K mg base "_law_same" 12 2 m__law_same) (c__law_bounds : CallOk P w K mg base "_law_bounds" 6 2 m__law_bounds) (cm__law_graph : CallM P w K mg base "_law_graph" 2 1 m__law_graph) (cm__law_draw : CallM P w K mg base "_law_draw" 1 1 m__law_draw) (z_max : mg "max" = none) (z_len : mg "len" = none) (z_range : mg "range" = none) (z_int : mg "int" = none) :
    GRun P w K mg base 13 fa fd ["_law_script"] (spD K mg 1 m_law) := by
  refine law_rule F sc_law rfl fun cdv A s H E hgd hr => ?_
  have d : DSs (bodyX P w K mg base n_law "law" s_law fa cdv A [] s H E) E (defBody s_law) _ :=
      (dss_cons (ds_set 1 (de_call c__law_pool (hr.mono (by decide)) rfl body_passes (da_cons (de_var 0 (pv 0)) da_nil)) sc_law.nd rfl (Or.inl rfl))
      (dss_cons (ds_setM 2 (dm_call 1 cm__law_graph (hr.mono (by decide)) rfl body_passes (pv 1) (da_cons de_int da_nil)) sc_law.nd rfl (Or.inl rfl))
      (dss_cons (ds_setM 3 (dm_add (dm_of de_int) (dm_call 1 cm__law_draw (hr.mono (by decide)) rfl body_passes (pv 1) (da_cons de_int da_nil))) sc_law.nd rfl (Or.inl rfl))
      (dss_cons (ds_set 4 (de_callB (cb_max1 rfl) rfl z_max (by decide +kernel) (da_cons (de_add (de_lst (da_cons de_int da_nil)) (de_lc rfl sc_law.nd (di_seq (de_call c__law_heads (hr.mono (by decide)) rfl body_passes (da_cons (de_var 2 (pv 2)) da_nil))) (blkOk_by (own := [("_law_head", 5)]) (N := n_law) (by kernel_rfl)) (by decide) (fun _ _ _ _ _ => (dg_name 5 sc_law.nd rfl (Or.inl rfl))) (fun _ _ _ _ _ => dts_nil) (fun _ _ _ _ _ => (de_add (de_var 5 (pv 5)) de_int)))) da_nil)) sc_law.nd rfl (Or.inl rfl))
      (dss_cons (ds_set 6 (de_callB cb_len rfl z_len (by decide +kernel) (da_cons (de_var 2 (pv 2)) da_nil)) sc_law.nd rfl (Or.inl rfl))
      (dss_cons (ds_for body_own rfl (di_range1 rfl z_range de_int) (dg_name 7 sc_law.nd rfl (Or.inl rfl)) (dss_cons (ds_set 8 (de_add de_int (de_mod (de_callTy cb_int rfl z_int (by decide +kernel) (da_cons (de_add (de_var 3 (pv 3)) (de_mul de_int (de_var 7 (pv 7)))) da_nil)) de_int)) sc_law.nd rfl (Or.inl rfl))
      (dss_cons (ds_set 9 (de_call c__law_least (hr.mono (by decide)) rfl body_passes (da_cons (de_var 2 (pv 2)) (da_cons (de_var 8 (pv 8)) da_nil))) sc_law.nd rfl (Or.inl rfl))
      (dss_cons (ds_set 10 (de_call c__law_window_bound (hr.mono (by decide)) rfl body_passes (da_cons (de_var 2 (pv 2)) (da_cons (de_var 8 (pv 8)) da_nil))) sc_law.nd rfl (Or.inl rfl))
      (dss_cons (ds_set 11 (de_call c__law_up (hr.mono (by decide)) rfl body_passes (da_cons (de_var 6 (pv 6)) (da_cons (de_var 8 (pv 8)) da_nil))) sc_law.nd rfl (Or.inl rfl))
      (dss_cons (ds_set 12 (de_div (de_add (de_var 6 (pv 6)) (de_mul (de_sub (de_var 8 (pv 8)) de_int) (de_var 4 (pv 4)))) (de_var 8 (pv 8))) sc_law.nd rfl (Or.inl rfl))
      (dss_cons (ds_if (DW.dt (dw_or (dt_not (dt_c (co_le hr) (de_callB (cb_max2 rfl) rfl z_max (by decide +kernel) (da_cons (de_var 11 (pv 11)) (da_cons (de_var 4 (pv 4)) da_nil))) (de_var 10 (pv 10)))) (dw_or (dt_not (dt_c (co_le hr) (de_var 10 (pv 10)) (de_var 9 (pv 9)))) (dw_or1 (dt_not (dt_c (co_le hr) (de_var 9 (pv 9)) (de_var 12 (pv 12)))))))) (dss_one (ds_ret de_bl)) dss_nil)
      (dss_one (ds_frz 6 (ds_frz 4 (ds_frz 11 (ds_frz 10 (ds_frz 9 (ds_frz 12 (ds_if (dt_not (dt_truth (de_call c__law_same (hr.mono (by decide)) rfl body_passes (da_cons (de_call c__law_bounds (hr.mono (by decide)) rfl body_passes (da_cons (de_var 2 (pv 2)) (da_cons (de_var 8 (pv 8)) da_nil))) (da_cons (de_tup (da_cons (de_var 6 (pv 6)) (da_cons (de_var 4 (pv 4)) (da_cons (de_var 11 (pv 11)) (da_cons (de_var 10 (pv 10)) (da_cons (de_var 9 (pv 9)) (da_cons (de_var 12 (pv 12)) da_nil))))))) da_nil))))) (dss_one (ds_ret de_bl)) dss_nil)))))))))))))))
      (dss_one (ds_ret de_bl))))))))
  exact d
abbrev s_InvalidGraph_i : PySem.Stmt := inClass (topS 2) 0
theorem sc_InvalidGraph_i : FnScope ["self", "value"] ["self", "value"] (defScope s_InvalidGraph_i) := ⟨rfl, rfl, rfl, by decide +kernel, rfl, by decide +kernel, by decide +kernel⟩
theorem er_InvalidGraph {P : PySem.Program} {w : PySem.World} {K : PySem.W.Frag} {mg : PySem.Str → Option PySem.Value} {base : PySem.Heap} {C fI : PySem.Addr} {fd : PySem.FuncData} (F : Fun K "__init__" "InvalidGraph.__init__" s_InvalidGraph_i fI fd) (gC : mg "InvalidGraph" = some (.ref C)) (o : OexC K C) (x : XfC K C) (n0 : PySem.W.findIn K (.ref C) "value" = some none) (iC : PySem.W.findIn K (.ref C) "__init__" = some (some (.ref fI))) (tI : PySem.W.typeIn K (.ref fI) = some (.type "function")) (bf : Binds K fd ["self", "value"] []) : ErrK P w K mg base "InvalidGraph" ["value"] :=
  ⟨C, fI, fd, _, gC, o, x, (fun f hf => by simp at hf; subst hf; first | exact n0), iC, tI, init1 F sc_InvalidGraph_i o n0 (fun cdv A outer s H E => pss_one (ps_ost (pv 0) (pv 1))), bf⟩
set_option maxHeartbeats 4000000 in
theorem all_mk {l : PySem.W.OpenLaw} {w : PySem.World} {K : PySem.W.Frag} {h : PySem.Heap} {mg : PySem.Str → Option PySem.Value} {fa f1 f2 f3 f4 f5 f6 f7 f8 f9 f10 f11 f12 f13 f14 f15 f16 f17 f18 f19 f20 f21 f22 f23 f24 f25 f26 f27 f28 f29 f30 f31 f32 f33 f34 f35 f36 f37 C_InvalidGraph C_SpanError I_InvalidGraph : PySem.Addr} (X : K.In h) (G : h.Ns PySem.mainGlobals mg) (hfa : mg "law" = some (.ref fa))
    {od1 an1 od2 an2 od3 an3 od4 an4 od5 an5 od6 an6 od7 an7 od8 an8 od9 an9 od10 an10 od11 an11 od12 an12 od13 an13 od14 an14 od15 an15 od16 an16 od17 an17 od18 an18 od19 an19 od20 an20 od21 an21 od22 an22 od23 an23 od24 an24 od25 an25 od26 an26 od27 an27 od28 an28 od29 an29 od30 an30 od31 an31 od32 an32 od33 an33 od34 an34 od35 an35 od36 an36 od37 an37 : Option PySem.Addr} {sl1 sl2 sl3 sl4 sl5 sl6 sl7 sl8 sl9 sl10 sl11 sl12 sl13 sl14 sl15 sl16 sl17 sl18 sl19 sl20 sl21 sl22 sl23 sl24 sl25 sl26 sl27 sl28 sl29 sl30 sl31 sl32 sl33 sl34 sl35 sl36 sl37 : Array (Option PySem.Value)} {oc1 kV1 dc1 pm1 cd1 ct1 oc2 kV2 dc2 pm2 cd2 ct2 oc3 kV3 dc3 pm3 cd3 ct3 oc4 kV4 dc4 pm4 cd4 ct4 oc5 kV5 dc5 pm5 cd5 ct5 oc6 kV6 dc6 pm6 cd6 ct6 oc7 kV7 dc7 pm7 cd7 ct7 oc8 kV8 dc8 pm8 cd8 ct8 oc9 kV9 dc9 pm9 cd9 ct9 oc10 kV10 dc10 pm10 cd10 ct10 oc11 kV11 dc11 pm11 cd11 ct11 oc12 kV12 dc12 pm12 cd12 ct12 oc13 kV13 dc13 pm13 cd13 ct13 oc14 kV14 dc14 pm14 cd14 ct14 oc15 kV15 dc15 pm15 cd15 ct15 oc16 kV16 dc16 pm16 cd16 ct16 oc17 kV17 dc17 pm17 cd17 ct17 oc18 kV18 dc18 pm18 cd18 ct18 oc19 kV19 dc19 pm19 cd19 ct19 oc20 kV20 dc20 pm20 cd20 ct20 oc21 kV21 dc21 pm21 cd21 ct21 oc22 kV22 dc22 pm22 cd22 ct22 oc23 kV23 dc23 pm23 cd23 ct23 oc24 kV24 dc24 pm24 cd24 ct24 oc25 kV25 dc25 pm25 cd25 ct25 oc26 kV26 dc26 pm26 cd26 ct26 oc27 kV27 dc27 pm27 cd27 ct27 oc28 kV28 dc28 pm28 cd28 ct28 oc29 kV29 dc29 pm29 cd29 ct29 oc30 kV30 dc30 pm30 cd30 ct30 oc31 kV31 dc31 pm31 cd31 ct31 oc32 kV32 dc32 pm32 cd32 ct32 oc33 kV33 dc33 pm33 cd33 ct33 oc34 kV34 dc34 pm34 cd34 ct34 oc35 kV35 dc35 pm35 cd35 ct35 oc36 kV36 dc36 pm36 cd36 ct36 oc37 kV37 dc37 pm37 cd37 ct37 : PySem.Value}
    {nm_InvalidGraph qn_InvalidGraph : PySem.Str} {N_InvalidGraph : PySem.Addr} {bs_InvalidGraph bm_InvalidGraph : List PySem.Value} {sn_InvalidGraph : List PySem.Str} {su_InvalidGraph : List PySem.Value} {ab_InvalidGraph : Bool} {co_InvalidGraph : Option Bool} {dd_InvalidGraph : Option PySem.Addr} {p0_InvalidGraph p1_InvalidGraph p2_InvalidGraph p3_InvalidGraph p5_InvalidGraph : Option PySem.Value} {od_InvalidGraph an_InvalidGraph : Option PySem.Addr} {sl_InvalidGraph : Array (Option PySem.Value)} {oc_InvalidGraph kV_InvalidGraph dc_InvalidGraph pm_InvalidGraph cd_InvalidGraph ct_InvalidGraph : PySem.Value}
    (a1 : PySem.W.nsIn K PySem.mainGlobals "_law_pool" = some (some (.ref f1))) (l1 : K.lookup f1 = some ⟨oc1, od1, .func (PySem.W.fnOf "_law_pool" "_law_pool" (defArgs s__law_pool) (defBody s__law_pool) (defScope s__law_pool) .none kV1 dc1 pm1 an1 cd1 ct1), sl1⟩) (c1 : PySem.W.codeIn K cd1 "_law_pool" = true) (k1 : PySem.W.keepIn K (.ref f1) = true)
    (a2 : PySem.W.nsIn K PySem.mainGlobals "_law_draw" = some (some (.ref f2))) (l2 : K.lookup f2 = some ⟨oc2, od2, .func (PySem.W.fnOf "_law_draw" "_law_draw" (defArgs s__law_draw) (defBody s__law_draw) (defScope s__law_draw) .none kV2 dc2 pm2 an2 cd2 ct2), sl2⟩) (c2 : PySem.W.codeIn K cd2 "_law_draw" = true) (k2 : PySem.W.keepIn K (.ref f2) = true)
    (a3 : PySem.W.nsIn K PySem.mainGlobals "_law_graph" = some (some (.ref f3))) (l3 : K.lookup f3 = some ⟨oc3, od3, .func (PySem.W.fnOf "_law_graph" "_law_graph" (defArgs s__law_graph) (defBody s__law_graph) (defScope s__law_graph) .none kV3 dc3 pm3 an3 cd3 ct3), sl3⟩) (c3 : PySem.W.codeIn K cd3 "_law_graph" = true) (k3 : PySem.W.keepIn K (.ref f3) = true)
    (a4 : PySem.W.nsIn K PySem.mainGlobals "_law_ready" = some (some (.ref f4))) (l4 : K.lookup f4 = some ⟨oc4, od4, .func (PySem.W.fnOf "_law_ready" "_law_ready" (defArgs s__law_ready) (defBody s__law_ready) (defScope s__law_ready) .none kV4 dc4 pm4 an4 cd4 ct4), sl4⟩) (c4 : PySem.W.codeIn K cd4 "_law_ready" = true) (k4 : PySem.W.keepIn K (.ref f4) = true)
    (a5 : PySem.W.nsIn K PySem.mainGlobals "_law_choices" = some (some (.ref f5))) (l5 : K.lookup f5 = some ⟨oc5, od5, .func (PySem.W.fnOf "_law_choices" "_law_choices" (defArgs s__law_choices) (defBody s__law_choices) (defScope s__law_choices) .none kV5 dc5 pm5 an5 cd5 ct5), sl5⟩) (c5 : PySem.W.codeIn K cd5 "_law_choices" = true) (k5 : PySem.W.keepIn K (.ref f5) = true)
    (a6 : PySem.W.nsIn K PySem.mainGlobals "_law_steps" = some (some (.ref f6))) (l6 : K.lookup f6 = some ⟨oc6, od6, .func (PySem.W.fnOf "_law_steps" "_law_steps" (defArgs s__law_steps) (defBody s__law_steps) (defScope s__law_steps) .none kV6 dc6 pm6 an6 cd6 ct6), sl6⟩) (c6 : PySem.W.codeIn K cd6 "_law_steps" = true) (k6 : PySem.W.keepIn K (.ref f6) = true)
    (a7 : PySem.W.nsIn K PySem.mainGlobals "_law_least" = some (some (.ref f7))) (l7 : K.lookup f7 = some ⟨oc7, od7, .func (PySem.W.fnOf "_law_least" "_law_least" (defArgs s__law_least) (defBody s__law_least) (defScope s__law_least) .none kV7 dc7 pm7 an7 cd7 ct7), sl7⟩) (c7 : PySem.W.codeIn K cd7 "_law_least" = true) (k7 : PySem.W.keepIn K (.ref f7) = true)
    (a8 : PySem.W.nsIn K PySem.mainGlobals "_law_heads" = some (some (.ref f8))) (l8 : K.lookup f8 = some ⟨oc8, od8, .func (PySem.W.fnOf "_law_heads" "_law_heads" (defArgs s__law_heads) (defBody s__law_heads) (defScope s__law_heads) .none kV8 dc8 pm8 an8 cd8 ct8), sl8⟩) (c8 : PySem.W.codeIn K cd8 "_law_heads" = true) (k8 : PySem.W.keepIn K (.ref f8) = true)
    (a9 : PySem.W.nsIn K PySem.mainGlobals "_law_tails" = some (some (.ref f9))) (l9 : K.lookup f9 = some ⟨oc9, od9, .func (PySem.W.fnOf "_law_tails" "_law_tails" (defArgs s__law_tails) (defBody s__law_tails) (defScope s__law_tails) .none kV9 dc9 pm9 an9 cd9 ct9), sl9⟩) (c9 : PySem.W.codeIn K cd9 "_law_tails" = true) (k9 : PySem.W.keepIn K (.ref f9) = true)
    (a10 : PySem.W.nsIn K PySem.mainGlobals "_law_up" = some (some (.ref f10))) (l10 : K.lookup f10 = some ⟨oc10, od10, .func (PySem.W.fnOf "_law_up" "_law_up" (defArgs s__law_up) (defBody s__law_up) (defScope s__law_up) .none kV10 dc10 pm10 an10 cd10 ct10), sl10⟩) (c10 : PySem.W.codeIn K cd10 "_law_up" = true) (k10 : PySem.W.keepIn K (.ref f10) = true)
    (a11 : PySem.W.nsIn K PySem.mainGlobals "_law_window" = some (some (.ref f11))) (l11 : K.lookup f11 = some ⟨oc11, od11, .func (PySem.W.fnOf "_law_window" "_law_window" (defArgs s__law_window) (defBody s__law_window) (defScope s__law_window) .none kV11 dc11 pm11 an11 cd11 ct11), sl11⟩) (c11 : PySem.W.codeIn K cd11 "_law_window" = true) (k11 : PySem.W.keepIn K (.ref f11) = true)
    (a12 : PySem.W.nsIn K PySem.mainGlobals "_law_window_bound" = some (some (.ref f12))) (l12 : K.lookup f12 = some ⟨oc12, od12, .func (PySem.W.fnOf "_law_window_bound" "_law_window_bound" (defArgs s__law_window_bound) (defBody s__law_window_bound) (defScope s__law_window_bound) .none kV12 dc12 pm12 an12 cd12 ct12), sl12⟩) (c12 : PySem.W.codeIn K cd12 "_law_window_bound" = true) (k12 : PySem.W.keepIn K (.ref f12) = true)
    (a13 : PySem.W.nsIn K PySem.mainGlobals "_law_same" = some (some (.ref f13))) (l13 : K.lookup f13 = some ⟨oc13, od13, .func (PySem.W.fnOf "_law_same" "_law_same" (defArgs s__law_same) (defBody s__law_same) (defScope s__law_same) .none kV13 dc13 pm13 an13 cd13 ct13), sl13⟩) (c13 : PySem.W.codeIn K cd13 "_law_same" = true) (k13 : PySem.W.keepIn K (.ref f13) = true)
    (a14 : PySem.W.nsIn K PySem.mainGlobals "is_whole" = some (some (.ref f14))) (l14 : K.lookup f14 = some ⟨oc14, od14, .func (PySem.W.fnOf "is_whole" "is_whole" (defArgs s_is_whole) (defBody s_is_whole) (defScope s_is_whole) .none kV14 dc14 pm14 an14 cd14 ct14), sl14⟩) (c14 : PySem.W.codeIn K cd14 "is_whole" = true) (k14 : PySem.W.keepIn K (.ref f14) = true)
    (a15 : PySem.W.nsIn K PySem.mainGlobals "_is_row" = some (some (.ref f15))) (l15 : K.lookup f15 = some ⟨oc15, od15, .func (PySem.W.fnOf "_is_row" "_is_row" (defArgs s__is_row) (defBody s__is_row) (defScope s__is_row) .none kV15 dc15 pm15 an15 cd15 ct15), sl15⟩) (c15 : PySem.W.codeIn K cd15 "_is_row" = true) (k15 : PySem.W.keepIn K (.ref f15) = true)
    (a16 : PySem.W.nsIn K PySem.mainGlobals "is_graph" = some (some (.ref f16))) (l16 : K.lookup f16 = some ⟨oc16, od16, .func (PySem.W.fnOf "is_graph" "is_graph" (defArgs s_is_graph) (defBody s_is_graph) (defScope s_is_graph) .none kV16 dc16 pm16 an16 cd16 ct16), sl16⟩) (c16 : PySem.W.codeIn K cd16 "is_graph" = true) (k16 : PySem.W.keepIn K (.ref f16) = true)
    (a17 : PySem.W.nsIn K PySem.mainGlobals "need_graph" = some (some (.ref f17))) (l17 : K.lookup f17 = some ⟨oc17, od17, .func (PySem.W.fnOf "need_graph" "need_graph" (defArgs s_need_graph) (defBody s_need_graph) (defScope s_need_graph) .none kV17 dc17 pm17 an17 cd17 ct17), sl17⟩) (c17 : PySem.W.codeIn K cd17 "need_graph" = true) (k17 : PySem.W.keepIn K (.ref f17) = true)
    (a18 : PySem.W.nsIn K PySem.mainGlobals "work" = some (some (.ref f18))) (l18 : K.lookup f18 = some ⟨oc18, od18, .func (PySem.W.fnOf "work" "work" (defArgs s_work) (defBody s_work) (defScope s_work) .none kV18 dc18 pm18 an18 cd18 ct18), sl18⟩) (c18 : PySem.W.codeIn K cd18 "work" = true) (k18 : PySem.W.keepIn K (.ref f18) = true)
    (a19 : PySem.W.nsIn K PySem.mainGlobals "heads_of" = some (some (.ref f19))) (l19 : K.lookup f19 = some ⟨oc19, od19, .func (PySem.W.fnOf "heads_of" "heads_of" (defArgs s_heads_of) (defBody s_heads_of) (defScope s_heads_of) .none kV19 dc19 pm19 an19 cd19 ct19), sl19⟩) (c19 : PySem.W.codeIn K cd19 "heads_of" = true) (k19 : PySem.W.keepIn K (.ref f19) = true)
    (a20 : PySem.W.nsIn K PySem.mainGlobals "span_of" = some (some (.ref f20))) (l20 : K.lookup f20 = some ⟨oc20, od20, .func (PySem.W.fnOf "span_of" "span_of" (defArgs s_span_of) (defBody s_span_of) (defScope s_span_of) .none kV20 dc20 pm20 an20 cd20 ct20), sl20⟩) (c20 : PySem.W.codeIn K cd20 "span_of" = true) (k20 : PySem.W.keepIn K (.ref f20) = true)
    (a21 : PySem.W.nsIn K PySem.mainGlobals "span" = some (some (.ref f21))) (l21 : K.lookup f21 = some ⟨oc21, od21, .func (PySem.W.fnOf "span" "span" (defArgs s_span) (defBody s_span) (defScope s_span) .none kV21 dc21 pm21 an21 cd21 ct21), sl21⟩) (c21 : PySem.W.codeIn K cd21 "span" = true) (k21 : PySem.W.keepIn K (.ref f21) = true)
    (a22 : PySem.W.nsIn K PySem.mainGlobals "area_of" = some (some (.ref f22))) (l22 : K.lookup f22 = some ⟨oc22, od22, .func (PySem.W.fnOf "area_of" "area_of" (defArgs s_area_of) (defBody s_area_of) (defScope s_area_of) .none kV22 dc22 pm22 an22 cd22 ct22), sl22⟩) (c22 : PySem.W.codeIn K cd22 "area_of" = true) (k22 : PySem.W.keepIn K (.ref f22) = true)
    (a23 : PySem.W.nsIn K PySem.mainGlobals "area_bound" = some (some (.ref f23))) (l23 : K.lookup f23 = some ⟨oc23, od23, .func (PySem.W.fnOf "area_bound" "area_bound" (defArgs s_area_bound) (defBody s_area_bound) (defScope s_area_bound) .none kV23 dc23 pm23 an23 cd23 ct23), sl23⟩) (c23 : PySem.W.codeIn K cd23 "area_bound" = true) (k23 : PySem.W.keepIn K (.ref f23) = true)
    (a24 : PySem.W.nsIn K PySem.mainGlobals "tails_of" = some (some (.ref f24))) (l24 : K.lookup f24 = some ⟨oc24, od24, .func (PySem.W.fnOf "tails_of" "tails_of" (defArgs s_tails_of) (defBody s_tails_of) (defScope s_tails_of) .none kV24 dc24 pm24 an24 cd24 ct24), sl24⟩) (c24 : PySem.W.codeIn K cd24 "tails_of" = true) (k24 : PySem.W.keepIn K (.ref f24) = true)
    (a25 : PySem.W.nsIn K PySem.mainGlobals "window_at" = some (some (.ref f25))) (l25 : K.lookup f25 = some ⟨oc25, od25, .func (PySem.W.fnOf "window_at" "window_at" (defArgs s_window_at) (defBody s_window_at) (defScope s_window_at) .none kV25 dc25 pm25 an25 cd25 ct25), sl25⟩) (c25 : PySem.W.codeIn K cd25 "window_at" = true) (k25 : PySem.W.keepIn K (.ref f25) = true)
    (a26 : PySem.W.nsIn K PySem.mainGlobals "best_window" = some (some (.ref f26))) (l26 : K.lookup f26 = some ⟨oc26, od26, .func (PySem.W.fnOf "best_window" "best_window" (defArgs s_best_window) (defBody s_best_window) (defScope s_best_window) .none kV26 dc26 pm26 an26 cd26 ct26), sl26⟩) (c26 : PySem.W.codeIn K cd26 "best_window" = true) (k26 : PySem.W.keepIn K (.ref f26) = true)
    (a27 : PySem.W.nsIn K PySem.mainGlobals "window_bound" = some (some (.ref f27))) (l27 : K.lookup f27 = some ⟨oc27, od27, .func (PySem.W.fnOf "window_bound" "window_bound" (defArgs s_window_bound) (defBody s_window_bound) (defScope s_window_bound) .none kV27 dc27 pm27 an27 cd27 ct27), sl27⟩) (c27 : PySem.W.codeIn K cd27 "window_bound" = true) (k27 : PySem.W.keepIn K (.ref f27) = true)
    (a28 : PySem.W.nsIn K PySem.mainGlobals "ready_nodes" = some (some (.ref f28))) (l28 : K.lookup f28 = some ⟨oc28, od28, .func (PySem.W.fnOf "ready_nodes" "ready_nodes" (defArgs s_ready_nodes) (defBody s_ready_nodes) (defScope s_ready_nodes) .none kV28 dc28 pm28 an28 cd28 ct28), sl28⟩) (c28 : PySem.W.codeIn K cd28 "ready_nodes" = true) (k28 : PySem.W.keepIn K (.ref f28) = true)
    (a29 : PySem.W.nsIn K PySem.mainGlobals "with_nodes" = some (some (.ref f29))) (l29 : K.lookup f29 = some ⟨oc29, od29, .func (PySem.W.fnOf "with_nodes" "with_nodes" (defArgs s_with_nodes) (defBody s_with_nodes) (defScope s_with_nodes) .none kV29 dc29 pm29 an29 cd29 ct29), sl29⟩) (c29 : PySem.W.codeIn K cd29 "with_nodes" = true) (k29 : PySem.W.keepIn K (.ref f29) = true)
    (a30 : PySem.W.nsIn K PySem.mainGlobals "closed_sets" = some (some (.ref f30))) (l30 : K.lookup f30 = some ⟨oc30, od30, .func (PySem.W.fnOf "closed_sets" "closed_sets" (defArgs s_closed_sets) (defBody s_closed_sets) (defScope s_closed_sets) .none kV30 dc30 pm30 an30 cd30 ct30), sl30⟩) (c30 : PySem.W.codeIn K cd30 "closed_sets" = true) (k30 : PySem.W.keepIn K (.ref f30) = true)
    (a31 : PySem.W.nsIn K PySem.mainGlobals "choices" = some (some (.ref f31))) (l31 : K.lookup f31 = some ⟨oc31, od31, .func (PySem.W.fnOf "choices" "choices" (defArgs s_choices) (defBody s_choices) (defScope s_choices) .none kV31 dc31 pm31 an31 cd31 ct31), sl31⟩) (c31 : PySem.W.codeIn K cd31 "choices" = true) (k31 : PySem.W.keepIn K (.ref f31) = true)
    (a32 : PySem.W.nsIn K PySem.mainGlobals "full_steps" = some (some (.ref f32))) (l32 : K.lookup f32 = some ⟨oc32, od32, .func (PySem.W.fnOf "full_steps" "full_steps" (defArgs s_full_steps) (defBody s_full_steps) (defScope s_full_steps) .none kV32 dc32 pm32 an32 cd32 ct32), sl32⟩) (c32 : PySem.W.codeIn K cd32 "full_steps" = true) (k32 : PySem.W.keepIn K (.ref f32) = true)
    (a33 : PySem.W.nsIn K PySem.mainGlobals "rests_of" = some (some (.ref f33))) (l33 : K.lookup f33 = some ⟨oc33, od33, .func (PySem.W.fnOf "rests_of" "rests_of" (defArgs s_rests_of) (defBody s_rests_of) (defScope s_rests_of) .none kV33 dc33 pm33 an33 cd33 ct33), sl33⟩) (c33 : PySem.W.codeIn K cd33 "rests_of" = true) (k33 : PySem.W.keepIn K (.ref f33) = true)
    (a34 : PySem.W.nsIn K PySem.mainGlobals "least" = some (some (.ref f34))) (l34 : K.lookup f34 = some ⟨oc34, od34, .func (PySem.W.fnOf "least" "least" (defArgs s_least) (defBody s_least) (defScope s_least) .none kV34 dc34 pm34 an34 cd34 ct34), sl34⟩) (c34 : PySem.W.codeIn K cd34 "least" = true) (k34 : PySem.W.keepIn K (.ref f34) = true)
    (a35 : PySem.W.nsIn K PySem.mainGlobals "step_bound" = some (some (.ref f35))) (l35 : K.lookup f35 = some ⟨oc35, od35, .func (PySem.W.fnOf "step_bound" "step_bound" (defArgs s_step_bound) (defBody s_step_bound) (defScope s_step_bound) .none kV35 dc35 pm35 an35 cd35 ct35), sl35⟩) (c35 : PySem.W.codeIn K cd35 "step_bound" = true) (k35 : PySem.W.keepIn K (.ref f35) = true)
    (a36 : PySem.W.nsIn K PySem.mainGlobals "_law_bounds" = some (some (.ref f36))) (l36 : K.lookup f36 = some ⟨oc36, od36, .func (PySem.W.fnOf "_law_bounds" "_law_bounds" (defArgs s__law_bounds) (defBody s__law_bounds) (defScope s__law_bounds) .none kV36 dc36 pm36 an36 cd36 ct36), sl36⟩) (c36 : PySem.W.codeIn K cd36 "_law_bounds" = true) (k36 : PySem.W.keepIn K (.ref f36) = true)
    (a37 : PySem.W.nsIn K PySem.mainGlobals "law" = some (some (.ref f37))) (l37 : K.lookup f37 = some ⟨oc37, od37, .func (PySem.W.fnOf "law" "law" (defArgs s_law) (defBody s_law) (defScope s_law) .none kV37 dc37 pm37 an37 cd37 ct37), sl37⟩) (c37 : PySem.W.codeIn K cd37 "law" = true) (k37 : PySem.W.keepIn K (.ref f37) = true)
    (aC_InvalidGraph : PySem.W.nsIn K PySem.mainGlobals "InvalidGraph" = some (some (.ref C_InvalidGraph)))
    (ga_InvalidGraph : PySem.W.findIn K (.ref C_InvalidGraph) "__getattribute__" = some (some (.builtin "BaseException.__getattribute__"))) (gg_InvalidGraph : PySem.W.findIn K (.ref C_InvalidGraph) "__getattr__" = some none) (eC_InvalidGraph : PySem.W.subIn K (.ref C_InvalidGraph) (.type "BaseException") = some true) (hC_InvalidGraph : PySem.W.hasDictIn K C_InvalidGraph = true)
    (tC_InvalidGraph : PySem.W.typeIn K (.ref C_InvalidGraph) = some (.type "type"))
    (n0_InvalidGraph : PySem.W.findIn K (.ref C_InvalidGraph) "value" = some none)
    (xL_InvalidGraph : K.lookup C_InvalidGraph = some (PySem.excClassObj nm_InvalidGraph qn_InvalidGraph C_InvalidGraph N_InvalidGraph bs_InvalidGraph bm_InvalidGraph true sn_InvalidGraph su_InvalidGraph ab_InvalidGraph co_InvalidGraph dd_InvalidGraph p0_InvalidGraph p1_InvalidGraph p2_InvalidGraph p3_InvalidGraph p5_InvalidGraph "ValueError.__new__")) (rv_InvalidGraph : PySem.HandSPX.refsVE bm_InvalidGraph = true) (sa_InvalidGraph : PySem.W.findIn K (.ref C_InvalidGraph) "__setattr__" = some (some (.builtin "object.__setattr__"))) (kC_InvalidGraph : PySem.W.keepIn K (.ref C_InvalidGraph) = true) (iC_InvalidGraph : PySem.W.findIn K (.ref C_InvalidGraph) "__init__" = some (some (.ref I_InvalidGraph))) (tI_InvalidGraph : PySem.W.typeIn K (.ref I_InvalidGraph) = some (.type "function")) (lI_InvalidGraph : K.lookup I_InvalidGraph = some ⟨oc_InvalidGraph, od_InvalidGraph, .func (PySem.W.fnOf "__init__" "InvalidGraph.__init__" (defArgs s_InvalidGraph_i) (defBody s_InvalidGraph_i) (defScope s_InvalidGraph_i) .none kV_InvalidGraph dc_InvalidGraph pm_InvalidGraph an_InvalidGraph cd_InvalidGraph ct_InvalidGraph), sl_InvalidGraph⟩) (cI_InvalidGraph : PySem.W.codeIn K cd_InvalidGraph "InvalidGraph.__init__" = true) (kI_InvalidGraph : PySem.W.keepIn K (.ref I_InvalidGraph) = true)
    (aC_SpanError : PySem.W.nsIn K PySem.mainGlobals "SpanError" = some (some (.ref C_SpanError)))
    (ga_SpanError : PySem.W.findIn K (.ref C_SpanError) "__getattribute__" = some (some (.builtin "BaseException.__getattribute__"))) (gg_SpanError : PySem.W.findIn K (.ref C_SpanError) "__getattr__" = some none) (eC_SpanError : PySem.W.subIn K (.ref C_SpanError) (.type "BaseException") = some true) (hC_SpanError : PySem.W.hasDictIn K C_SpanError = true)
    (tC_SpanError : PySem.W.typeIn K (.ref C_SpanError) = some (.type "type"))
    (ic_SpanError : PySem.W.isClsIn K C_SpanError = true)
    (x_InvalidGraph_SpanError : PySem.W.subIn K (.ref C_InvalidGraph) (.ref C_SpanError) = some true)
    (z_list : PySem.W.nsIn K PySem.mainGlobals "list" = some none) (z_len : PySem.W.nsIn K PySem.mainGlobals "len" = some none) (z_int : PySem.W.nsIn K PySem.mainGlobals "int" = some none) (z_abs : PySem.W.nsIn K PySem.mainGlobals "abs" = some none) (z_range : PySem.W.nsIn K PySem.mainGlobals "range" = some none) (z_tuple : PySem.W.nsIn K PySem.mainGlobals "tuple" = some none) (z_min : PySem.W.nsIn K PySem.mainGlobals "min" = some none) (z_sorted : PySem.W.nsIn K PySem.mainGlobals "sorted" = some none) (z_max : PySem.W.nsIn K PySem.mainGlobals "max" = some none) (z_reversed : PySem.W.nsIn K PySem.mainGlobals "reversed" = some none) (z_isinstance : PySem.W.nsIn K PySem.mainGlobals "isinstance" = some none) (z_bool : PySem.W.nsIn K PySem.mainGlobals "bool" = some none) (z_str : PySem.W.nsIn K PySem.mainGlobals "str" = some none) (z_all : PySem.W.nsIn K PySem.mainGlobals "all" = some none) (z_enumerate : PySem.W.nsIn K PySem.mainGlobals "enumerate" = some none) (z_zip : PySem.W.nsIn K PySem.mainGlobals "zip" = some none) :
    ∃ fd : PySem.FuncData, (∀ (s : PySem.Shared) (v : PySem.Value), PySem.BindsTo s fd ⟨[v], []⟩ [("_law_script", v)]) ∧ ∀ base : PySem.Heap, K.In base → base.Ns PySem.mainGlobals mg → GRun l.prog w K mg base 13 fa fd ["_law_script"] (spD K mg 1 m_law) := by
  have e := hfa.symm.trans (PySem.W.mg_of X G a37)
  cases e
  have F1 := fun_mk (st := s__law_pool) l1 c1 k1
  have b1 := F1.binds (ps := ["_law_script"]) fun _ _ _ _ _ _ us hl => match us, hl with | [_], _ => rfl
  have F2 := fun_mk (st := s__law_draw) l2 c2 k2
  have b2 := F2.binds (ps := ["_law_pool_here", "_law_many"]) fun _ _ _ _ _ _ us hl => match us, hl with | [_, _], _ => rfl
  have F3 := fun_mk (st := s__law_graph) l3 c3 k3
  have b3 := F3.binds (ps := ["_law_pool_here", "_law_most"]) fun _ _ _ _ _ _ us hl => match us, hl with | [_, _], _ => rfl
  have F4 := fun_mk (st := s__law_ready) l4 c4 k4
  have b4 := F4.binds (ps := ["_law_graph_here", "_law_done"]) fun _ _ _ _ _ _ us hl => match us, hl with | [_, _], _ => rfl
  have F5 := fun_mk (st := s__law_choices) l5 c5 k5
  have b5 := F5.binds (ps := ["_law_rows", "_law_size"]) fun _ _ _ _ _ _ us hl => match us, hl with | [_, _], _ => rfl
  have F6 := fun_mk (st := s__law_steps) l6 c6 k6
  have b6 := F6.binds (ps := ["_law_graph_here", "_law_cores", "_law_done"]) fun _ _ _ _ _ _ us hl => match us, hl with | [_, _, _], _ => rfl
  have F7 := fun_mk (st := s__law_least) l7 c7 k7
  have b7 := F7.binds (ps := ["_law_graph_here", "_law_cores"]) fun _ _ _ _ _ _ us hl => match us, hl with | [_, _], _ => rfl
  have F8 := fun_mk (st := s__law_heads) l8 c8 k8
  have b8 := F8.binds (ps := ["_law_graph_here"]) fun _ _ _ _ _ _ us hl => match us, hl with | [_], _ => rfl
  have F9 := fun_mk (st := s__law_tails) l9 c9 k9
  have b9 := F9.binds (ps := ["_law_graph_here"]) fun _ _ _ _ _ _ us hl => match us, hl with | [_], _ => rfl
  have F10 := fun_mk (st := s__law_up) l10 c10 k10
  have b10 := F10.binds (ps := ["_law_many", "_law_cores"]) fun _ _ _ _ _ _ us hl => match us, hl with | [_, _], _ => rfl
  have F11 := fun_mk (st := s__law_window) l11 c11 k11
  have b11 := F11.binds (ps := ["_law_graph_here", "_law_cores", "_law_a", "_law_b"]) fun _ _ _ _ _ _ us hl => match us, hl with | [_, _, _, _], _ => rfl
  have F12 := fun_mk (st := s__law_window_bound) l12 c12 k12
  have b12 := F12.binds (ps := ["_law_graph_here", "_law_cores"]) fun _ _ _ _ _ _ us hl => match us, hl with | [_, _], _ => rfl
  have F13 := fun_mk (st := s__law_same) l13 c13 k13
  have b13 := F13.binds (ps := ["_law_actual", "_law_value"]) fun _ _ _ _ _ _ us hl => match us, hl with | [_, _], _ => rfl
  have F14 := fun_mk (st := s_is_whole) l14 c14 k14
  have b14 := F14.binds (ps := ["value"]) fun _ _ _ _ _ _ us hl => match us, hl with | [_], _ => rfl
  have F15 := fun_mk (st := s__is_row) l15 c15 k15
  have b15 := F15.binds (ps := ["value", "at"]) fun _ _ _ _ _ _ us hl => match us, hl with | [_, _], _ => rfl
  have F16 := fun_mk (st := s_is_graph) l16 c16 k16
  have b16 := F16.binds (ps := ["value"]) fun _ _ _ _ _ _ us hl => match us, hl with | [_], _ => rfl
  have F17 := fun_mk (st := s_need_graph) l17 c17 k17
  have b17 := F17.binds (ps := ["graph"]) fun _ _ _ _ _ _ us hl => match us, hl with | [_], _ => rfl
  have F18 := fun_mk (st := s_work) l18 c18 k18
  have b18 := F18.binds (ps := ["graph"]) fun _ _ _ _ _ _ us hl => match us, hl with | [_], _ => rfl
  have F19 := fun_mk (st := s_heads_of) l19 c19 k19
  have b19 := F19.binds (ps := ["graph"]) fun _ _ _ _ _ _ us hl => match us, hl with | [_], _ => rfl
  have F20 := fun_mk (st := s_span_of) l20 c20 k20
  have b20 := F20.binds (ps := ["graph"]) fun _ _ _ _ _ _ us hl => match us, hl with | [_], _ => rfl
  have F21 := fun_mk (st := s_span) l21 c21 k21
  have b21 := F21.binds (ps := ["graph"]) fun _ _ _ _ _ _ us hl => match us, hl with | [_], _ => rfl
  have F22 := fun_mk (st := s_area_of) l22 c22 k22
  have b22 := F22.binds (ps := ["graph", "cores"]) fun _ _ _ _ _ _ us hl => match us, hl with | [_, _], _ => rfl
  have F23 := fun_mk (st := s_area_bound) l23 c23 k23
  have b23 := F23.binds (ps := ["graph", "cores"]) fun _ _ _ _ _ _ us hl => match us, hl with | [_, _], _ => rfl
  have F24 := fun_mk (st := s_tails_of) l24 c24 k24
  have b24 := F24.binds (ps := ["graph"]) fun _ _ _ _ _ _ us hl => match us, hl with | [_], _ => rfl
  have F25 := fun_mk (st := s_window_at) l25 c25 k25
  have b25 := F25.binds (ps := ["graph", "cores", "a", "b"]) fun _ _ _ _ _ _ us hl => match us, hl with | [_, _, _, _], _ => rfl
  have F26 := fun_mk (st := s_best_window) l26 c26 k26
  have b26 := F26.binds (ps := ["graph", "cores"]) fun _ _ _ _ _ _ us hl => match us, hl with | [_, _], _ => rfl
  have F27 := fun_mk (st := s_window_bound) l27 c27 k27
  have b27 := F27.binds (ps := ["graph", "cores"]) fun _ _ _ _ _ _ us hl => match us, hl with | [_, _], _ => rfl
  have F28 := fun_mk (st := s_ready_nodes) l28 c28 k28
  have b28 := F28.binds (ps := ["graph", "done"]) fun _ _ _ _ _ _ us hl => match us, hl with | [_, _], _ => rfl
  have F29 := fun_mk (st := s_with_nodes) l29 c29 k29
  have b29 := F29.binds (ps := ["done", "step"]) fun _ _ _ _ _ _ us hl => match us, hl with | [_, _], _ => rfl
  have F30 := fun_mk (st := s_closed_sets) l30 c30 k30
  have b30 := F30.binds (ps := ["graph"]) fun _ _ _ _ _ _ us hl => match us, hl with | [_], _ => rfl
  have F31 := fun_mk (st := s_choices) l31 c31 k31
  have b31 := F31.binds (ps := ["row", "count"]) fun _ _ _ _ _ _ us hl => match us, hl with | [_, _], _ => rfl
  have F32 := fun_mk (st := s_full_steps) l32 c32 k32
  have b32 := F32.binds (ps := ["graph", "cores", "done"]) fun _ _ _ _ _ _ us hl => match us, hl with | [_, _, _], _ => rfl
  have F33 := fun_mk (st := s_rests_of) l33 c33 k33
  have b33 := F33.binds (ps := ["graph", "cores"]) fun _ _ _ _ _ _ us hl => match us, hl with | [_, _], _ => rfl
  have F34 := fun_mk (st := s_least) l34 c34 k34
  have b34 := F34.binds (ps := ["graph", "cores"]) fun _ _ _ _ _ _ us hl => match us, hl with | [_, _], _ => rfl
  have F35 := fun_mk (st := s_step_bound) l35 c35 k35
  have b35 := F35.binds (ps := ["graph", "cores"]) fun _ _ _ _ _ _ us hl => match us, hl with | [_, _], _ => rfl
  have F36 := fun_mk (st := s__law_bounds) l36 c36 k36
  have b36 := F36.binds (ps := ["_law_graph_here", "_law_cores"]) fun _ _ _ _ _ _ us hl => match us, hl with | [_, _], _ => rfl
  have F37 := fun_mk (st := s_law) l37 c37 k37
  have FI_InvalidGraph := fun_mk (st := s_InvalidGraph_i) lI_InvalidGraph cI_InvalidGraph kI_InvalidGraph
  have bI_InvalidGraph := FI_InvalidGraph.binds (ps := ["self", "value"]) fun _ _ _ _ _ _ us hl => match us, hl with | [_, _], _ => rfl
  have y_list : mg "list" = none := PySem.W.mg_none_of X G z_list
  have y_len : mg "len" = none := PySem.W.mg_none_of X G z_len
  have y_int : mg "int" = none := PySem.W.mg_none_of X G z_int
  have y_abs : mg "abs" = none := PySem.W.mg_none_of X G z_abs
  have y_range : mg "range" = none := PySem.W.mg_none_of X G z_range
  have y_tuple : mg "tuple" = none := PySem.W.mg_none_of X G z_tuple
  have y_min : mg "min" = none := PySem.W.mg_none_of X G z_min
  have y_sorted : mg "sorted" = none := PySem.W.mg_none_of X G z_sorted
  have y_max : mg "max" = none := PySem.W.mg_none_of X G z_max
  have y_reversed : mg "reversed" = none := PySem.W.mg_none_of X G z_reversed
  have y_isinstance : mg "isinstance" = none := PySem.W.mg_none_of X G z_isinstance
  have y_bool : mg "bool" = none := PySem.W.mg_none_of X G z_bool
  have y_str : mg "str" = none := PySem.W.mg_none_of X G z_str
  have y_all : mg "all" = none := PySem.W.mg_none_of X G z_all
  have y_enumerate : mg "enumerate" = none := PySem.W.mg_none_of X G z_enumerate
  have y_zip : mg "zip" = none := PySem.W.mg_none_of X G z_zip
  have K_SpanError : ClsK K mg "SpanError" [] C_SpanError := ⟨PySem.W.mg_of X G aC_SpanError, ⟨ga_SpanError, gg_SpanError, eC_SpanError, hC_SpanError⟩, fun f hf => by simp at hf⟩
  have M_InvalidGraph_SpanError : ExmK K mg "InvalidGraph" C_SpanError true := ⟨⟨C_InvalidGraph, PySem.W.mg_of X G aC_InvalidGraph, exm_of eC_SpanError ic_SpanError tC_SpanError x_InvalidGraph_SpanError⟩⟩
  refine ⟨PySem.W.fnOf "law" "law" (defArgs s_law) (defBody s_law) (defScope s_law) .none kV37 dc37 pm37 an37 cd37 ct37, fun s v => .of_eq rfl, fun base _ _ => ?_⟩
  have E_InvalidGraph : ErrK l.prog w K mg base "InvalidGraph" ["value"] := er_InvalidGraph FI_InvalidGraph (PySem.W.mg_of X G aC_InvalidGraph) ⟨⟨_, _, _, _, _, _, _, _, _, _, _, _, _, _, _, xL_InvalidGraph, rv_InvalidGraph⟩, sa_InvalidGraph, eC_InvalidGraph, tC_InvalidGraph, kC_InvalidGraph⟩ ⟨ga_InvalidGraph, gg_InvalidGraph, eC_InvalidGraph, hC_InvalidGraph⟩ n0_InvalidGraph iC_InvalidGraph tI_InvalidGraph bI_InvalidGraph
  have H__law_pool : CallOk l.prog w K mg base "_law_pool" 1 1 m__law_pool := ok__law_pool F1 (PySem.W.mg_of X G a1) b1 y_list
  have HM__law_draw : CallM l.prog w K mg base "_law_draw" 1 1 m__law_draw := om__law_draw F2 (PySem.W.mg_of X G a2) b2 y_len y_int y_abs
  have HM__law_graph : CallM l.prog w K mg base "_law_graph" 2 1 m__law_graph := om__law_graph F3 (PySem.W.mg_of X G a3) b3 HM__law_draw y_range y_tuple
  have H__law_ready : CallOk l.prog w K mg base "_law_ready" 1 2 m__law_ready := ok__law_ready F4 (PySem.W.mg_of X G a4) b4 y_len y_range
  have H__law_choices : CallOk l.prog w K mg base "_law_choices" 1 2 m__law_choices := ok__law_choices F5 (PySem.W.mg_of X G a5) b5 y_len
  have H__law_steps : CallOk l.prog w K mg base "_law_steps" 2 3 m__law_steps := ok__law_steps F6 (PySem.W.mg_of X G a6) b6 H__law_ready H__law_choices y_len y_min y_sorted y_tuple
  have H__law_least : CallOk l.prog w K mg base "_law_least" 3 2 m__law_least := ok__law_least F7 (PySem.W.mg_of X G a7) b7 H__law_steps y_len y_range y_tuple
  have H__law_heads : CallOk l.prog w K mg base "_law_heads" 1 1 m__law_heads := ok__law_heads F8 (PySem.W.mg_of X G a8) b8 y_max
  have H__law_tails : CallOk l.prog w K mg base "_law_tails" 1 1 m__law_tails := ok__law_tails F9 (PySem.W.mg_of X G a9) b9 y_len y_reversed y_range y_max
  have H__law_up : CallOk l.prog w K mg base "_law_up" 1 2 m__law_up := ok__law_up F10 (PySem.W.mg_of X G a10) b10 
  have H__law_window : CallOk l.prog w K mg base "_law_window" 2 4 m__law_window := ok__law_window F11 (PySem.W.mg_of X G a11) b11 H__law_heads H__law_tails H__law_up y_len y_range
  have H__law_window_bound : CallOk l.prog w K mg base "_law_window_bound" 3 2 m__law_window_bound := ok__law_window_bound F12 (PySem.W.mg_of X G a12) b12 H__law_window y_len y_range y_max
  have H__law_same : CallOk l.prog w K mg base "_law_same" 12 2 m__law_same := ok__law_same F13 (PySem.W.mg_of X G a13) b13 y_isinstance y_int y_bool y_str y_len y_tuple y_range 12
  have H_is_whole : CallOk l.prog w K mg base "is_whole" 1 1 m_is_whole := ok_is_whole F14 (PySem.W.mg_of X G a14) b14 y_isinstance y_bool y_int
  have H__is_row : CallOk l.prog w K mg base "_is_row" 2 2 m__is_row := ok__is_row F15 (PySem.W.mg_of X G a15) b15 H_is_whole y_all y_isinstance y_tuple y_len y_range
  have H_is_graph : CallOk l.prog w K mg base "is_graph" 3 1 m_is_graph := ok_is_graph F16 (PySem.W.mg_of X G a16) b16 H__is_row y_enumerate y_all y_isinstance y_tuple
  have H_need_graph : CallOk l.prog w K mg base "need_graph" 4 1 m_need_graph := ok_need_graph F17 (PySem.W.mg_of X G a17) b17 H_is_graph E_InvalidGraph
  have H_work : CallOk l.prog w K mg base "work" 5 1 m_work := ok_work F18 (PySem.W.mg_of X G a18) b18 H_need_graph y_len
  have H_heads_of : CallOk l.prog w K mg base "heads_of" 1 1 m_heads_of := ok_heads_of F19 (PySem.W.mg_of X G a19) b19 y_max
  have H_span_of : CallOk l.prog w K mg base "span_of" 2 1 m_span_of := ok_span_of F20 (PySem.W.mg_of X G a20) b20 H_heads_of y_max
  have H_span : CallOk l.prog w K mg base "span" 5 1 m_span := ok_span F21 (PySem.W.mg_of X G a21) b21 H_need_graph H_span_of
  have H_area_of : CallOk l.prog w K mg base "area_of" 1 2 m_area_of := ok_area_of F22 (PySem.W.mg_of X G a22) b22 y_len
  have H_area_bound : CallOk l.prog w K mg base "area_bound" 5 2 m_area_bound := ok_area_bound F23 (PySem.W.mg_of X G a23) b23 H_need_graph H_area_of
  have H_tails_of : CallOk l.prog w K mg base "tails_of" 1 1 m_tails_of := ok_tails_of F24 (PySem.W.mg_of X G a24) b24 y_len y_range y_max
  have H_window_at : CallOk l.prog w K mg base "window_at" 2 4 m_window_at := ok_window_at F25 (PySem.W.mg_of X G a25) b25 H_heads_of H_tails_of y_zip y_len
  have H_best_window : CallOk l.prog w K mg base "best_window" 3 2 m_best_window := ok_best_window F26 (PySem.W.mg_of X G a26) b26 H_heads_of H_tails_of H_window_at y_list y_sorted
  have H_window_bound : CallOk l.prog w K mg base "window_bound" 5 2 m_window_bound := ok_window_bound F27 (PySem.W.mg_of X G a27) b27 H_need_graph H_best_window
  have H_ready_nodes : CallOk l.prog w K mg base "ready_nodes" 1 2 m_ready_nodes := ok_ready_nodes F28 (PySem.W.mg_of X G a28) b28 y_enumerate y_all
  have H_with_nodes : CallOk l.prog w K mg base "with_nodes" 1 2 m_with_nodes := ok_with_nodes F29 (PySem.W.mg_of X G a29) b29 y_sorted y_tuple
  have H_closed_sets : CallOk l.prog w K mg base "closed_sets" 2 1 m_closed_sets := ok_closed_sets F30 (PySem.W.mg_of X G a30) b30 H_ready_nodes H_with_nodes y_list
  have H_choices : CallOk l.prog w K mg base "choices" 1 2 m_choices := ok_choices F31 (PySem.W.mg_of X G a31) b31 y_range y_len
  have H_full_steps : CallOk l.prog w K mg base "full_steps" 2 3 m_full_steps := ok_full_steps F32 (PySem.W.mg_of X G a32) b32 H_ready_nodes H_choices y_len y_min
  have H_rests_of : CallOk l.prog w K mg base "rests_of" 3 2 m_rests_of := ok_rests_of F33 (PySem.W.mg_of X G a33) b33 H_closed_sets H_full_steps H_with_nodes y_len y_min
  have H_least : CallOk l.prog w K mg base "least" 5 2 m_least := ok_least F34 (PySem.W.mg_of X G a34) b34 H_need_graph H_rests_of
  have H_step_bound : CallOk l.prog w K mg base "step_bound" 5 2 m_step_bound := ok_step_bound F35 (PySem.W.mg_of X G a35) b35 H_need_graph H_span_of y_len
  have H__law_bounds : CallOk l.prog w K mg base "_law_bounds" 6 2 m__law_bounds := ok__law_bounds F36 (PySem.W.mg_of X G a36) b36 H_step_bound H_least H_window_bound H_area_bound H_span H_work K_SpanError M_InvalidGraph_SpanError
  exact ok_law F37 H__law_pool H__law_heads H__law_least H__law_window_bound H__law_up H__law_same H__law_bounds HM__law_graph HM__law_draw y_max y_len y_range y_int
end K52
namespace K52
open FK LM
/-! ### chunk draw -/
theorem iL_set (xs : List Int) (j : Nat) (v : Int) : (iL xs).set j (D.int v) = iL (xs.set j v) := by
  unfold iL
  rw [List.map_set]
theorem pool_ok (ns : List Int) (k : Kd) (hk : InK k) (hl : ns.length ≤ 63) : m__law_pool [(.lst (iL ns), k)] = .ok (.lst (iL (0 :: 7 :: 3 :: ns)), .ow) := by
  have hd := dVar_in hk (.lst (iL ns))
  have sz := sizeLine_val
  have hadd : opAdd (.lst (D.int 0 :: D.int 7 :: iL [3]), .ow) (.lst (iL ns), .ow) = .ok (.lst (iL (0 :: 7 :: 3 :: ns)), .ow) := by
    show opAdd (.lst (iL [0, 7, 3]), .ow) _ = _
    rw [add_lst _ _ (by simp; omega), iL_append]
    rfl
  refine R.w_eq (runD_w ?_)
  simp (dsimp := false) [b__law_pool, hd, hadd]
theorem draw_ok (a b c : Int) (r : List Int) (m : Int) (ha : 0 ≤ a) (hc : 0 ≤ c) (hr : r.length ≤ 97) (h1 : 1 ≤ m) (h2 : m < 1073741824) :
    (m__law_draw (.lst (iL (a :: b :: c :: r))) [(.int m, .fz)]).w fun x => ∃ v a' b' c' : Int, x = ((.int v, .fz), .lst (iL (a' :: b' :: c' :: r))) ∧ 0 ≤ v ∧ v < m ∧ 0 ≤ a' ∧ 0 ≤ c' := by
  have hm : 0 < m := by omega
  have x0 : ∀ a b c : Int, ixD (.lst (iL (a :: b :: c :: r)), .al) (.int 0, .fz) = .ok (.int a, .fz) := fun _ _ _ => ix_lst (j := 0) _ _ rfl rfl
  have x1 : ∀ a b c : Int, ixD (.lst (iL (a :: b :: c :: r)), .al) (.int 1, .fz) = .ok (.int b, .fz) := fun _ _ _ => ix_lst (j := 1) _ _ rfl rfl
  have x2 : ∀ a b c : Int, ixD (.lst (iL (a :: b :: c :: r)), .al) (.int 2, .fz) = .ok (.int c, .fz) := fun _ _ _ => ix_lst (j := 2) _ _ rfl rfl
  have i0 : L2.ixN (r.length + 1 + 1 + 1) 0 = some 0 := by unfold L2.ixN; simp; omega
  have i1 : L2.ixN (r.length + 1 + 1 + 1) 1 = some 1 := by unfold L2.ixN; simp; omega
  have i2 : L2.ixN (r.length + 1 + 1 + 1) 2 = some 2 := by unfold L2.ixN; simp; omega
  have tail : ∀ (a b c : Int) (x y z : Option DV), 0 ≤ a → 0 ≤ c → SOp.w ((pSeq (pIf (dCmp (cOrd oGt) (dBin ixD (dVar 0) (kInt 0)) (kInt 0)) (pSeq (pSet 3 (dBin (opInt fMod) (dCB (one gInt) (aCons (dBin ixD (dVar 0) (kInt 0)) aNil)) (dVar 1)))
    (pSeq (pPut (dBin (opInt fDiv) (dBin ixD (dVar 0) (kInt 0)) (dVar 1)) (kInt 0))
    (pRet (dVar 3)))) pNil)
    (pSeq (pPut (dBin (opInt fMod) (dCB (one gInt) (aCons (dBin opAdd (dBin opMul (dBin ixD (dVar 0) (kInt 1)) (kInt 48271)) (kInt 12345)) aNil)) (kInt 2147483647)) (kInt 1))
    (pSeq (pSet 4 (dBin (opInt fMod) (dCB (one gInt) (aCons (dBin opAdd (dBin opAdd (dBin opMul (dBin ixD (dVar 0) (kInt 1)) (kInt 69621)) (dBin (opInt fDiv) (dBin ixD (dVar 0) (kInt 1)) (kInt 65536))) (kInt 17)) aNil)) (kInt 2147483629)))
    (pRet (dBin (opInt fMod) (dCB (one gInt) (aCons (dBin (opInt fDiv) (dVar 4) (kInt 16)) aNil)) (dVar 1)))))) [some (.lst (iL (a :: b :: c :: r)), .ow), some (.int m, .fz), x, y, z]) (fun _ => False) (fun x ρ => x.2 = .fz ∧ ∃ d', slotOw ρ 0 = some d' ∧ ∃ v a' b' c' : Int, (x, d') = ((.int v, .fz), .lst (iL (a' :: b' :: c' :: r))) ∧ 0 ≤ v ∧ v < m ∧ 0 ≤ a' ∧ 0 ≤ c') := by
    intro a b c x y z ha hc
    by_cases p : 0 < a
    · simp (dsimp := false) [x0, x1, x2, i0, i1, i2, e_pPut, iL_set, p, imod, idiv, hm, h2]
      refine ⟨_, rfl, _, _, _, _, ⟨rfl, rfl⟩, Int.emod_nonneg _ (by omega), Int.emod_lt_of_pos _ hm, Int.ediv_nonneg ha (by omega), hc⟩
    · simp (dsimp := false) [x0, x1, x2, i0, i1, i2, e_pPut, iL_set, p, imod, idiv, hm, h2, mul_small]
      refine ⟨_, rfl, _, _, _, _, ⟨rfl, rfl⟩, Int.emod_nonneg _ (by omega), Int.emod_lt_of_pos _ hm, ha, hc⟩
  refine runP_w ?_
  unfold b__law_draw
  rw [e_pSeq]
  by_cases c1 : a = 0 ∧ c < 3 + r.length
  · obtain ⟨rfl, c2⟩ := c1
    obtain ⟨e, he⟩ : ∃ e, (0 :: b :: c :: r)[c.toNat]? = some e := ⟨_, List.getElem?_eq_getElem (by simp; omega)⟩
    have xc : ixD (.lst (iL (0 :: b :: c :: r)), .al) (.int c, .fz) = .ok (.int e, .fz) := ix_lst (j := c.toNat) _ _ (by omega) (by rw [iL_get, he]; rfl)
    have c3 : c < (r.length : Int) + 1 + 1 + 1 := by omega
    have ent : SOp.w ((pIf (tAndD (dCmp (cEq id) (dBin ixD (dVar 0) (kInt 0)) (kInt 0)) (dCmp (cOrd oLt) (dBin ixD (dVar 0) (kInt 2)) (dCB (one gLen) (aCons (dVar 0) aNil)))) (pSeq (pSet 2 (dBin ixD (dVar 0) (dBin ixD (dVar 0) (kInt 2))))
    (pSeq (pPut (dBin opAdd (dBin ixD (dVar 0) (kInt 2)) (kInt 1)) (kInt 2))
    (pSeq (pPut (dBin (opInt fMod) (dCB (one gInt) (aCons (dBin opAdd (dBin opMul (dBin ixD (dVar 0) (kInt 1)) (kInt 31)) (dVar 2)) aNil)) (kInt 2147483647)) (kInt 1))
    (pIf (dCmp (cOrd oGe) (dCB (one (gI1 fun i => if i < 0 then -i else i)) (aCons (dVar 2) aNil)) (dBin (opInt fPow) (kInt 10) (kInt 18))) (pPut (dCB (one (gI1 fun i => if i < 0 then -i else i)) (aCons (dVar 2) aNil)) (kInt 0)) pNil)))) pNil)
       [some (.lst (iL (0 :: b :: c :: r)), .ow), some (.int m, .fz), none, none, none]) (fun ρ => ∃ (a b c : Int) (x : Option DV), 0 ≤ a ∧ 0 ≤ c ∧ ρ = [some (.lst (iL (a :: b :: c :: r)), .ow), some (.int m, .fz), x, none, none]) (fun _ _ => False) := by
      by_cases big : 1000000000000000000 ≤ (if e < 0 then -e else e)
      · simp (dsimp := false) [x0, x1, x2, i0, i1, i2, e_pPut, iL_set, c3, xc, imod, mul_small, big]
        refine ⟨_, ?_, _, _, ?_, rfl⟩ <;> (try split) <;> omega
      · simp (dsimp := false) [x0, x1, x2, i0, i1, i2, e_pPut, iL_set, c3, xc, imod, mul_small, big]
        refine ⟨_, ?_, _, _, ?_, rfl⟩ <;> (try split) <;> omega
    refine SOp.w_mono ent ?_ fun _ _ h => h.elim
    rintro _ ⟨a, b, c, x, q1, q2, rfl⟩
    exact tail a b c x none none q1 q2
  · have ent : SOp.w ((pIf (tAndD (dCmp (cEq id) (dBin ixD (dVar 0) (kInt 0)) (kInt 0)) (dCmp (cOrd oLt) (dBin ixD (dVar 0) (kInt 2)) (dCB (one gLen) (aCons (dVar 0) aNil)))) (pSeq (pSet 2 (dBin ixD (dVar 0) (dBin ixD (dVar 0) (kInt 2))))
    (pSeq (pPut (dBin opAdd (dBin ixD (dVar 0) (kInt 2)) (kInt 1)) (kInt 2))
    (pSeq (pPut (dBin (opInt fMod) (dCB (one gInt) (aCons (dBin opAdd (dBin opMul (dBin ixD (dVar 0) (kInt 1)) (kInt 31)) (dVar 2)) aNil)) (kInt 2147483647)) (kInt 1))
    (pIf (dCmp (cOrd oGe) (dCB (one (gI1 fun i => if i < 0 then -i else i)) (aCons (dVar 2) aNil)) (dBin (opInt fPow) (kInt 10) (kInt 18))) (pPut (dCB (one (gI1 fun i => if i < 0 then -i else i)) (aCons (dVar 2) aNil)) (kInt 0)) pNil)))) pNil)
       [some (.lst (iL (a :: b :: c :: r)), .ow), some (.int m, .fz), none, none, none]) (fun ρ => ρ = [some (.lst (iL (a :: b :: c :: r)), .ow), some (.int m, .fz), none, none, none]) (fun _ _ => False) := by
      by_cases z : a = 0
      · have c3 : ¬ c < (r.length : Int) + 1 + 1 + 1 := fun z' => c1 ⟨z, by omega⟩
        subst z
        simp (dsimp := false) [x0, x2, c3]
      · simp (dsimp := false) [x0, z]
    refine SOp.w_mono ent ?_ fun _ _ h => h.elim
    rintro _ rfl
    exact tail a b c none none none ha hc
/-! ### chunk graph -/
def gD (G : List (List Int)) : D := .tup (tL G)
theorem graph_ok (a b c : Int) (r : List Int) (m : Nat) (ha : 0 ≤ a) (hc : 0 ≤ c) (hr : r.length ≤ 97) (hm : m ≤ 20) :
    (m__law_graph (.lst (iL (a :: b :: c :: r))) [(.int m, .fz)]).w fun x => ∃ (G : List (List Int)) (a' b' c' : Int), x = ((gD G, .fz), .lst (iL (a' :: b' :: c' :: r))) ∧ G.length ≤ m ∧ Good G ∧ 0 ≤ a' ∧ 0 ≤ c' := by
  have sz := sizeLine_val
  refine runP_w ?_
  unfold b__law_graph
  simp (dsimp := false) [mkLst_6]
  refine call_w rfl ?_
  simp (dsimp := false)
  refine R.w_mono (draw_ok a b c r 6 ha hc hr (by omega) (by omega)) ?_
  rintro _ ⟨v, a, b, c, rfl, v1, v2, ha, hc⟩
  have hx : ∃ w : Int, 1 ≤ w ∧ w ≤ 20 ∧ ixD (.lst (D.int 1 :: D.int 2 :: D.int 2 :: D.int 3 :: D.int 5 :: iL [20]), .ow) (.int v, .fz) = .ok (.int w, .fz) := by
    have : v = 0 ∨ v = 1 ∨ v = 2 ∨ v = 3 ∨ v = 4 ∨ v = 5 := by omega
    rcases this with rfl | rfl | rfl | rfl | rfl | rfl
    · exact ⟨1, by omega, by omega, rfl⟩
    · exact ⟨2, by omega, by omega, rfl⟩
    · exact ⟨2, by omega, by omega, rfl⟩
    · exact ⟨3, by omega, by omega, rfl⟩
    · exact ⟨5, by omega, by omega, rfl⟩
    · exact ⟨20, by omega, by omega, rfl⟩
  obtain ⟨w, w1, w2, hx⟩ := hx
  simp (dsimp := false) [hx]
  refine pFor_w (call_w rfl ?_)
  simp (dsimp := false)
  refine R.w_mono (draw_ok a b c r ((m : Int) + 1) ha hc hr (by omega) (by omega)) ?_
  rintro _ ⟨v, a, b, c, rfl, v1, v2, ha, hc⟩
  obtain ⟨n, rfl⟩ : ∃ n : Nat, v = n := ⟨v.toNat, by omega⟩
  refine ⟨rfl, n, rfl, by omega, ?_⟩
  refine w_forP (fun j ρ => ∃ (G : List (List Int)) (a b c : Int) (x y : Option DV), ρ = [some (.lst (iL (a :: b :: c :: r)), .ow), some (.int m, .fz), some (.int w, .fz), some (gD G, .fz), x, y] ∧ G.length = j ∧ Good G ∧ 0 ≤ a ∧ 0 ≤ c)
    ⟨[], a, b, c, none, none, rfl, rfl, fun i r e => by simp at e, ha, hc⟩ (fun j ρ hj hI => ?_) ?_
  · obtain ⟨G, a, b, c, x, y, rfl, g1, g2, ha, hc⟩ := hI
    have hr1 := rg1_nat j .fz (by omega)
    unfold b__law_graph_L1
    have hz : j ≤ PySem.sizeLine := by omega
    simp (dsimp := false) [hr1, rangeL_rng, hz, isOw]
    refine lcMm_w (fun ρ => ∃ a b c : Int, 0 ≤ a ∧ 0 ≤ c ∧ ρ = [some (.lst (iL (a :: b :: c :: r)), .ow), some (.int m, .fz), some (.int w, .fz), some (gD G, .fz), some (.int j, .fz), none]) (fun d => d) (iL (rng j)) _ _ ⟨a, b, c, ha, hc, rfl⟩ ?_ ?_
    · rintro d hd _ ⟨a, b, c, ha, hc, rfl⟩
      obtain ⟨e, he, rfl⟩ := iL_mem hd
      refine ⟨_, rfl, ?_⟩
      simp (dsimp := false)
      refine call_w rfl ?_
      simp (dsimp := false)
      refine R.w_mono (draw_ok a b c r w ha hc hr w1 (by omega)) ?_
      rintro _ ⟨v, a, b, c, rfl, v1, v2, ha, hc⟩
      simp (dsimp := false)
      exact ⟨rfl, a, ha, b, c, hc, rfl⟩
    · rintro _ es ρ' hs ⟨a, b, c, ha, hc, rfl⟩
      obtain ⟨row, hrow, rfl⟩ := List.sublist_map_iff.mp hs
      have hadd : opAdd (gD G, .fz) (.tup [.tup (List.map ((fun d => d) ∘ D.int) row)], .fz) = .ok (gD (G ++ [row]), .fz) := by
        unfold gD
        rw [add_tup (by simp; omega)]
        show R.ok (D.tup (tL G ++ tL [row]), Kd.fz) = _
        rw [tL_append]
      simp (dsimp := false) [hadd]
      refine ⟨G ++ [row], a, b, c, ⟨rfl, rfl⟩, by simp [g1], ?_, ha, hc⟩
      intro i r' e
      by_cases hi : i < G.length
      · rw [List.getElem?_append_left hi] at e
        exact g2 i r' e
      · rw [List.getElem?_append_right (by omega)] at e
        have : i - G.length = 0 := by
          rcases Nat.eq_zero_or_pos (i - G.length) with z | z
          · exact z
          · rw [List.getElem?_eq_none (by simp; omega)] at e; cases e
        rw [this] at e
        cases e
        refine ⟨(rng_lt j).sublist hrow, fun a ha => ?_⟩
        have := mem_rng.mp (hrow.mem ha)
        omega
  · rintro _ ⟨G, a, b, c, x, y, rfl, g1, g2, ha, hc⟩
    simp (dsimp := false)
    exact ⟨_, rfl, G, a, b, c, ⟨rfl, rfl⟩, by omega, g2, ha, hc⟩
/-! ### chunk base -/
theorem is_whole_int (i : Int) (k : Kd) (hk : InK k) : m_is_whole [(.int i, k)] = .ok (.bl true, .fz) := by
  refine R.w_eq (runD_w ?_)
  simp (dsimp := false) [b_is_whole, dVar_in hk]
theorem asc_len' {r : List Int} {n : Nat} (h1 : r.Pairwise (· < ·)) (h2 : ∀ a ∈ r, 0 ≤ a ∧ a < n) : r.length ≤ n := by
  have := len_sub r (rng n) (asc_nodup h1) fun a ha => mem_rng.mpr (h2 a ha)
  simpa using this
section
variable {G : List (List Int)}
theorem good_len (hG : Good G) {i : Nat} {r : List Int} (h : G[i]? = some r) : r.length ≤ G.length := by
  obtain ⟨h1, h2⟩ := hG i r h
  have := asc_len' h1 h2
  have := (List.getElem?_eq_some_iff.mp h).1
  omega
theorem deps_asc (hG : Good G) {i : Int} (hi : i ∈ rng G.length) : (deps G i).Pairwise (· < ·) := by
  obtain ⟨h1, h2⟩ := mem_rng.mp hi
  obtain ⟨k, rfl⟩ : ∃ k : Nat, i = k := ⟨i.toNat, by omega⟩
  rw [deps_nat G (by omega)]
  exact (hG k _ (List.getElem?_eq_getElem (by omega))).1
theorem deps_len (hG : Good G) {i : Int} (hi : i ∈ rng G.length) : (deps G i).length ≤ G.length := by
  obtain ⟨h1, h2⟩ := mem_rng.mp hi
  obtain ⟨k, rfl⟩ : ∃ k : Nat, i = k := ⟨i.toNat, by omega⟩
  rw [deps_nat G (by omega)]
  exact good_len hG (List.getElem?_eq_getElem (by omega))
theorem gx {i : Int} (l : Kd) (h : i ∈ rng G.length) : ixD (gD G, .fz) (.int i, l) = .ok (.tup (iL (deps G i)), .fz) := by
  obtain ⟨h1, h2⟩ := mem_rng.mp h
  obtain ⟨k, rfl⟩ : ∃ k : Nat, i = k := ⟨i.toNat, by omega⟩
  have hk : k < G.length := by omega
  rw [deps_nat G hk]
  exact ix_tup (j := k) _ _ rfl (by unfold tL; rw [List.getElem?_map, List.getElem?_eq_getElem hk]; rfl)
theorem gLenG (G : List (List Int)) (k : Kd) : gLen (gD G, k) = .ok (.int G.length, .fz) := by
  show R.ok (D.int ((tL G).length : Nat), Kd.fz) = _
  rw [tL_length]
theorem itemsG (G : List (List Int)) (k : Kd) : itemsD (gD G, k) = .ok (tL G, k) := rfl
end
theorem row_ok (r : List Int) (n : Nat) (h1 : r.Pairwise (· < ·)) (h2 : ∀ a ∈ r, 0 ≤ a ∧ a < n) (h3 : r.length ≤ 1000) : m__is_row [(.tup (iL r), .fz), (.int n, .fz)] = .ok (.bl true, .fz) := by
  have sz := sizeLine_val
  have hz : r.length ≤ PySem.sizeLine := by omega
  have hw := fun i => is_whole_int i .fz (.inl rfl)
  have hr : rg1 (.int ((r.length : Int) - 1), .fz) = .ok (rangeL 0 1 (r.length - 1), .fz) := by
    have : -(2 ^ 62 : Int) ≤ (r.length : Int) - 1 ∧ (r.length : Int) - 1 < 2 ^ 62 := ⟨by omega, by omega⟩
    unfold rg1
    simp only [this, and_self, if_true]
    congr 3
    omega
  refine R.w_eq (runD_w ?_)
  simp (dsimp := false) [b__is_row, hz]
  refine w_lcI (fun _ => true) (fun a => .bl (decide (0 ≤ a ∧ a < n))) (fun a ha => ⟨_, rfl, ?_⟩) ?_
  · obtain ⟨p1, p2⟩ := h2 a ha
    simp (dsimp := false) [hw, p1, p2]
  rw [List.filter_eq_self.mpr fun _ _ => rfl]
  have hg := gAllT (xs := r.map fun a => .bl (decide (0 ≤ a ∧ a < (n : Int)))) .ow (fun d hd => by
    obtain ⟨a, ha, rfl⟩ := List.mem_map.mp hd
    obtain ⟨p1, p2⟩ := h2 a ha
    simp [p1, p2])
  generalize (r.map fun a => D.bl (decide (0 ≤ a ∧ a < (n : Int)))) = xs1 at hg ⊢
  have hz2 : r.length - 1 ≤ PySem.sizeLine := by omega
  simp (dsimp := false) [hg, hr, rangeL_rng, hz2]
  refine w_lcI (fun _ => true) (fun a => .bl true) (fun a ha => ⟨_, rfl, ?_⟩) ?_
  · obtain ⟨p1, p2⟩ := mem_rng.mp ha
    obtain ⟨i, rfl⟩ : ∃ i : Nat, a = i := ⟨a.toNat, by omega⟩
    have q1 : i < r.length := by omega
    have q2 : i + 1 < r.length := by omega
    have x1 : ∀ l, ixD (.tup (iL r), .fz) (.int (i : Int), l) = .ok (.int r[i], .fz) := fun l => ix_tup _ _ rfl (by rw [iL_get, List.getElem?_eq_getElem q1]; rfl)
    have x2 : ∀ l, ixD (.tup (iL r), .fz) (.int ((i : Int) + 1), l) = .ok (.int r[i + 1], .fz) := fun l => ix_tup (j := i + 1) _ _ (by omega) (by rw [iL_get, List.getElem?_eq_getElem q2]; rfl)
    have lt : r[i] < r[i + 1] := List.pairwise_iff_getElem.mp h1 i (i + 1) q1 q2 (by omega)
    simp (dsimp := false) [x1, x2, lt]
  have hg2 := fun l => gAllT (xs := (l : List Int).map fun _ => .bl true) .ow (fun d hd => by
    obtain ⟨a, ha, rfl⟩ := List.mem_map.mp hd
    rfl)
  simp (dsimp := false) only [R.bind_ok, R.w_ok, e_aNil, one_eq, hg2, retD_fz, SO.w_rt]
theorem need_ok (G : List (List Int)) (hG : Good G) (hl : G.length ≤ 100) : m_need_graph [(gD G, .fz)] = .ok (.non, .fz) := by
  have sz := sizeLine_val
  have hz : G.length ≤ PySem.sizeLine := by omega
  have is : m_is_graph [(gD G, .fz)] = .ok (.bl true, .fz) := by
    refine R.w_eq (runD_w ?_)
    simp (dsimp := false) [b_is_graph, gD, tL, enumL_rng, hz]
    refine w_lc (fun _ => true) (fun _ => .bl true) (fun d hd => ?_) ?_
    · obtain ⟨i, hi, rfl⟩ := List.mem_map.mp hd
      have hi := List.mem_range.mp hi
      obtain ⟨g1, g2⟩ := hG i G[i] (List.getElem?_eq_getElem hi)
      have g3 := good_len hG (List.getElem?_eq_getElem hi)
      refine ⟨_, rfl, ?_⟩
      simp (dsimp := false) [hi, row_ok _ _ g1 g2 (by omega)]
    have hg2 := fun l => gAllT (xs := (l : List D).map fun _ => .bl true) .ow (fun d hd => by
      obtain ⟨a, ha, rfl⟩ := List.mem_map.mp hd
      rfl)
    simp (dsimp := false) only [R.bind_ok, R.w_ok, e_aNil, one_eq, hg2, retD_fz, SO.w_rt]
  refine R.w_eq (runD_w ?_)
  simp (dsimp := false) [b_need_graph, is]
theorem ready_ok {G : List (List Int)} (dd : List Int) (dv : D) (k : Kd) (hd : ∀ r, dVar 0 (some (dv, k) :: r) = .ok (dv, k)) (hin : ∀ (g : Bool → Bool) (i : Int) (l : Kd), cIn g (.int i, l) (dv, k) = .ok (.bl (g (decide (i ∈ dd))), .fz)) (hG : Good G) (hl : G.length ≤ 100) : m_ready_nodes [(gD G, .fz), (dv, k)] = .ok (.lst (iL (ready G dd)), .ow) := by
  have sz := sizeLine_val
  have hz : G.length ≤ PySem.sizeLine := by omega
  refine R.w_eq (runD_w ?_)
  simp (dsimp := false) [b_ready_nodes, gD, tL, enumL_rng, hz]
  refine w_lc (fun d => match d with | .tup [.int i, _] => !decide (i ∈ dd) && (deps G i).all fun a => decide (a ∈ dd) | _ => false) (fun d => match d with | .tup [x, _] => x | _ => .non) (fun d hd' => ?_) ?_
  · obtain ⟨i, hi, rfl⟩ := List.mem_map.mp hd'
    have hi := List.mem_range.mp hi
    obtain ⟨g1, g2⟩ := hG i G[i] (List.getElem?_eq_getElem hi)
    have g3 := good_len hG (List.getElem?_eq_getElem hi)
    have hz2 : G[i].length ≤ PySem.sizeLine := by omega
    refine ⟨_, rfl, ?_⟩
    by_cases c : (i : Int) ∈ dd
    · simp (dsimp := false) [hd, hin, c]
    · simp (dsimp := false) [hd, hin, c, hi, hz2]
      refine w_lcI (fun _ => true) (fun a => .bl (decide (a ∈ dd))) (fun a ha => ⟨_, rfl, by simp (dsimp := false) [hd, hin]⟩) ?_
      rw [List.filter_eq_self.mpr fun _ _ => rfl]
      have hga := gAll (fun a => decide (a ∈ dd)) G[i] .ow
      simp (dsimp := false) [hga, deps_nat G hi, c, hi, hd]
  · have e : (List.filter (fun d => match d with | .tup [.int i, _] => !decide (i ∈ dd) && (deps G i).all fun a => decide (a ∈ dd) | _ => false) ((List.range G.length).map fun i => D.tup [.int (i : Nat), (G[i]?.map fun r => D.tup (iL r)).getD .non])).map (fun d => match d with | .tup [x, _] => x | _ => .non) = iL (ready G dd) := by
      unfold ready rng iL
      rw [List.filter_map, List.filter_map, List.map_map, List.map_map]
      rfl
    rw [R.w_ok, retD_ow, SO.w_rt]
    exact congrArg (fun z => (D.lst z, Kd.ow)) e
theorem readyT {G : List (List Int)} (S : List Int) (hG : Good G) (hl : G.length ≤ 100) : m_ready_nodes [(gD G, .fz), (.tup (iL S), .fz)] = .ok (.lst (iL (ready G S)), .ow) :=
  ready_ok S _ _ (fun r => dVar_in (.inl rfl) _ r) (fun g i l => in_tup g S i l .fz) hG hl
/-! ### chunk with -/
theorem with_ok {G : List (List Int)} {S T : List Int} (hS : Cl G S) (hT : T.Nodup) (hs : ∀ a ∈ T, a ∈ ready G S) (hl : G.length ≤ 100) : m_with_nodes [(.tup (iL S), .fz), (.tup (iL T), .fz)] = .ok (.tup (iL (jn G S T)), .fz) := by
  have sz := sizeLine_val
  have l1 := hS.len
  have l2 := jn_len hS hT hs
  have l3 := (jn_cl hS hs).len
  have ha : opAdd (.tup (iL S), .fz) (.tup (iL T), .fz) = .ok (.tup (iL (S ++ T)), .fz) := by rw [add_tup (by simp; omega), iL_append]
  have hso := sortedA_tup (l := S ++ T) .fz (jn_perm hS hT hs) ((jn_asc G S T).imp fun h => by omega) (by simp; omega)
  refine R.w_eq (runD_w ?_)
  simp (dsimp := false) [b_with_nodes, ha, hso]
/-! ### chunk choices -/
def pch (row : List Int) : Nat → List (List Int)
  | 0 => [[]]
  | k + 1 => ((pch row k).map fun ch => (row.filter fun one => ch.isEmpty || decide (ch.getLastD 0 < one)).map fun one => ch ++ [one]).flatten
theorem pch_len (row : List Int) : ∀ k, (pch row k).length ≤ row.length ^ k
  | 0 => by simp [pch]
  | k + 1 => by
    have ih := pch_len row k
    have go : ∀ l : List (List Int), ((l.map fun ch => (row.filter fun one => ch.isEmpty || decide (ch.getLastD 0 < one)).map fun one => ch ++ [one]).flatten).length ≤ l.length * row.length := by
      intro l
      induction l with
      | nil => simp
      | cons a r ih =>
        rw [List.map_cons, List.flatten_cons, List.length_append, List.length_map, List.length_cons, Nat.add_mul, Nat.one_mul]
        have := List.length_filter_le (fun one => a.isEmpty || decide (a.getLastD 0 < one)) row
        omega
    have := go (pch row k)
    rw [Nat.pow_succ]
    exact Nat.le_trans this (Nat.mul_le_mul_right _ ih)
theorem asc_snoc {l : List Int} {a : Int} (h : (l ++ [a]).Pairwise (· < ·)) : l.Pairwise (· < ·) ∧ ∀ b ∈ l, b < a := by
  rw [List.pairwise_append] at h
  exact ⟨h.1, fun b hb => h.2.2 b hb a List.mem_cons_self⟩
theorem asc_snoc_of {l : List Int} {a : Int} (h : l.Pairwise (· < ·)) (hl : l ≠ [] → l.getLastD 0 < a) : (l ++ [a]).Pairwise (· < ·) := by
  rw [List.pairwise_append]
  refine ⟨h, by simp, fun b hb x hx => ?_⟩
  cases List.mem_singleton.mp hx
  have hne : l ≠ [] := fun e => by rw [e] at hb; cases hb
  have := hl hne
  rcases List.eq_nil_or_concat l with e | ⟨m, z, e⟩
  · exact absurd e hne
  · subst e
    rw [List.concat_eq_append] at *
    rw [List.getLastD_eq_getLast?, List.getLast?_append] at this
    simp at this
    rcases List.mem_append.mp hb with h1 | h1
    · have := (asc_snoc h).2 b h1; omega
    · cases List.mem_singleton.mp h1; omega
theorem snoc_last {l : List Int} (hne : l ≠ []) : l.getLastD 0 ∈ l := by
  rcases List.eq_nil_or_concat l with e | ⟨m, z, e⟩
  · exact absurd e hne
  · subst e
    rw [List.concat_eq_append, List.getLastD_eq_getLast?, List.getLast?_append]
    simp
theorem mem_pch {row : List Int} : ∀ {k : Nat} {l : List Int}, l ∈ pch row k ↔ l.Pairwise (· < ·) ∧ (∀ a ∈ l, a ∈ row) ∧ l.length = k
  | 0, l => by
    unfold pch
    rw [List.mem_singleton]
    constructor
    · rintro rfl
      exact ⟨.nil, fun a h => (nomatch h), rfl⟩
    · rintro ⟨_, _, h⟩
      exact List.eq_nil_of_length_eq_zero h
  | k + 1, l => by
    unfold pch
    rw [List.mem_flatten]
    constructor
    · rintro ⟨m, hm, hl⟩
      obtain ⟨ch, hch, rfl⟩ := List.mem_map.mp hm
      obtain ⟨one, ho, rfl⟩ := List.mem_map.mp hl
      obtain ⟨h1, h2⟩ := List.mem_filter.mp ho
      obtain ⟨i1, i2, i3⟩ := mem_pch.mp hch
      refine ⟨asc_snoc_of i1 fun hne => ?_, fun a ha => ?_, by simp [i3]⟩
      · simpa [hne] using h2
      · rcases List.mem_append.mp ha with z | z
        · exact i2 a z
        · cases List.mem_singleton.mp z; exact h1
    · rintro ⟨h1, h2, h3⟩
      rcases List.eq_nil_or_concat l with e | ⟨m, z, e⟩
      · subst e; simp at h3
      · subst e
        rw [List.concat_eq_append] at *
        obtain ⟨a1, a2⟩ := asc_snoc h1
        have hm : m ∈ pch row k := mem_pch.mpr ⟨a1, fun a ha => h2 a (List.mem_append_left _ ha), by simpa using h3⟩
        refine ⟨_, List.mem_map.mpr ⟨m, hm, rfl⟩, List.mem_map.mpr ⟨z, List.mem_filter.mpr ⟨h2 z (by simp), ?_⟩, rfl⟩⟩
        by_cases e : m = []
        · simp [e]
        · show (m.isEmpty || decide (m.getLastD 0 < z)) = true
          rw [decide_eq_true (a2 _ (snoc_last e)), Bool.or_true]
theorem choices_ok (row : List Int) (n : Nat) (k : Kd) (hk : InK k) (hr : row.length ≤ 9) (hn : n ≤ 6) : m_choices [(.lst (iL row), k), (.int n, .fz)] = .ok (.lst (tL (pch row n)), .ow) := by
  have sz := sizeLine_val
  have hd := dVar_in hk (.lst (iL row))
  have hr1 := rg1_nat n .fz (by omega)
  have bound : ∀ j, j ≤ 6 → (pch row j).length ≤ 531441 := fun j hj => by
    refine Nat.le_trans (pch_len row j) ?_
    refine Nat.le_trans (Nat.pow_le_pow_left hr j) ?_
    refine Nat.le_trans (Nat.pow_le_pow_right (by omega) hj) ?_
    decide
  have hneg : negD (.int 1, .fz) = .ok (.int (-1), .fz) := Eq.trans rfl rfl
  refine R.w_eq (runD_w ?_)
  simp (dsimp := false) [b_choices, hr1]
  refine w_rng (fun j ρ => ∃ (x y z : Option DV), ρ = [some (.lst (iL row), k), some (.int n, .fz), some (.lst (tL (pch row j)), .ow), x, y, z]) ⟨_, _, _, rfl⟩ (fun j ρ hj hI => ?_) ?_
  · obtain ⟨x, y, z, rfl⟩ := hI
    refine ⟨_, rfl, ?_⟩
    have hb := bound (j + 1) (by omega)
    have hz : (pch row (j + 1)).length ≤ PySem.sizeLine := by omega
    simp (dsimp := false) [b_choices_L1]
    refine w_lc2 (fun S => .tup (iL S)) (fun ch => tL ((row.filter fun one => ch.isEmpty || decide (ch.getLastD 0 < one)).map fun one => ch ++ [one])) (fun ch hch => ?_) ?_
    · obtain ⟨i1, i2, i3⟩ := mem_pch.mp hch
      have hkal : k ≠ .al := by rcases hk with rfl | rfl <;> exact fun z => by cases z
      refine ⟨_, rfl, by simp (dsimp := false), ?_⟩
      simp (dsimp := false) [hd, hkal]
      have hgo := w_lcI (f := FK.gName 5) (pt := tOrD (dCmp (cEq id) (dCB (one gLen) (aCons (dVar 4) aNil)) (kInt 0)) (dCmp (cOrd oGt) (dVar 5) (dBin ixD (dVar 4) (mNeg (kInt 1))))) (pe := dBin opAdd (dVar 4) (mTup (aCons (dVar 5) aNil))) (ρ := [some (.lst (iL row), k), some (.int n, .fz), some (.lst (tL (pch row j)), .ow), some (.int j, .fz), some (.tup (iL ch), .fz), none]) (P := fun r => r = tL ((row.filter fun one => ch.isEmpty || decide (ch.getLastD 0 < one)).map fun one => ch ++ [one])) (ns := row)
        (fun one => ch.isEmpty || decide (ch.getLastD 0 < one)) (fun one => .tup (iL (ch ++ [one]))) (fun a ha => ⟨_, rfl, by
          have hadd : opAdd (.tup (iL ch), .fz) (.tup (iL [a]), .fz) = .ok (.tup (iL (ch ++ [a])), .fz) := by rw [add_tup (by simp; omega), iL_append]
          by_cases e : ch = []
          · subst e
            have hadd0 : opAdd (.tup [], .fz) (.tup (iL [a]), .fz) = .ok (.tup (iL ([] ++ [a])), .fz) := hadd
            simp (dsimp := false) [hadd0]
          · have hlast := ix_last (xs := ch) .fz .fz e
            have e0 : ¬ ch.length = 0 := by rwa [List.length_eq_zero_iff]
            have e1 : ch.isEmpty = false := by simpa using e
            simp (dsimp := false) [hadd, hlast, hneg, e0, e1]⟩) (by unfold tL; rw [List.map_map]; rfl)
      exact hgo
    · have e : (List.map (fun ch => tL ((row.filter fun one => ch.isEmpty || decide (ch.getLastD 0 < one)).map fun one => ch ++ [one])) (pch row j)).flatten = tL (pch row (j + 1)) := by
        show _ = tL ((pch row j).map _).flatten
        unfold tL
        rw [List.map_flatten, List.map_map]
        rfl
      rw [e]
      simp (dsimp := false) [hz]
  · rintro _ ⟨x, y, z, rfl⟩
    simp (dsimp := false)
def psteps (G : List (List Int)) (c : Nat) (S : List Int) : List (List Int) := pch (ready G S) (min c (ready G S).length)
theorem mem_psteps {G : List (List Int)} {c : Nat} {S T : List Int} : T ∈ psteps G c S ↔ T ∈ FS G c S := by
  unfold psteps
  rw [mem_pch, mem_FS]
theorem min_cast (c n : Nat) : (if n < c then (n : Int) else (c : Int)) = ((min c n : Nat) : Int) := by
  split <;> omega
theorem full_ok {G : List (List Int)} (c : Nat) (S : List Int) (hG : Good G) (hl : G.length ≤ 9) (hc : c ≤ 6) : m_full_steps [(gD G, .fz), (.int c, .fz), (.tup (iL S), .fz)] = .ok (.lst (tL (psteps G c S)), .ow) := by
  have hr := readyT S hG (by omega : G.length ≤ 100)
  have h1 := ready_len G S
  have hch := choices_ok (ready G S) (min c (ready G S).length) .bo (.inr rfl) (by omega) (by omega)
  refine R.w_eq (runD_w ?_)
  simp (dsimp := false) [b_full_steps, hr, min_cast, hch]
  rfl
/-! ### chunk closed -/
theorem two_pow {n : Nat} (h : n ≤ 9) : 2 ^ n ≤ 512 := Nat.le_trans (Nat.pow_le_pow_right (by omega) h) (by decide)
theorem take_mem_succ {α : Type} {l : List α} {j : Nat} {x : α} (h : l[j]? = some x) (p : α → Prop) : (∃ a ∈ l.take (j + 1), p a) ↔ (∃ a ∈ l.take j, p a) ∨ p x := by
  obtain ⟨hj, e⟩ := List.getElem?_eq_some_iff.mp h
  subst e
  rw [List.take_succ_eq_append_getElem hj]
  constructor
  · rintro ⟨a, ha, pa⟩
    rcases List.mem_append.mp ha with z | z
    · exact .inl ⟨a, z, pa⟩
    · cases List.mem_singleton.mp z; exact .inr pa
  · rintro (⟨a, ha, pa⟩ | pa)
    · exact ⟨a, List.mem_append_left _ ha, pa⟩
    · exact ⟨_, List.mem_append_right _ (List.mem_singleton.mpr rfl), pa⟩
theorem put_nodup {kvs : List (List Int × D)} {S : List Int} {v : D} (h : (ky kvs).Nodup) : (ky (put kvs S v)).Nodup := by
  rw [put_keys]
  split
  · exact h
  · rw [List.nodup_append]
    refine ⟨h, by simp, fun a ha b hb e => ?_⟩
    cases List.mem_singleton.mp hb
    subst e
    contradiction
theorem put_mem {kvs : List (List Int × D)} {S T : List Int} {v : D} : T ∈ ky (put kvs S v) ↔ T ∈ ky kvs ∨ T = S := by
  rw [put_keys]
  split
  · constructor
    · exact .inl
    · rintro (h | h)
      · exact h
      · subst h; assumption
  · rw [List.mem_append, List.mem_singleton]
theorem closed_ok {G : List (List Int)} (hG : Good G) (hl : G.length ≤ 9) : (m_closed_sets [(gD G, .fz)]).w fun x => ∃ cs : List (List Int), x = (.lst (tL cs), .ow) ∧ cs.Nodup ∧ (∀ S, S ∈ cs ↔ Cl G S) ∧ cs.Pairwise (fun a b => a.length ≤ b.length) := by
  have sz := sizeLine_val
  have tp := two_pow hl
  refine runD_w ?_
  simp (dsimp := false) [b_closed_sets, itemsG]
  have il : (D.lst [D.tup []]) = .lst (tL [[]]) := rfl
  rw [il]
  refine w_for (fun j ρ => ∃ (found rows : List (List Int)) (x y z w : Option DV), ρ = [some (gD G, .fz), some (.lst (tL found), .ow), some (.lst (tL rows), .ow), x, y, z, w] ∧ rows.Nodup ∧ (∀ S, S ∈ rows ↔ Cl G S ∧ S.length = j) ∧ found.Nodup ∧ (∀ S, S ∈ found ↔ Cl G S ∧ S.length ≤ j) ∧ found.Pairwise (fun a b => a.length ≤ b.length))
    ⟨[[]], [[]], none, none, none, none, rfl, by simp, fun S => ?_, by simp, fun S => ?_, by simp⟩ (fun j d ρ e hI => ?_) ?_
  · rw [List.mem_singleton]
    exact ⟨fun e => by subst e; exact ⟨cl_nil G, rfl⟩, fun h => List.eq_nil_of_length_eq_zero h.2⟩
  · rw [List.mem_singleton]
    exact ⟨fun e => by subst e; exact ⟨cl_nil G, Nat.le_refl _⟩, fun h => List.eq_nil_of_length_eq_zero (by omega)⟩
  · obtain ⟨found, rows, x, y, z, w, rfl, r1, r2, f1, f2, f3⟩ := hI
    refine ⟨_, rfl, ?_⟩
    have fz : frzS 2 [some (gD G, Kd.fz), some (.lst (tL found), .ow), some (.lst (tL rows), .ow), some (d, .fz), some (.dt [], .ow), z, w] = [some (gD G, Kd.fz), some (.lst (tL found), .ow), some (.lst (tL rows), .fz), some (d, .fz), some (.dt (dtM []), .ow), z, w] := rfl
    simp (dsimp := false) [b_closed_sets_L3]
    rw [fz]
    simp (dsimp := false)
    refine w_for (fun i ρ => ∃ (kvs : List (List Int × D)) (z w : Option DV), ρ = [some (gD G, Kd.fz), some (.lst (tL found), .ow), some (.lst (tL rows), .fz), some (d, .fz), some (.dt (dtM kvs), .ow), z, w] ∧ (ky kvs).Nodup ∧ ∀ S', S' ∈ ky kvs ↔ ∃ S ∈ rows.take i, ∃ a ∈ ready G S, S' = jn G S [a])
      ⟨[], _, _, rfl, by simp, by simp⟩ (fun i d' ρ e' hI => ?_) ?_
    · obtain ⟨kvs, z, w, rfl, k1, k2⟩ := hI
      obtain ⟨S, eS, rfl⟩ := tL_at e'
      have hS := ((r2 S).mp (List.mem_of_getElem? eS)).1
      refine ⟨_, rfl, ?_⟩
      simp (dsimp := false) [b_closed_sets_L2, readyT S hG (by omega : G.length ≤ 100)]
      refine w_for (fun q ρ => ∃ (kvs : List (List Int × D)) (w : Option DV), ρ = [some (gD G, Kd.fz), some (.lst (tL found), .ow), some (.lst (tL rows), .fz), some (d, .fz), some (.dt (dtM kvs), .ow), some (.tup (iL S), .fz), w] ∧ (ky kvs).Nodup ∧ ∀ S', S' ∈ ky kvs ↔ (∃ S ∈ rows.take i, ∃ a ∈ ready G S, S' = jn G S [a]) ∨ ∃ a ∈ (ready G S).take q, S' = jn G S [a])
        ⟨kvs, _, rfl, k1, fun S' => by rw [k2]; simp⟩ (fun q d2 ρ e2 hI => ?_) ?_
      · obtain ⟨kvs, w, rfl, k1, k2⟩ := hI
        obtain ⟨a, ea, rfl⟩ := iL_at e2
        have ha := List.mem_of_getElem? ea
        have hw := with_ok (T := [a]) hS (by simp) (fun b hb => by cases List.mem_singleton.mp hb; exact ha) (by omega : G.length ≤ 100)
        have hkl : kvs.length ≤ 2 ^ G.length := by
          have := sets_len (G := G) k1 (fun S' h' => by
            rcases (k2 S').mp h' with ⟨T, hT, a, ha, rfl⟩ | ⟨a, ha, rfl⟩
            · exact (one_jn ((r2 T).mp (List.mem_of_mem_take hT)).1 ha).1
            · exact (one_jn hS (List.mem_of_mem_take ha)).1)
          rwa [ky_len] at this
        refine ⟨_, rfl, ?_⟩
        simp (dsimp := false) [b_closed_sets_L1, hw, put_dt (show kvs.length < PySem.sizeLine by omega)]
        refine ⟨_, rfl, put_nodup k1, fun S' => ?_⟩
        rw [put_mem, k2, or_assoc, take_mem_succ ea]
      · rintro _ ⟨kvs, w, rfl, k1, k2⟩
        refine ⟨kvs, _, _, rfl, k1, fun S' => ?_⟩
        rw [k2, take_mem_succ eS, iL_length, List.take_length]
    · rintro _ ⟨kvs, z, w, rfl, k1, k2⟩
      rw [tL_length, List.take_length] at k2
      have rows' : ∀ S', S' ∈ ky kvs ↔ Cl G S' ∧ S'.length = j + 1 := fun S' => by
        rw [k2]
        constructor
        · rintro ⟨S, hS, a, ha, rfl⟩
          obtain ⟨c1, c2⟩ := (r2 S).mp hS
          obtain ⟨q1, q2⟩ := one_jn c1 ha
          exact ⟨q1, by omega⟩
        · rintro ⟨c1, c2⟩
          obtain ⟨R, a, h1, h2, h3, h4⟩ := peel c1 c2 hG
          exact ⟨R, (r2 R).mpr ⟨h1, h2⟩, a, h3, h4⟩
      have lk := sets_len k1 fun S h => ((rows' S).mp h).1
      have lf := sets_len f1 fun S h => ((f2 S).mp h).1

      have hadd : opAdd (.lst (tL found), .al) (.lst (tL (ky kvs)), .al) = .ok (.lst (tL (found ++ ky kvs)), .ow) := by
        rw [add_lst _ _ (by simp; omega), tL_append]
      simp (dsimp := false) [hadd]
      refine ⟨found ++ ky kvs, ky kvs, ⟨rfl, rfl⟩, k1, rows', ?_, fun S => ?_, ?_⟩
      · rw [List.nodup_append]
        refine ⟨f1, k1, fun a ha b hb e => ?_⟩
        subst e
        have := ((f2 a).mp ha).2
        have := ((rows' a).mp hb).2
        omega
      · rw [List.mem_append, f2, rows']
        constructor
        · rintro (⟨h1, h2⟩ | ⟨h1, h2⟩)
          · exact ⟨h1, by omega⟩
          · exact ⟨h1, by omega⟩
        · rintro ⟨h1, h2⟩
          by_cases c : S.length ≤ j
          · exact .inl ⟨h1, c⟩
          · exact .inr ⟨h1, by omega⟩
      · rw [List.pairwise_append]
        refine ⟨f3, ?_, fun a ha b hb => ?_⟩
        · refine List.pairwise_of_forall_mem_list fun a ha b hb => ?_
          have := ((rows' a).mp ha).2
          have := ((rows' b).mp hb).2
          omega
        · have := ((f2 a).mp ha).2
          have := ((rows' b).mp hb).2
          omega
  · rintro _ ⟨found, rows, x, y, z, w, rfl, r1, r2, f1, f2, f3⟩
    simp (dsimp := false)
    refine ⟨found, rfl, f1, fun S => ?_, f3⟩
    rw [f2, tL_length]
    exact ⟨fun h => h.1, fun h => ⟨h, h.len⟩⟩
/-! ### chunk rests -/
theorem minL_ok {ns : List Int} (k : Kd) (h : ns ≠ []) : gInts fMinL (.lst (iL ns), k) = .ok (.int (mnI ns), .fz) := by
  unfold gInts
  dsimp only
  rw [show intsD (iL ns) = some ns from intsD_map ns]
  dsimp only
  unfold fMinL
  rw [if_neg h]
  cases ns with
  | nil => exact absurd rfl h
  | cons a r => rfl
theorem pch_small (row : List Int) (k : Nat) (h1 : row.length ≤ 9) (h2 : k ≤ 6) : (pch row k).length ≤ 531441 := by
  refine Nat.le_trans (pch_len row k) ?_
  refine Nat.le_trans (Nat.pow_le_pow_left h1 k) ?_
  refine Nat.le_trans (Nat.pow_le_pow_right (by omega) h2) ?_
  decide
theorem min_steps {G : List (List Int)} (hG : Good G) {c : Nat} (hc : 1 ≤ c) {S : List Int} (hS : Cl G S) (h : S.length ≠ G.length) {ts : List (List Int)} (ht : ∀ T, T ∈ ts ↔ T ∈ FS G c S) : ts.map (fun T => L G c (jn G S T)) ≠ [] ∧ 1 + mnI (ts.map fun T => L G c (jn G S T)) = L G c S := by
  constructor
  · obtain ⟨T, hT⟩ := List.exists_mem_of_ne_nil _ (FS_ne G c S)
    intro z
    rw [List.map_eq_nil_iff] at z
    have := (ht T).mpr hT
    rw [z] at this
    cases this
  · rw [L_eq hG hc hS h]
    congr 1
    refine mnI_same fun x => ?_
    simp only [List.mem_map, ht]
theorem rests_ok {G : List (List Int)} (hG : Good G) (hl : G.length ≤ 9) {c : Nat} (hc : 1 ≤ c) (hc6 : c ≤ 6) : (m_rests_of [(gD G, .fz), (.int c, .fz)]).w fun x => ∃ kvs : List (List Int × D), x = (.dt (dtM kvs), .ow) ∧ (ky kvs).Nodup ∧ (∀ S, S ∈ ky kvs ↔ Cl G S) ∧ ∀ S, Cl G S → look kvs S = some (.int (L G c S)) := by
  have sz := sizeLine_val
  have tp := two_pow hl
  refine runD_w ?_
  simp (dsimp := false) [b_rests_of]
  refine R.w_mono (closed_ok hG hl) ?_
  rintro _ ⟨cs, rfl, c1, c2, c3⟩
  have erev : (tL cs).reverse = tL cs.reverse := by unfold tL; rw [List.map_reverse]
  simp (dsimp := false) [erev]
  have r1 : cs.reverse.Nodup := (List.reverse_perm cs).nodup_iff.mpr c1
  have r2 : ∀ S, S ∈ cs.reverse ↔ Cl G S := fun S => by rw [List.mem_reverse]; exact c2 S
  have r3 : cs.reverse.Pairwise (fun a b => b.length ≤ a.length) := List.pairwise_reverse.mpr c3
  generalize cs.reverse = rs at r1 r2 r3 ⊢
  have rl := sets_len r1 fun S h => (r2 S).mp h
  refine w_for (fun i ρ => ∃ (kvs : List (List Int × D)) (x y z : Option DV), ρ = [some (gD G, .fz), some (.int c, .fz), some (.dt (dtM kvs), .ow), x, y, z] ∧ ky kvs = rs.take i ∧ ∀ S ∈ rs.take i, look kvs S = some (.int (L G c S)))
    ⟨[], none, none, none, rfl, rfl, by simp⟩ (fun i d ρ e hI => ?_) ?_
  · obtain ⟨kvs, x, y, z, rfl, k1, k2⟩ := hI
    obtain ⟨S, eS, rfl⟩ := tL_at e
    have hS := (r2 S).mp (List.mem_of_getElem? eS)
    obtain ⟨hi, eS'⟩ := List.getElem?_eq_some_iff.mp eS
    have new : S ∉ rs.take i := fun h => by
      have := r1
      rw [← List.take_append_drop i rs, List.nodup_append] at this
      refine this.2.2 S h S ?_ rfl
      rw [List.drop_eq_getElem_cons hi, eS']
      exact List.mem_cons_self
    have big : ∀ T, Cl G T → S.length < T.length → T ∈ rs.take i := fun T hT hlt => by
      have hm := (r2 T).mpr hT
      rw [← List.take_append_drop i rs, List.mem_append] at hm
      rcases hm with h | h
      · exact h
      · rw [List.drop_eq_getElem_cons hi, eS'] at h
        rcases List.mem_cons.mp h with h | h
        · subst h; omega
        · have p := r3
          rw [← List.take_append_drop i rs, List.drop_eq_getElem_cons hi, eS', List.pairwise_append, List.pairwise_cons] at p
          have := p.2.1.1 T h
          omega
    have kl : kvs.length ≤ 512 := by
      rw [← ky_len, k1, List.length_take]
      omega
    have lkn := fun v : D => look_put_new (kvs := kvs) v (by rw [k1]; exact new)
    have kyn : ∀ v : D, ky (put kvs S v) = rs.take (i + 1) := fun v => by
      rw [put_keys, k1, if_neg new, List.take_succ_eq_append_getElem hi, eS']
    have fin : ∀ (y z : Option DV), ∃ (kvs' : List (List Int × D)) (x y' z' : Option DV), [some (gD G, Kd.fz), some (.int c, .fz), some (.dt (dtM (put kvs S (.int (L G c S)))), .ow), some (.tup (iL S), .fz), y, z] = [some (gD G, .fz), some (.int c, .fz), some (.dt (dtM kvs'), .ow), x, y', z'] ∧ ky kvs' = rs.take (i + 1) ∧ ∀ S ∈ rs.take (i + 1), look kvs' S = some (.int (L G c S)) := fun y z =>
      ⟨_, _, _, _, rfl, kyn _, fun T hT => by
        rw [lkn]
        by_cases q : T = S
        · subst q; rw [if_pos rfl]
        · rw [if_neg q]
          refine k2 T ?_
          rw [List.take_succ_eq_append_getElem hi, List.mem_append, eS', List.mem_singleton] at hT
          exact hT.resolve_right q⟩
    have hfull := full_ok c S hG hl hc6
    have hrl := ready_len G S
    have hps : (psteps G c S).length ≤ PySem.sizeLine := by
      have := pch_small (ready G S) (min c (ready G S).length) (by omega) (by omega)
      unfold psteps
      omega
    refine ⟨_, rfl, ?_⟩
    by_cases f : S.length = G.length
    · have := fin (some (.lst (tL (psteps G c S)), .ow)) z
      rw [L_full f] at this
      simp (dsimp := false) [b_rests_of_L1, hfull, gLenG, f, put_dt (show kvs.length < PySem.sizeLine by omega)]
      obtain ⟨a, b, c', d', e1, e2⟩ := this
      simp at e1
      exact ⟨a, e1.1, e2⟩
    · obtain ⟨m1, m2⟩ := min_steps hG hc hS f (ts := psteps G c S) (fun T => mem_psteps)
      have hmin := minL_ok .ow m1
      have key := fin (some (.lst (tL (psteps G c S)), .ow)) z
      rw [← m2] at key
      have f' : ¬ (S.length : Int) = G.length := by omega
      simp (dsimp := false) [b_rests_of_L1, hfull, gLenG, f', hps]
      refine w_lcM (fun T => .tup (iL T)) (fun _ => true) (fun T => .int (L G c (jn G S T))) (fun T hT => ⟨_, rfl, ?_⟩) ?_
      · have hT' := mem_psteps.mp hT
        obtain ⟨q1, q2⟩ := FS_jn hS hT'
        have hle := hS.len
        have hp := FS_pos hG hc hS (by omega) hT'
        have hw := with_ok hS (FS_nodup hT') (FS_ready hT') (by omega : G.length ≤ 100)
        have hx := ix_dt .al (k2 _ (big _ q1 (by omega)))
        simp (dsimp := false) [hw, hx]
      · have e5 : List.map (fun T => D.int (L G c (jn G S T))) (List.filter (fun _ => true) (psteps G c S)) = iL ((psteps G c S).map fun T => L G c (jn G S T)) := by
          unfold iL
          rw [List.map_map, List.filter_eq_self.mpr fun _ _ => rfl]
          rfl
        rw [e5]
        simp (dsimp := false) [hmin, put_dt (show kvs.length < PySem.sizeLine by omega)]
        obtain ⟨a, b, c', d', e1, e2⟩ := key
        simp at e1
        exact ⟨a, e1.1, e2⟩
  · rintro _ ⟨kvs, x, y, z, rfl, k1, k2⟩
    rw [tL_length, List.take_length] at k1 k2
    simp (dsimp := false)
    exact ⟨kvs, rfl, by rw [k1]; exact r1, fun S => by rw [k1]; exact r2 S, fun S hS => k2 S ((r2 S).mpr hS)⟩
/-! ### chunk least -/
theorem least_ok {G : List (List Int)} (hG : Good G) (hl : G.length ≤ 9) {c : Nat} (hc : 1 ≤ c) (hc6 : c ≤ 6) : m_least [(gD G, .fz), (.int c, .fz)] = .ok (.int (L G c []), .fz) := by
  refine R.w_eq (runD_w ?_)
  simp (dsimp := false) [b_least, need_ok G hG (by omega)]
  refine R.w_mono (rests_ok hG hl hc hc6) ?_
  rintro _ ⟨kvs, rfl, k1, k2, k3⟩
  have hx : ixD (.dt (dtM kvs), .ow) (.tup [], .fz) = .ok (.int (L G c []), .fz) := ix_dt .ow (k3 [] (cl_nil G))
  simp (dsimp := false) [hx]
/-! ### chunk lawready -/
theorem law_ready_ok {G : List (List Int)} (S : List Int) (hG : Good G) (hl : G.length ≤ 100) : m__law_ready [(gD G, .fz), (.tup (iL S), .fz)] = .ok (.lst (iL (ready G S)), .ow) := by
  have sz := sizeLine_val
  have hr1 := rg1_nat G.length .fz (by omega)
  have hz : G.length ≤ PySem.sizeLine := by omega
  refine R.w_eq (runD_w ?_)
  simp (dsimp := false) [b__law_ready, gLenG, hr1, rangeL_rng, hz]
  refine w_lcI (fun i => !decide (i ∈ S) && (deps G i).all fun a => decide (a ∈ S)) (fun i => .int i) (fun i hi => ⟨_, rfl, ?_⟩) ?_
  · have hdl : (deps G i).length ≤ PySem.sizeLine := by
      have := deps_len hG hi
      omega
    by_cases c : i ∈ S
    · simp (dsimp := false) [c]
    · simp (dsimp := false) [c, gx _ hi, hdl]
      refine w_lcI (fun a => !decide (a ∈ S)) (fun a => .int a) (fun a ha => ⟨_, rfl, by simp (dsimp := false)⟩) ?_
      rw [map_int]
      simp (dsimp := false) [cEq_nil]
      rw [Bool.eq_iff_iff]
      simp (dsimp := false) [List.filter_eq_nil_iff]
      exact fun _ => c
  · rw [map_int]
    simp (dsimp := false) [ready]
/-! ### chunk lawchoices -/
def lcF (size : Nat) (out : List (List Int)) (item : Int) : List (List Int) := out ++ (out.filter fun ch => decide (ch.length < size)).map fun ch => ch ++ [item]
def lco (size : Nat) (row : List Int) : List (List Int) := row.foldl (lcF size) [[]]
def lch (row : List Int) (size : Nat) : List (List Int) := (lco size row).filter fun ch => decide (ch.length = size)
theorem lco_snoc (size : Nat) (row : List Int) (a : Int) : lco size (row ++ [a]) = lcF size (lco size row) a := by
  unfold lco
  rw [List.foldl_append]
  rfl
theorem lco_len (size : Nat) : ∀ (n : Nat) (row : List Int), row.length = n → (lco size row).length ≤ 2 ^ n := by
  intro n
  induction n with
  | zero =>
    intro row h
    rw [List.eq_nil_of_length_eq_zero h]
    simp [lco]
  | succ n ih =>
    intro row h
    rcases List.eq_nil_or_concat row with e | ⟨m, z, e⟩
    · rw [e] at h; simp at h
    · subst e
      rw [List.concat_eq_append] at *
      have := ih m (by simpa using h)
      rw [lco_snoc]
      unfold lcF
      rw [List.length_append, List.length_map, Nat.pow_succ]
      have := List.length_filter_le (fun ch : List Int => decide (ch.length < size)) (lco size m)
      omega
theorem mem_lco (size : Nat) : ∀ (n : Nat) (row : List Int), row.length = n → ∀ l, l ∈ lco size row ↔ l.Sublist row ∧ l.length ≤ size := by
  intro n
  induction n with
  | zero =>
    intro row h l
    rw [List.eq_nil_of_length_eq_zero h]
    show l ∈ [[]] ↔ _
    rw [List.mem_singleton]
    constructor
    · rintro rfl
      exact ⟨List.nil_sublist _, Nat.zero_le _⟩
    · exact fun h => List.eq_nil_of_sublist_nil h.1
  | succ n ih =>
    intro row h l
    rcases List.eq_nil_or_concat row with e | ⟨m, z, e⟩
    · rw [e] at h; simp at h
    · subst e
      rw [List.concat_eq_append] at *
      have ih := ih m (by simpa using h)
      rw [lco_snoc]
      unfold lcF
      rw [List.mem_append, List.mem_map, ih]
      constructor
      · rintro (⟨h1, h2⟩ | ⟨k, hk, rfl⟩)
        · exact ⟨h1.trans (List.sublist_append_left _ _), h2⟩
        · obtain ⟨h1, h2⟩ := List.mem_filter.mp hk
          have h3 := (ih k).mp h1
          have h2 : k.length < size := by simpa using h2
          exact ⟨h3.1.append (List.Sublist.refl _), by simp; omega⟩
      · rintro ⟨h1, h2⟩
        obtain ⟨l1, l2, rfl, s1, s2⟩ := List.sublist_append_iff.mp h1
        rcases List.eq_nil_or_concat l2 with e | ⟨q, y, e⟩
        · subst e
          rw [List.append_nil] at *
          exact .inl ⟨s1, h2⟩
        · rw [List.concat_eq_append] at e
          have hl := s2.length_le
          rw [e] at hl
          have hq : q = [] := by simpa using hl
          subst hq
          rw [List.nil_append] at e
          subst e
          have hy : y = z := by
            have := s2.mem List.mem_cons_self
            exact List.mem_singleton.mp this
          subst hy
          refine .inr ⟨l1, List.mem_filter.mpr ⟨(ih l1).mpr ⟨s1, by simp at h2; omega⟩, ?_⟩, rfl⟩
          simp at h2 ⊢
          omega
theorem mem_lch {row : List Int} {size : Nat} {l : List Int} : l ∈ lch row size ↔ l ∈ chs row size := by
  unfold lch
  rw [List.mem_filter, mem_lco size _ row rfl, mem_chs, decide_eq_true_iff]
  constructor
  · exact fun h => ⟨h.1.1, h.2⟩
  · exact fun h => ⟨⟨h.1, by omega⟩, h.2⟩
theorem law_choices_ok (row : List Int) (n : Nat) (k : Kd) (hk : InK k) (hr : row.length ≤ 9) (hn : n ≤ 9) : m__law_choices [(.lst (iL row), k), (.int n, .fz)] = .ok (.lst (tL (lch row n)), .ow) := by
  have sz := sizeLine_val
  have hd := dVar_in hk (.lst (iL row))
  have hkal : k ≠ .al := by rcases hk with rfl | rfl <;> exact fun z => by cases z
  have bound : ∀ j, (lco n (row.take j)).length ≤ 512 := fun j => by
    refine Nat.le_trans (lco_len n _ _ rfl) ?_
    exact two_pow (by rw [List.length_take]; omega)
  have il : (D.lst [D.tup []]) = .lst (tL [[]]) := rfl
  refine R.w_eq (runD_w ?_)
  simp (dsimp := false) [b__law_choices, hd, hkal]
  rw [il]
  refine w_for (fun j ρ => ∃ (x y : Option DV), ρ = [some (.lst (iL row), k), some (.int n, .fz), some (.lst (tL (lco n (row.take j))), .ow), x, y]) ⟨_, _, rfl⟩ (fun j d ρ e hI => ?_) ?_
  · obtain ⟨x, y, rfl⟩ := hI
    obtain ⟨a, ea, rfl⟩ := iL_at e
    obtain ⟨hj, ea'⟩ := List.getElem?_eq_some_iff.mp ea
    have hb := bound j
    have hz : (lco n (row.take j)).length ≤ PySem.sizeLine := by omega
    have es : lco n (row.take (j + 1)) = lcF n (lco n (row.take j)) a := by rw [List.take_succ_eq_append_getElem hj, ea', lco_snoc]
    refine ⟨_, rfl, ?_⟩
    simp (dsimp := false) [b__law_choices_L1, hz]
    refine w_lcM (fun ch => .tup (iL ch)) (fun ch => decide (ch.length < n)) (fun ch => .tup (iL (ch ++ [a]))) (fun ch hch => ⟨_, rfl, ?_⟩) ?_
    · have hl2 := ((mem_lco n _ _ rfl ch).mp hch).1.length_le
      have hadd : opAdd (.tup (iL ch), .fz) (.tup (iL [a]), .fz) = .ok (.tup (iL (ch ++ [a])), .fz) := by
        rw [add_tup (by rw [List.length_take] at hl2; simp; omega), iL_append]
      by_cases q : ch.length < n
      · simp (dsimp := false) [q, hadd]
      · simp (dsimp := false) [q]
    · have em : List.map (fun ch => D.tup (iL (ch ++ [a]))) (List.filter (fun ch => decide (ch.length < n)) (lco n (row.take j))) = tL ((List.filter (fun ch => decide (ch.length < n)) (lco n (row.take j))).map fun ch => ch ++ [a]) := by
        unfold tL
        rw [List.map_map]
        rfl
      have hfl := List.length_filter_le (fun ch : List Int => decide (ch.length < n)) (lco n (row.take j))
      rw [em]
      have hadd : opAdd (.lst (tL (lco n (row.take j))), .al) (.lst (tL ((List.filter (fun ch => decide (ch.length < n)) (lco n (row.take j))).map fun ch => ch ++ [a])), .ow) = .ok (.lst (tL (lco n (row.take (j + 1)))), .ow) := by
        rw [add_lst _ _ (by rw [tL_length, tL_length, List.length_map]; omega), tL_append, es]
        rfl
      simp (dsimp := false) [hadd]
  · rintro _ ⟨x, y, rfl⟩
    rw [iL_length, List.take_length]
    have hb := bound row.length
    rw [List.take_length] at hb
    have hz : (lco n row).length ≤ PySem.sizeLine := by omega
    simp (dsimp := false) [hz]
    refine w_lcM (fun ch => .tup (iL ch)) (fun ch => decide (ch.length = n)) (fun ch => .tup (iL ch)) (fun ch hch => ⟨_, rfl, ?_⟩) ?_
    · by_cases q : ch.length = n
      · simp (dsimp := false) [q]
      · have q' : ¬ (ch.length : Int) = n := by omega
        simp (dsimp := false) [q, q']
    · simp (dsimp := false)
      rfl
/-! ### chunk lawsteps -/
def lsteps (G : List (List Int)) (c : Nat) (S : List Int) : List (List Int) := (lch (ready G S) (min c (ready G S).length)).map (jn G S)
theorem mem_lsteps {G : List (List Int)} {c : Nat} {S R : List Int} : R ∈ lsteps G c S ↔ ∃ T ∈ FS G c S, R = jn G S T := by
  unfold lsteps
  rw [List.mem_map]
  constructor
  · rintro ⟨T, h, rfl⟩
    exact ⟨T, mem_lch.mp h, rfl⟩
  · rintro ⟨T, h, rfl⟩
    exact ⟨T, mem_lch.mpr h, rfl⟩
theorem lch_small (row : List Int) (n : Nat) (h : row.length ≤ 9) : (lch row n).length ≤ 512 := by
  have h1 := List.length_filter_le (fun ch : List Int => decide (ch.length = n)) (lco n row)
  have h2 := lco_len n _ row rfl
  have := two_pow h
  unfold lch
  omega
theorem law_steps_ok {G : List (List Int)} (c : Nat) (S : List Int) (hS : Cl G S) (hG : Good G) (hl : G.length ≤ 9) : m__law_steps [(gD G, .fz), (.int c, .fz), (.tup (iL S), .fz)] = .ok (.lst (tL (lsteps G c S)), .ow) := by
  have sz := sizeLine_val
  have hr := law_ready_ok S hG (by omega : G.length ≤ 100)
  have h1 := ready_len G S
  have hch := law_choices_ok (ready G S) (min c (ready G S).length) .bo (.inr rfl) (by omega) (by omega)
  have hz : (lch (ready G S) (min c (ready G S).length)).length ≤ PySem.sizeLine := by
    have := lch_small (ready G S) (min c (ready G S).length) (by omega)
    omega
  refine R.w_eq (runD_w ?_)
  simp (dsimp := false) [b__law_steps, hr, min_cast, hch, hz]
  refine w_lcM (fun T => .tup (iL T)) (fun _ => true) (fun T => .tup (iL (jn G S T))) (fun T hT => ⟨_, rfl, ?_⟩) ?_
  · have hT' : T ∈ FS G c S := mem_lch.mp hT
    have l1 := hS.len
    have l2 := jn_len hS (FS_nodup hT') (FS_ready hT')
    have l3 := (jn_cl hS (FS_ready hT')).len
    have ha : opAdd (.tup (iL S), .fz) (.tup (iL T), .fz) = .ok (.tup (iL (S ++ T)), .fz) := by rw [add_tup (by simp; omega), iL_append]
    have hso := sortedA_tup (l := S ++ T) .fz (jn_perm hS (FS_nodup hT') (FS_ready hT')) ((jn_asc G S T).imp fun h => by omega) (by simp; omega)
    simp (dsimp := false) [ha, hso]
  · have e : List.map (fun T => D.tup (iL (jn G S T))) (List.filter (fun _ => true) (lch (ready G S) (min c (ready G S).length))) = tL (lsteps G c S) := by
      unfold tL lsteps
      rw [List.map_map, List.filter_eq_self.mpr fun _ _ => rfl]
      rfl
    rw [e]
    simp (dsimp := false)
/-! ### chunk lawleast -/
theorem law_least_ok {G : List (List Int)} (hG : Good G) (hl : G.length ≤ 9) {c : Nat} (hc : 1 ≤ c) (hc6 : c ≤ 6) : m__law_least [(gD G, .fz), (.int c, .fz)] = .ok (.int (L G c []), .fz) := by
  have sz := sizeLine_val
  have tp := two_pow hl
  have hw := L_le_work hG hc
  have hnn := L_nn hG hc _ [] (cl_nil G) rfl
  have hr1 : rg1 (.int ((G.length : Int) + 1), .fz) = .ok (rangeL 0 1 (G.length + 1), .fz) := rg1_nat (G.length + 1) .fz (by omega)
  have htr := trg1_nat (n := G.length) .fz (by omega)
  have il : (D.lst [D.tup []]) = .lst (tL [[]]) := rfl
  refine R.w_eq (runD_w ?_)
  simp (dsimp := false) [b__law_least, gLenG, hr1]
  rw [il]
  refine w_rng (fun j ρ => ∃ (ss : List (List Int)) (x y z w : Option DV), ρ = [some (gD G, .fz), some (.int c, .fz), some (.lst (tL ss), .ow), x, y, z, w] ∧ ss.Nodup ∧ (∀ S, S ∈ ss ↔ Rch G c j S) ∧ (j : Int) ≤ L G c [])
    ⟨[[]], none, none, none, none, rfl, by simp, fun S => by rw [List.mem_singleton]; rfl, hnn⟩ (fun j ρ hj hI => ?_) ?_
  · obtain ⟨ss, x, y, z, w, rfl, s1, s2, s3⟩ := hI
    refine ⟨_, rfl, ?_⟩
    obtain ⟨S0, h0, h0'⟩ := Rch.ex hG hc j s3
    have m0 := (s2 S0).mpr h0
    obtain ⟨S1, ss', rfl⟩ : ∃ S1 ss', ss = S1 :: ss' := by
      cases ss with
      | nil => cases m0
      | cons a r => exact ⟨a, r, rfl⟩
    have hx0 : ixD (.lst (tL (S1 :: ss')), .al) (.int 0, .fz) = .ok (.tup (iL S1), .fz) := ix_lst (j := 0) _ _ rfl rfl
    have hin := in_tL id (S1 :: ss') (rng G.length) .fz .al
    have sl := sets_len s1 fun S h => ((s2 S).mp h).cl
    by_cases full : rng G.length ∈ S1 :: ss'
    · have e : L G c [] = j := by
        have := Rch.full hG hc ((s2 _).mp full)
        omega
      by_cases q : (S1.length : Int) = G.length
      · simp (dsimp := false) [b__law_least_L3, hx0, gLenG, q, e]
      · simp (dsimp := false) only [id] at hin
        simp (dsimp := false) only [decide_eq_true full] at hin
        simp (dsimp := false) [b__law_least_L3, hx0, gLenG, q, e, htr, hin]
    · have q : ¬ (S1.length : Int) = G.length := fun q => full (by
        have := full_eq ((s2 S1).mp List.mem_cons_self).cl (by omega)
        rw [← this]
        exact List.mem_cons_self)
      have s4 : ((j + 1 : Nat) : Int) ≤ L G c [] := by
        rcases Int.lt_or_eq_of_le s3 with h | h
        · omega
        · exact absurd ((s2 _).mpr (Rch.end_ hG hc h.symm)) full
      simp (dsimp := false) only [id] at hin
      rw [decide_eq_false full] at hin
      generalize S1 :: ss' = ss at *
      have fz : frzS 2 [some (gD G, Kd.fz), some (.int c, .fz), some (.lst (tL ss), .ow), some (.int j, .fz), some (.dt [], .ow), z, w] = [some (gD G, Kd.fz), some (.int c, .fz), some (.lst (tL ss), .fz), some (.int j, .fz), some (.dt (dtM []), .ow), z, w] := rfl
      simp (dsimp := false) [b__law_least_L3, hx0, gLenG, q, htr, hin]
      rw [fz]
      simp (dsimp := false)
      refine w_for (fun i ρ => ∃ (kvs : List (List Int × D)) (z w : Option DV), ρ = [some (gD G, Kd.fz), some (.int c, .fz), some (.lst (tL ss), .fz), some (.int j, .fz), some (.dt (dtM kvs), .ow), z, w] ∧ (ky kvs).Nodup ∧ ∀ S', S' ∈ ky kvs ↔ ∃ S ∈ ss.take i, ∃ T ∈ FS G c S, S' = jn G S T)
        ⟨[], _, _, rfl, by simp, by simp⟩ (fun i d' ρ e' hI => ?_) ?_
      · obtain ⟨kvs, z, w, rfl, k1, k2⟩ := hI
        obtain ⟨S, eS, rfl⟩ := tL_at e'
        have hS := ((s2 S).mp (List.mem_of_getElem? eS)).cl
        refine ⟨_, rfl, ?_⟩
        simp (dsimp := false) [b__law_least_L2, law_steps_ok c S hS hG hl]
        refine w_for (fun q ρ => ∃ (kvs : List (List Int × D)) (w : Option DV), ρ = [some (gD G, Kd.fz), some (.int c, .fz), some (.lst (tL ss), .fz), some (.int j, .fz), some (.dt (dtM kvs), .ow), some (.tup (iL S), .fz), w] ∧ (ky kvs).Nodup ∧ ∀ S', S' ∈ ky kvs ↔ (∃ S ∈ ss.take i, ∃ T ∈ FS G c S, S' = jn G S T) ∨ ∃ R ∈ (lsteps G c S).take q, S' = R)
          ⟨kvs, _, rfl, k1, fun S' => by rw [k2]; simp⟩ (fun q d2 ρ e2 hI => ?_) ?_
        · obtain ⟨kvs, w, rfl, k1, k2⟩ := hI
          obtain ⟨R, eR, rfl⟩ := tL_at e2
          have hkl : kvs.length ≤ 2 ^ G.length := by
            have := sets_len (G := G) k1 (fun S' h' => by
              rcases (k2 S').mp h' with ⟨T, hT, a, ha, rfl⟩ | ⟨a, ha, rfl⟩
              · exact (FS_jn ((s2 T).mp (List.mem_of_mem_take hT)).cl ha).1
              · obtain ⟨T, hT, rfl⟩ := mem_lsteps.mp (List.mem_of_mem_take ha)
                exact (FS_jn hS hT).1)
            rwa [ky_len] at this
          refine ⟨_, rfl, ?_⟩
          simp (dsimp := false) [b__law_least_L1, put_dt (show kvs.length < PySem.sizeLine by omega)]
          refine ⟨_, rfl, put_nodup k1, fun S' => ?_⟩
          have t := take_mem_succ eR fun R => S' = R
          have t2 : (∃ a ∈ (lsteps G c S).take (q + 1), S' = a) ↔ S' ∈ (lsteps G c S).take (q + 1) := ⟨fun ⟨a, h, e⟩ => by rw [e]; exact h, fun h => ⟨_, h, rfl⟩⟩
          rw [put_mem, k2, or_assoc, ← t2, t]
        · rintro _ ⟨kvs, w, rfl, k1, k2⟩
          refine ⟨kvs, _, _, rfl, k1, fun S' => ?_⟩
          rw [k2, take_mem_succ eS, tL_length, List.take_length]
          refine or_congr Iff.rfl ?_
          constructor
          · rintro ⟨R, h, rfl⟩
            exact mem_lsteps.mp h
          · exact fun h => ⟨_, mem_lsteps.mpr h, rfl⟩
      · rintro _ ⟨kvs, z, w, rfl, k1, k2⟩
        rw [tL_length, List.take_length] at k2
        have rows' : ∀ S', S' ∈ ky kvs ↔ Rch G c (j + 1) S' := fun S' => by
          rw [k2]
          constructor
          · rintro ⟨S, hS, T, hT, rfl⟩
            exact ⟨S, (s2 S).mp hS, T, hT, rfl⟩
          · rintro ⟨S, hS, T, hT, rfl⟩
            exact ⟨S, (s2 S).mpr hS, T, hT, rfl⟩
        have lk := sets_len k1 fun S h => ((rows' S).mp h).cl
        rw [ky_len] at lk
        have hk := keysS_ok (i := 4) (j := 2) (k := 5) (ρ := [some (gD G, Kd.fz), some (.int c, .fz), some (.lst (tL ss), .fz), some (.int j, .fz), some (.dt (dtM kvs), .ow), z, w]) (kvs := kvs) rfl (by omega) (by simp)
        rw [hk]
        exact (SO.w_nx _ _ _ _ _).mpr ⟨ky kvs, _, _, _, _, rfl, k1, rows', s4⟩
  · rintro _ ⟨ss, x, y, z, w, rfl, s1, s2, s3⟩
    push_cast at s3
    omega
/-! ### chunk same -/
theorem same_int (j : Nat) (a b : Int) (k l : Kd) (hk : InK k) (hl : InK l) : l__law_same (j + 1) [(.int a, k), (.int b, l)] = .ok (.bl (a == b), .fz) := by
  have h1 := dVar_in hk (.int a)
  refine R.w_eq (runD_w ?_)
  have h2 : ∀ r, dVar 1 (some (.int a, k) :: some (.int b, l) :: r) = .ok (.int b, l) := fun r => by rw [dVar_s]; exact dVar_in hl _ _
  simp (dsimp := false) [b__law_same, h1, h2]
/-! ### chunk sametup -/
def Pt : Nat → D → Prop
  | _, .int _ => True
  | n + 1, .tup xs => xs.length ≤ 1000 ∧ ∀ x ∈ xs, Pt n x
  | _, _ => False
theorem same_self : ∀ (n : Nat) (d : D), Pt n d → l__law_same (n + 1) [(d, .fz), (d, .fz)] = .ok (.bl true, .fz) := by
  intro n
  induction n with
  | zero =>
    intro d h
    cases d <;> first | exact h.elim | skip
    rw [same_int 0 _ _ .fz .fz (.inl rfl) (.inl rfl)]
    simp
  | succ n ih =>
    intro d h
    cases d <;> first | exact h.elim | skip
    · rw [same_int (n + 1) _ _ .fz .fz (.inl rfl) (.inl rfl)]
      simp
    · rename_i xs
      obtain ⟨h1, h2⟩ := h
      have hr := rg1_nat xs.length .fz (by omega)
      refine R.w_eq (runD_w ?_)
      simp (dsimp := false) [b__law_same, hr]
      refine w_rng (fun j ρ => ∃ z : Option DV, ρ = [some (.tup xs, .fz), some (.tup xs, .fz), z]) ⟨none, rfl⟩ (fun j ρ hj hI => ?_) ?_
      · obtain ⟨z, rfl⟩ := hI
        have hx : ∀ l, ixD (.tup xs, .fz) (.int j, l) = .ok (xs[j], .fz) := fun l => ix_tup _ _ rfl (List.getElem?_eq_getElem hj)
        have hi := ih xs[j] (h2 _ (List.getElem_mem hj))
        refine ⟨_, rfl, ?_⟩
        simp (dsimp := false) [b__law_same_L1, hx, hi]
      · rintro _ ⟨z, rfl⟩
        simp (dsimp := false)
theorem pt_row (n : Nat) (r : List Int) (h : r.length ≤ 1000) : Pt (n + 1) (.tup (iL r)) := ⟨by rw [iL_length]; exact h, fun x hx => by
  obtain ⟨a, _, rfl⟩ := iL_mem hx
  cases n <;> trivial⟩
theorem pt_rows (n : Nat) (S : List (List Int)) (h : S.length ≤ 1000) (h2 : ∀ r ∈ S, r.length ≤ 1000) : Pt (n + 2) (gD S) := ⟨by rw [tL_length]; exact h, fun x hx => by
  obtain ⟨r, hr, rfl⟩ := tL_mem hx
  exact pt_row n r (h2 r hr)⟩
/-! ### chunk max0 -/
theorem maxDef_ok (ns : List Int) (h : ∀ a ∈ ns, 0 ≤ a) (k l : Kd) : gMaxDef (.lst (iL ns), k) (.int 0, l) = .ok (.int (mx0 ns), .fz) := by
  have e : (if ns = [] then 0 else maxI ns) = mx0 ns := by
    cases ns with
    | nil => rfl
    | cons a r =>
      rw [if_neg (by simp)]
      show r.foldl max a = r.foldl max (max 0 a)
      rw [Int.max_eq_right (h a List.mem_cons_self)]
  unfold gMaxDef
  dsimp only
  rw [show intsD (iL ns) = some ns from intsD_map ns]
  dsimp only
  rw [e]
theorem maxL_ok (ns : List Int) (k : Kd) : gInts fMaxL (.lst (iL (0 :: ns)), k) = .ok (.int (mx0 ns), .fz) := by
  unfold gInts
  dsimp only
  rw [show intsD (iL (0 :: ns)) = some (0 :: ns) from intsD_map (0 :: ns)]
  rfl
theorem lc_all (ns : List Int) (f : Int → Int) : List.map (fun a => D.int (f a)) (List.filter (fun _ => true) ns) = iL (ns.map f) := by
  unfold iL
  rw [List.map_map, List.filter_eq_self.mpr fun _ _ => rfl]
  rfl
/-! ### chunk lawheads -/
theorem law_heads_ok {G : List (List Int)} (hG : Good G) (hl : G.length ≤ 100) : m__law_heads [(gD G, .fz)] = .ok (.lst (iL (hds G)), .ow) := by
  have sz := sizeLine_val
  refine R.w_eq (runD_w ?_)
  simp (dsimp := false) [b__law_heads, itemsG]
  refine w_for (fun j ρ => ∃ x y : Option DV, ρ = [some (gD G, .fz), some (.lst (iL (hds (G.take j))), .ow), x, y]) ⟨none, none, rfl⟩ (fun j d ρ e hI => ?_) ?_
  · obtain ⟨x, y, rfl⟩ := hI
    obtain ⟨r, er, rfl⟩ := tL_at e
    obtain ⟨hj, er'⟩ := List.getElem?_eq_some_iff.mp er
    obtain ⟨g1, g2⟩ := hG j r er
    have g3 := good_len hG er
    have hz : r.length ≤ PySem.sizeLine := by omega
    have htl := take_len hj
    have hz2 : (hds (G.take j)).length < PySem.sizeLine := by omega
    refine ⟨_, rfl, ?_⟩
    simp (dsimp := false) [b__law_heads_L1, hz]
    refine w_lcI (fun _ => true) (fun a => .int (nth (hds (G.take j)) a + 1)) (fun a ha => ⟨_, rfl, ?_⟩) ?_
    · obtain ⟨b1, b2⟩ := g2 a ha
      have hx : ixD (.lst (iL (hds (G.take j))), .al) (.int a, .fz) = .ok (.int (nth (hds (G.take j)) a), .fz) :=
        ix_lst (j := a.toNat) _ _ (by omega) (by rw [iL_get, nth_at (by omega), List.getElem?_eq_getElem (by omega)]; rfl)
      simp (dsimp := false) [hx]
    · rw [lc_all]
      have hadd : opAdd (.lst (iL [0]), .ow) (.lst (iL (r.map fun a => nth (hds (G.take j)) a + 1)), .ow) = .ok (.lst (iL (0 :: r.map fun a => nth (hds (G.take j)) a + 1)), .ow) := by
        rw [add_lst _ _ (by rw [iL_length, iL_length, List.length_map]; simp; omega), iL_append]
        rfl
      have hm := maxL_ok (r.map fun a => nth (hds (G.take j)) a + 1) .ow
      have e3 : hds (G.take j) ++ [mx0 (r.map fun a => nth (hds (G.take j)) a + 1)] = hds (G.take (j + 1)) := by rw [hds_take hj, ← er']; rfl
      simp (dsimp := false) [hadd, hm, appR_fz, hz2, e3]
  · rintro _ ⟨x, y, rfl⟩
    rw [tL_length, List.take_length]
    simp (dsimp := false)
/-! ### chunk heads -/
theorem heads_ok {G : List (List Int)} (hG : Good G) (hl : G.length ≤ 100) : m_heads_of [(gD G, .fz)] = .ok (.lst (iL (hds G)), .ow) := by
  have sz := sizeLine_val
  refine R.w_eq (runD_w ?_)
  simp (dsimp := false) [b_heads_of, itemsG]
  refine w_for (fun j ρ => ∃ x y : Option DV, ρ = [some (gD G, .fz), some (.lst (iL (hds (G.take j))), .ow), x, y]) ⟨none, none, rfl⟩ (fun j d ρ e hI => ?_) ?_
  · obtain ⟨x, y, rfl⟩ := hI
    obtain ⟨r, er, rfl⟩ := tL_at e
    obtain ⟨hj, er'⟩ := List.getElem?_eq_some_iff.mp er
    obtain ⟨g1, g2⟩ := hG j r er
    have g3 := good_len hG er
    have hz : r.length ≤ PySem.sizeLine := by omega
    have htl := take_len hj
    have hz2 : (hds (G.take j)).length < PySem.sizeLine := by omega
    refine ⟨_, rfl, ?_⟩
    simp (dsimp := false) [b_heads_of_L1, hz]
    refine w_lcI (fun _ => true) (fun a => .int (nth (hds (G.take j)) a + 1)) (fun a ha => ⟨_, rfl, ?_⟩) ?_
    · obtain ⟨b1, b2⟩ := g2 a ha
      have hx : ixD (.lst (iL (hds (G.take j))), .al) (.int a, .fz) = .ok (.int (nth (hds (G.take j)) a), .fz) :=
        ix_lst (j := a.toNat) _ _ (by omega) (by rw [iL_get, nth_at (by omega), List.getElem?_eq_getElem (by omega)]; rfl)
      simp (dsimp := false) [hx]
    · rw [lc_all]
      have hm := maxDef_ok (r.map fun a => nth (hds (G.take j)) a + 1) (fun a ha => by
        obtain ⟨b, hb, rfl⟩ := List.mem_map.mp ha
        obtain ⟨b1, b2⟩ := g2 b hb
        have := hds_nn (G.take j) (nth (hds (G.take j)) b) (by
          rw [nth_at (by omega)]
          exact List.getElem_mem _)
        omega) .ow .fz
      have e3 : hds (G.take j) ++ [mx0 (r.map fun a => nth (hds (G.take j)) a + 1)] = hds (G.take (j + 1)) := by rw [hds_take hj, ← er']; rfl
      simp (dsimp := false) [hm, appR_fz, hz2, e3]
  · rintro _ ⟨x, y, rfl⟩
    rw [tL_length, List.take_length]
    simp (dsimp := false)
theorem span_of_ok {G : List (List Int)} (hG : Good G) (hl : G.length ≤ 100) : m_span_of [(gD G, .fz)] = .ok (.int (spanV G), .fz) := by
  have sz := sizeLine_val
  have hlen := hds_len G
  have hz : (hds G).length ≤ PySem.sizeLine := by omega
  refine R.w_eq (runD_w ?_)
  simp (dsimp := false) [b_span_of, heads_ok hG hl, hz]
  refine w_lcI (fun _ => true) (fun a => .int (a + 1)) (fun a ha => ⟨_, rfl, by simp (dsimp := false)⟩) ?_
  rw [lc_all (hds G) fun a => a + 1]
  have hm := maxDef_ok ((hds G).map fun a => a + 1) (fun a ha => by
    obtain ⟨b, hb, rfl⟩ := List.mem_map.mp ha
    have := hds_nn G b hb
    omega) .ow .fz
  simp (dsimp := false) [hm]
  rfl
theorem span_ok {G : List (List Int)} (hG : Good G) (hl : G.length ≤ 100) : m_span [(gD G, .fz)] = .ok (.int (spanV G), .fz) := by
  refine R.w_eq (runD_w ?_)
  simp (dsimp := false) [b_span, need_ok G hG hl, span_of_ok hG hl]
/-! ### chunk work -/
theorem work_ok {G : List (List Int)} (hG : Good G) (hl : G.length ≤ 100) : m_work [(gD G, .fz)] = .ok (.int G.length, .fz) := by
  refine R.w_eq (runD_w ?_)
  simp (dsimp := false) [b_work, need_ok G hG hl, gLenG]
/-! ### chunk tails -/
theorem put_int {i : Nat} {ρ : Env} {xs : List Int} {v : Int} {j : Nat} (l : Kd) (h : j < xs.length) : putS i ρ (.lst (iL xs)) (.int v, .fz) (.int j, l) = .nx (ρ.set i (some (.lst (iL (xs.set j v)), .ow))) := by
  have hx : L2.ixN (iL xs).length (j : Int) = some j := by
    unfold L2.ixN
    rw [iL_length]
    split <;> (first | omega | skip)
    · split <;> (first | omega | simp)
  have hs : (iL xs).set j (D.int v) = iL (xs.set j v) := by
    unfold iL
    rw [List.map_set]
  unfold putS
  simp only [keep1_fz, hx, hs]
theorem getD_at {α : Type} {l : List α} (x : α) {i : Nat} (h : i < l.length) : l.getD i x = l[i] := by
  rw [List.getD_eq_getElem?_getD, List.getElem?_eq_getElem h]
  rfl
theorem take_fold {α β : Type} (f : β → α → β) (b : β) {l : List α} {j : Nat} {x : α} (h : l[j]? = some x) : (l.take (j + 1)).foldl f b = f ((l.take j).foldl f b) x := by
  obtain ⟨hj, rfl⟩ := List.getElem?_eq_some_iff.mp h
  rw [List.take_succ_eq_append_getElem hj, List.foldl_append]
  rfl
theorem zeros_lc (G : List (List Int)) : List.map (fun _ => D.int 0) (List.filter (fun _ => true) (tL G)) = iL (List.replicate G.length 0) := by
  unfold tL
  rw [List.filter_eq_self.mpr fun _ _ => rfl, List.map_map]
  unfold iL
  rw [List.map_replicate]
  exact List.eq_replicate_iff.mpr ⟨by simp, fun b hb => by obtain ⟨a, _, rfl⟩ := List.mem_map.mp hb; rfl⟩
theorem ix_int {f : List Int} {a : Int} (h0 : 0 ≤ a) (h : a < f.length) (k l : Kd) : ixD (.lst (iL f), k) (.int a, l) = .ok (.int (nth f a), .fz) :=
  ix_lst (j := a.toNat) _ _ (by omega) (by rw [iL_get, nth_at (by omega), List.getElem?_eq_getElem (by omega)]; rfl)
theorem tails_ok {G : List (List Int)} (hG : Good G) (hl : G.length ≤ 100) : m_tails_of [(gD G, .fz)] = .ok (.lst (iL (tls G)), .ow) := by
  have sz := sizeLine_val
  have hz : G.length ≤ PySem.sizeLine := by omega
  have hr3 : rg3 (.int ((G.length : Int) - 1), .fz) (.int (-1), .fz) (.int (-1), .fz) = .ok (rangeL ((G.length : Int) - 1) (-1) G.length, .fz) := by
    unfold rg3
    dsimp only
    rw [if_pos ⟨rfl, by omega, by omega, by omega, by omega⟩]
    congr 3
    omega
  have hneg : negD (.int 1, .fz) = .ok (.int (-1), .fz) := Eq.trans rfl rfl
  refine R.w_eq (runD_w ?_)
  simp (dsimp := false) [b_tails_of, itemsG, hz]
  refine w_lc (fun _ => true) (fun _ => .int 0) (fun d hd => ⟨_, rfl, by simp (dsimp := false)⟩) ?_
  rw [zeros_lc]
  simp (dsimp := false) [gLenG, hneg, hr3]
  refine w_for (fun j ρ => ∃ (x y z : Option DV), ρ = [some (gD G, .fz), some (.lst (iL (tlF G j)), .ow), x, y, z]) ⟨_, _, _, rfl⟩ (fun j d ρ e hI => ?_) ?_
  · obtain ⟨x, y, z, rfl⟩ := hI
    have hj : j < G.length := by
      have := (List.getElem?_eq_some_iff.mp e).1
      simpa [rangeL] using this
    have ed : d = D.int ((G.length - 1 - j : Nat) : Int) := by
      have := (List.getElem?_eq_some_iff.mp e).2
      simp [rangeL] at this
      rw [← this]
      congr 1
      omega
    subst ed
    have hs := tlF_succ G j
    have hfl := tlF_len G j
    generalize ha : G.length - 1 - j = at_ at hs ⊢
    have hat : at_ < G.length := by omega
    rw [getD_at [] hat] at hs
    obtain ⟨g1, g2⟩ := hG at_ _ (List.getElem?_eq_getElem hat)
    have hx : ixD (gD G, .fz) (.int at_, .fz) = .ok (.tup (iL G[at_]), .fz) := ix_tup (j := at_) _ _ rfl (by unfold tL; rw [List.getElem?_map, List.getElem?_eq_getElem hat]; rfl)
    refine ⟨_, rfl, ?_⟩
    simp (dsimp := false) [b_tails_of_L2, hx]
    refine w_for (fun j2 ρ => ∃ (x z : Option DV), ρ = [some (gD G, .fz), some (.lst (iL ((G[at_].take j2).foldl (tlJ at_) (tlF G j))), .ow), x, some (.int at_, .fz), z])
      ⟨_, _, rfl⟩ (fun j2 d ρ e hJ => ?_) ?_
    · obtain ⟨x, z, rfl⟩ := hJ
      obtain ⟨a, ea, rfl⟩ := iL_at e
      obtain ⟨b1, b2⟩ := g2 a (List.mem_of_getElem? ea)
      have hfo := take_fold (tlJ at_) (tlF G j) ea
      have hln := tlR_len at_ (G[at_].take j2) (tlF G j)
      generalize (G[at_].take j2).foldl (tlJ at_) (tlF G j) = f at hfo hln ⊢
      obtain ⟨o, rfl⟩ : ∃ o : Nat, a = o := ⟨a.toNat, by omega⟩
      have ho : o < f.length := by omega
      have x1 : ∀ l, ixD (.lst (iL f), .al) (.int o, l) = .ok (.int (nth f o), .fz) := fun l => ix_int (by omega) (by omega) _ _
      have x2 : ∀ l, ixD (.lst (iL f), .al) (.int at_, l) = .ok (.int (nth f at_), .fz) := fun l => ix_int (by omega) (by omega) _ _
      refine ⟨_, rfl, ?_⟩
      have e3 : max (nth f o) (nth f at_ + 1) = if nth f o < nth f at_ + 1 then nth f at_ + 1 else nth f o := by
        rw [Int.max_def]
        split <;> split <;> omega
      rw [hfo]
      unfold tlJ
      rw [Int.toNat_natCast, e3]
      simp (dsimp := false) [b_tails_of_L1, x1, x2, put_int _ ho]
    · rintro _ ⟨x, z, rfl⟩
      rw [iL_length, List.take_length, ← hs]
      exact ⟨_, _, _, rfl⟩
  · rintro _ ⟨x, y, z, rfl⟩
    have hrl : (rangeL ((G.length : Int) - 1) (-1) G.length).length = G.length := by simp [rangeL]
    rw [hrl]
    simp (dsimp := false)
    rfl
/-! ### chunk windows -/
theorem rng_at {n j : Nat} {d : D} (h : (iL (rng n))[j]? = some d) : j < n ∧ d = .int j := by
  obtain ⟨a, ea, rfl⟩ := iL_at h
  have hj : j < n := by
    have := (List.getElem?_eq_some_iff.mp ea).1
    rwa [rng_length] at this
  rw [rng_get hj] at ea
  cases ea
  exact ⟨hj, rfl⟩
theorem hd_ix {G : List (List Int)} {v : Int} (hv : v ∈ rng G.length) (k l : Kd) : ixD (.lst (iL (hds G)), k) (.int v, l) = .ok (.int (Hd G v), .fz) :=
  ix_int (mem_rng.mp hv).1 (by rw [hds_len]; exact (mem_rng.mp hv).2) _ _
theorem tl_ix {G : List (List Int)} {v : Int} (hv : v ∈ rng G.length) (k l : Kd) : ixD (.lst (iL (tls G)), k) (.int v, l) = .ok (.int (Tl G v), .fz) :=
  ix_int (mem_rng.mp hv).1 (by rw [tls_len]; exact (mem_rng.mp hv).2) _ _
theorem window_at_ok {G : List (List Int)} (hG : Good G) (hl : G.length ≤ 100) {c : Nat} (hc : 1 ≤ c) (hc6 : c ≤ 6) (a b : Int) : m_window_at [(gD G, .fz), (.int c, .fz), (.int a, .fz), (.int b, .fz)] = .ok (if cnt G a b = 0 then .non else .int (wv G c a b), .fz) := by
  have sz := sizeLine_val
  have ez : zipL (iL (hds G)) (iL (tls G)) = (rng G.length).map fun v => D.tup [.int (Hd G v), .int (Tl G v)] := by
    rw [hds_map, tls_map]
    unfold iL
    rw [List.map_map, List.map_map, zipL_map]
    rfl
  have hz : G.length ≤ PySem.sizeLine := by omega
  have hd := idiv (i := (cnt G a b : Int) + c - 1) (j := c) .fz .fz (by omega) (by omega)
  refine R.w_eq (runD_w ?_)
  simp (dsimp := false) [b_window_at, heads_ok hG hl, tails_ok hG hl, ez, hz]
  refine w_lcM (fun v => D.tup [.int (Hd G v), .int (Tl G v)]) (fun v => decide (a ≤ Hd G v) && decide (b ≤ Tl G v)) (fun _ => .int 1) (fun v hv => ?_) ?_
  · refine ⟨[some (gD G, .fz), some (.int c, .fz), some (.int a, .fz), some (.int b, .fz), none, some (.int (Hd G v), .fz), some (.int (Tl G v), .fz)], rfl, ?_⟩
    by_cases q1 : a ≤ Hd G v
    · by_cases q2 : b ≤ Tl G v <;> simp (dsimp := false) [q1, q2]
    · simp (dsimp := false) [q1]
  · have el : (List.map (fun _ => D.int 1) (List.filter (fun v => decide (a ≤ Hd G v) && decide (b ≤ Tl G v)) (rng G.length))).length = cnt G a b := by rw [List.length_map]; rfl
    generalize List.map (fun _ => D.int 1) (List.filter (fun v => decide (a ≤ Hd G v) && decide (b ≤ Tl G v)) (rng G.length)) = xs at el ⊢
    by_cases z : cnt G a b = 0
    · simp (dsimp := false) [el, z]
    · have z' : ¬ (cnt G a b : Int) = 0 := by omega
      simp (dsimp := false) [el, z, hd]
      rfl
theorem best_window_ok {G : List (List Int)} (hG : Good G) (hl : G.length ≤ 100) {c : Nat} (hc : 1 ≤ c) (hc6 : c ≤ 6) : (m_best_window [(gD G, .fz), (.int c, .fz)]).w fun x => ∃ w a b : Int, x = (.tup (iL [w, a, b]), .fz) ∧ WBp G c w ∧ ((w = 0 ∧ a = 0 ∧ b = 0) ∨ (0 ≤ a ∧ 0 ≤ b ∧ cnt G a b ≠ 0 ∧ wv G c a b = w)) := by
  have sz := sizeLine_val
  have hhl := hds_len G
  have htl := tls_len G
  have hz1 : (hds G).length ≤ PySem.sizeLine := by omega
  have hz2 : (tls G).length ≤ PySem.sizeLine := by omega
  have sH := sortedA_srtI (l := ddI (hds G)) .ow (by have := ddI_len (hds G); omega)
  have sT := sortedA_srtI (l := ddI (tls G)) .ow (by have := ddI_len (tls G); omega)
  have mH : ∀ x, x ∈ srtI (ddI (hds G)) ↔ ∃ u ∈ rng G.length, Hd G u = x := fun x => by rw [mem_srtI, mem_ddI, hds_map, List.mem_map]
  have mT : ∀ x, x ∈ srtI (ddI (tls G)) ↔ ∃ u ∈ rng G.length, Tl G u = x := fun x => by rw [mem_srtI, mem_ddI, tls_map, List.mem_map]
  refine runD_w ?_
  simp (dsimp := false) [b_best_window, heads_ok hG hl, hz1]
  refine w_dcSet (fun n hn => ⟨_, rfl, by simp (dsimp := false)⟩) ?_
  simp (dsimp := false) [sH]
  generalize srtI (ddI (hds G)) = hs at mH ⊢
  have ib : D.int 0 :: D.int 0 :: iL [0] = iL [0, 0, 0] := rfl
  rw [ib]
  refine w_for (fun i ρ => ∃ (w a b : Int) (x y z u v : Option DV), ρ = [some (gD G, .fz), some (.int c, .fz), some (.tup (iL [w, a, b]), .fz), x, y, z, u, v] ∧ 0 ≤ w ∧ (∀ s ∈ hs.take i, ∀ t ∈ rng G.length, cnt G s (Tl G t) ≠ 0 → wv G c s (Tl G t) ≤ w) ∧ ((w = 0 ∧ a = 0 ∧ b = 0) ∨ (0 ≤ a ∧ 0 ≤ b ∧ cnt G a b ≠ 0 ∧ wv G c a b = w)))
    ⟨0, 0, 0, none, none, none, none, none, rfl, Int.le_refl _, by simp, .inl ⟨rfl, rfl, rfl⟩⟩ (fun i d ρ e hI => ?_) ?_
  · obtain ⟨w, a, b, x, y, z, u, v, rfl, w0, w1, w2⟩ := hI
    obtain ⟨s, es, rfl⟩ := iL_at e
    obtain ⟨hi, es'⟩ := List.getElem?_eq_some_iff.mp es
    obtain ⟨us, us1, us2⟩ := (mH s).mp (List.mem_of_getElem? es)
    have s0 : 0 ≤ s := by rw [← us2]; exact hd_nn us1
    refine ⟨_, rfl, ?_⟩
    simp (dsimp := false) [b_best_window_L2, tails_ok hG hl, hz2]
    refine w_dcSet (fun n hn => ⟨_, rfl, by simp (dsimp := false)⟩) ?_
    simp (dsimp := false) [sT]
    generalize srtI (ddI (tls G)) = ts at mT ⊢
    refine w_for (fun j ρ => ∃ (w a b : Int) (z u v : Option DV), ρ = [some (gD G, .fz), some (.int c, .fz), some (.tup (iL [w, a, b]), .fz), some (.int s, .fz), y, z, u, v] ∧ 0 ≤ w ∧ (∀ s ∈ hs.take i, ∀ t ∈ rng G.length, cnt G s (Tl G t) ≠ 0 → wv G c s (Tl G t) ≤ w) ∧ (∀ t ∈ ts.take j, cnt G s t ≠ 0 → wv G c s t ≤ w) ∧ ((w = 0 ∧ a = 0 ∧ b = 0) ∨ (0 ≤ a ∧ 0 ≤ b ∧ cnt G a b ≠ 0 ∧ wv G c a b = w)))
      ⟨w, a, b, _, _, _, rfl, w0, w1, by simp, w2⟩ (fun j d ρ e2 hI => ?_) ?_
    · obtain ⟨w, a, b, z, u, v, rfl, w0, w1, w3, w2⟩ := hI
      obtain ⟨t, et, rfl⟩ := iL_at e2
      obtain ⟨hj, et'⟩ := List.getElem?_eq_some_iff.mp et
      obtain ⟨ut, ut1, ut2⟩ := (mT t).mp (List.mem_of_getElem? et)
      have t0 : 0 ≤ t := by rw [← ut2]; exact tl_nn hG ut1
      have hwin := window_at_ok hG hl hc hc6 s t
      have hx0 : ∀ k, ixD (.tup (iL [w, a, b]), k) (.int 0, .fz) = .ok (.int w, .fz) := fun k => ix_tup (j := 0) _ _ rfl rfl
      have keep : ∀ w', w ≤ w' → (cnt G s t ≠ 0 → wv G c s t ≤ w') → (∀ s ∈ hs.take i, ∀ t ∈ rng G.length, cnt G s (Tl G t) ≠ 0 → wv G c s (Tl G t) ≤ w') ∧ ∀ t ∈ ts.take (j + 1), cnt G s t ≠ 0 → wv G c s t ≤ w' := fun w' hw hh =>
        ⟨fun s' hs' t' ht' hn => Int.le_trans (w1 s' hs' t' ht' hn) hw, fun t' ht' hn => by
          rw [List.take_succ_eq_append_getElem hj, List.mem_append, et', List.mem_singleton] at ht'
          rcases ht' with h | h
          · exact Int.le_trans (w3 t' h hn) hw
          · subst h; exact hh hn⟩
      refine ⟨_, rfl, ?_⟩
      by_cases zc : cnt G s t = 0
      · rw [if_pos zc] at hwin
        simp (dsimp := false) [b_best_window_L1, hwin]
        obtain ⟨k1, k2⟩ := keep w (Int.le_refl _) fun h => absurd zc h
        exact ⟨w, a, b, rfl, w0, k1, k2, w2⟩
      · rw [if_neg zc] at hwin
        by_cases gt : w < wv G c s t
        · simp (dsimp := false) [b_best_window_L1, hwin, hx0, gt]
          rw [show frzS 7 [some (gD G, Kd.fz), some (.int c, .fz), some (.tup (iL [w, a, b]), .fz), some (.int s, .fz), y, some (.int t, .fz), u, some (.int (wv G c s t), .fz)] = [some (gD G, Kd.fz), some (.int c, .fz), some (.tup (iL [w, a, b]), .fz), some (.int s, .fz), y, some (.int t, .fz), u, some (.int (wv G c s t), .fz)] from rfl]
          simp (dsimp := false)
          obtain ⟨k1, k2⟩ := keep (wv G c s t) (by omega) fun _ => Int.le_refl _
          exact ⟨wv G c s t, s, t, rfl, by omega, k1, k2, .inr ⟨s0, t0, zc, rfl⟩⟩
        · simp (dsimp := false) [b_best_window_L1, hwin, hx0, gt]
          obtain ⟨k1, k2⟩ := keep w (Int.le_refl _) fun _ => by omega
          exact ⟨w, a, b, rfl, w0, k1, k2, w2⟩
    · rintro _ ⟨w, a, b, z, u, v, rfl, w0, w1, w3, w2⟩
      rw [iL_length, List.take_length] at w3
      refine ⟨w, a, b, _, _, _, _, _, rfl, w0, fun s' hs' t ht hn => ?_, w2⟩
      rw [List.take_succ_eq_append_getElem hi, List.mem_append, es', List.mem_singleton] at hs'
      rcases hs' with h | h
      · exact w1 s' h t ht hn
      · subst h
        exact w3 _ ((mT _).mpr ⟨t, ht, rfl⟩) hn
  · rintro _ ⟨w, a, b, x, y, z, u, v, rfl, w0, w1, w2⟩
    rw [iL_length, List.take_length] at w1
    simp (dsimp := false)
    refine ⟨w, a, b, rfl, WBp.of hG hc w0 (fun u hu v hv hn => w1 _ ((mH _).mpr ⟨u, hu, rfl⟩) v hv hn) (w2.imp (fun h => h.1) fun h => ⟨a, b, h.1, h.2.1, h.2.2.1, h.2.2.2⟩), w2⟩
theorem area_of_ok {G : List (List Int)} {c : Nat} (hc : 1 ≤ c) (hc6 : c ≤ 6) : m_area_of [(gD G, .fz), (.int c, .fz)] = .ok (.int (((G.length : Int) + c - 1) / c), .fz) := by
  have hd := idiv (i := (G.length : Int) + c - 1) (j := c) .fz .fz (by omega) (by omega)
  refine R.w_eq (runD_w ?_)
  simp (dsimp := false) [b_area_of, gLenG, hd]
/-! ### chunk wbound -/
theorem window_bound_ok {G : List (List Int)} (hG : Good G) (hl : G.length ≤ 100) {c : Nat} (hc : 1 ≤ c) (hc6 : c ≤ 6) : (m_window_bound [(gD G, .fz), (.int c, .fz)]).w fun x => ∃ w : Int, x = (.int w, .fz) ∧ WBp G c w := by
  refine runD_w ?_
  simp (dsimp := false) [b_window_bound, need_ok G hG hl]
  refine R.w_mono (best_window_ok hG hl hc hc6) ?_
  rintro _ ⟨w, a, b, rfl, h1, h2⟩
  have hx0 : ixD (.tup (iL [w, a, b]), .fz) (.int 0, .fz) = .ok (.int w, .fz) := ix_tup (j := 0) _ _ rfl rfl
  simp (dsimp := false) [hx0]
  exact h1
theorem area_bound_ok {G : List (List Int)} (hG : Good G) (hl : G.length ≤ 100) {c : Nat} (hc : 1 ≤ c) (hc6 : c ≤ 6) : m_area_bound [(gD G, .fz), (.int c, .fz)] = .ok (.int (((G.length : Int) + c - 1) / c), .fz) := by
  refine R.w_eq (runD_w ?_)
  simp (dsimp := false) [b_area_bound, need_ok G hG hl, area_of_ok hc hc6]
/-! ### chunk stepbound -/
theorem step_bound_ok {G : List (List Int)} {c : Nat} (hG : Good G) (hl : G.length ≤ 100) (hc : 1 ≤ c) (hc6 : c ≤ 6) : m_step_bound [(gD G, .fz), (.int c, .fz)] = .ok (.int (((G.length : Int) + ((c : Int) - 1) * spanV G) / c), .fz) := by
  have hm : opMul (.int ((c : Int) - 1), .fz) (.int (spanV G), .fz) = .ok (.int (((c : Int) - 1) * spanV G), .fz) := mul_small _ _ (.inl (by omega))
  have hd := idiv (i := (G.length : Int) + ((c : Int) - 1) * spanV G) (j := c) .fz .fz (by omega) (by omega)
  refine R.w_eq (runD_w ?_)
  simp (dsimp := false) [b_step_bound, need_ok G hG hl, span_of_ok hG hl, gLenG, hm, hd]
/-! ### chunk lawtails -/
theorem zeros_mul (n : Nat) (k : Kd) (h : n ≤ 100) : opMul (.lst (iL [0]), .ow) (.int n, k) = .ok (.lst (iL (List.replicate n 0)), .ow) := by
  have e : (List.replicate n (iL [0])).flatten = iL (List.replicate n 0) := by
    unfold iL
    rw [List.map_replicate]
    induction n with
    | zero => rfl
    | succ n ih => rw [List.replicate_succ, List.flatten_cons, ih (by omega), List.replicate_succ]; rfl
  have sz := sizeLine_val
  unfold opMul
  dsimp only
  rw [if_pos ⟨by omega, by omega, by rw [iL_length, Int.toNat_natCast]; simp; omega⟩, Int.toNat_natCast, e]
theorem law_tails_ok {G : List (List Int)} (hG : Good G) (hl : G.length ≤ 100) : m__law_tails [(gD G, .fz)] = .ok (.lst (iL (tls G)), .ow) := by
  have sz := sizeLine_val
  have hm := zeros_mul G.length .fz hl
  have hrv := rgRev_nat G.length .fz (by omega)
  refine R.w_eq (runD_w ?_)
  simp (dsimp := false) [b__law_tails, gLenG, hm, hrv]
  refine w_for (fun j ρ => ∃ (x y : Option DV), ρ = [some (gD G, .fz), some (.lst (iL (tlF G j)), .ow), x, y]) ⟨_, _, rfl⟩ (fun j d ρ e hI => ?_) ?_
  · obtain ⟨x, y, rfl⟩ := hI
    have hj : j < G.length := by
      have := (List.getElem?_eq_some_iff.mp e).1
      simpa [rangeL] using this
    have ed : d = D.int ((G.length - 1 - j : Nat) : Int) := by
      have := (List.getElem?_eq_some_iff.mp e).2
      simp [rangeL] at this
      rw [← this]
      exact congrArg D.int (by omega)
    subst ed
    have hs := tlF_succ G j
    have hfl := tlF_len G j
    generalize ha : G.length - 1 - j = at_ at hs ⊢
    have hat : at_ < G.length := by omega
    rw [getD_at [] hat] at hs
    obtain ⟨g1, g2⟩ := hG at_ _ (List.getElem?_eq_getElem hat)
    have hx : ixD (gD G, .fz) (.int at_, .fz) = .ok (.tup (iL G[at_]), .fz) := ix_tup (j := at_) _ _ rfl (by unfold tL; rw [List.getElem?_map, List.getElem?_eq_getElem hat]; rfl)
    refine ⟨_, rfl, ?_⟩
    simp (dsimp := false) [b__law_tails_L2, hx]
    refine w_for (fun j2 ρ => ∃ (z : Option DV), ρ = [some (gD G, .fz), some (.lst (iL ((G[at_].take j2).foldl (tlJ at_) (tlF G j))), .ow), some (.int at_, .fz), z])
      ⟨_, rfl⟩ (fun j2 d ρ e hJ => ?_) ?_
    · obtain ⟨z, rfl⟩ := hJ
      obtain ⟨a, ea, rfl⟩ := iL_at e
      obtain ⟨b1, b2⟩ := g2 a (List.mem_of_getElem? ea)
      have hfo := take_fold (tlJ at_) (tlF G j) ea
      have hln := tlR_len at_ (G[at_].take j2) (tlF G j)
      generalize (G[at_].take j2).foldl (tlJ at_) (tlF G j) = f at hfo hln ⊢
      obtain ⟨o, rfl⟩ : ∃ o : Nat, a = o := ⟨a.toNat, by omega⟩
      have ho : o < f.length := by omega
      have x1 : ∀ l, ixD (.lst (iL f), .al) (.int o, l) = .ok (.int (nth f o), .fz) := fun l => ix_int (by omega) (by omega) _ _
      have x2 : ∀ l, ixD (.lst (iL f), .al) (.int at_, l) = .ok (.int (nth f at_), .fz) := fun l => ix_int (by omega) (by omega) _ _
      refine ⟨_, rfl, ?_⟩
      have e3 : max (nth f o) (nth f at_ + 1) = if nth f o < nth f at_ + 1 then nth f at_ + 1 else nth f o := by
        rw [Int.max_def]
        split <;> split <;> omega
      rw [hfo]
      unfold tlJ
      rw [Int.toNat_natCast, e3]
      simp (dsimp := false) [b__law_tails_L1, x1, x2, put_int _ ho]
    · rintro _ ⟨z, rfl⟩
      rw [iL_length, List.take_length, ← hs]
      exact ⟨_, _, rfl⟩
  · rintro _ ⟨x, y, rfl⟩
    have hrl : (rangeL ((G.length : Int) - 1) (-1) G.length).length = G.length := by simp [rangeL]
    rw [hrl]
    simp (dsimp := false)
    rfl
/-! ### chunk lawwindow -/
theorem law_up_ok (m : Int) {c : Nat} (hc : 1 ≤ c) (hc6 : c ≤ 6) : m__law_up [(.int m, .fz), (.int c, .fz)] = .ok (.int ((m + c - 1) / c), .fz) := by
  have hd := idiv (i := m + c - 1) (j := c) .fz .fz (by omega) (by omega)
  refine R.w_eq (runD_w ?_)
  simp (dsimp := false) [b__law_up, hd]
theorem law_window_ok {G : List (List Int)} (hG : Good G) (hl : G.length ≤ 100) {c : Nat} (hc : 1 ≤ c) (hc6 : c ≤ 6) (a b : Int) : m__law_window [(gD G, .fz), (.int c, .fz), (.int a, .fz), (.int b, .fz)] = .ok (.int (if cnt G a b = 0 then 0 else wv G c a b), .fz) := by
  have sz := sizeLine_val
  have hz : G.length ≤ PySem.sizeLine := by omega
  have hr1 := rg1_nat G.length .fz (by omega)
  refine R.w_eq (runD_w ?_)
  simp (dsimp := false) [b__law_window, law_heads_ok hG hl, law_tails_ok hG hl, gLenG, hr1, rangeL_rng, hz]
  refine w_lcI (fun v => decide (a ≤ Hd G v) && decide (b ≤ Tl G v)) (fun v => .int v) (fun v hv => ⟨_, rfl, ?_⟩) ?_
  · by_cases q1 : a ≤ Hd G v
    · by_cases q2 : b ≤ Tl G v <;> simp (dsimp := false) [hd_ix hv, tl_ix hv, q1, q2]
    · simp (dsimp := false) [hd_ix hv, q1]
  · have el : (List.map (fun v => D.int v) (List.filter (fun v => decide (a ≤ Hd G v) && decide (b ≤ Tl G v)) (rng G.length))).length = cnt G a b := by rw [List.length_map]; rfl
    generalize List.map (fun v => D.int v) (List.filter (fun v => decide (a ≤ Hd G v) && decide (b ≤ Tl G v)) (rng G.length)) = xs at el ⊢
    have hu := law_up_ok (cnt G a b) hc hc6
    by_cases z : cnt G a b = 0
    · simp (dsimp := false) [el, z]
    · simp (dsimp := false) [el, z, hu]
      rfl
def Att (G : List (List Int)) (c : Nat) (w : Int) : Prop := w = 0 ∨ ∃ a b : Int, 0 ≤ a ∧ 0 ≤ b ∧ cnt G a b ≠ 0 ∧ wv G c a b = w
theorem law_window_bound_ok {G : List (List Int)} (hG : Good G) (hl : G.length ≤ 100) {c : Nat} (hc : 1 ≤ c) (hc6 : c ≤ 6) : (m__law_window_bound [(gD G, .fz), (.int c, .fz)]).w fun x => ∃ w : Int, x = (.int w, .fz) ∧ WBp G c w := by
  have hr1 := rg1_nat G.length .fz (by omega)
  refine runD_w ?_
  simp (dsimp := false) [b__law_window_bound, gLenG, hr1]
  refine w_rng (fun i ρ => ∃ (w : Int) (x y : Option DV), ρ = [some (gD G, .fz), some (.int c, .fz), some (.int w, .fz), x, y] ∧ 0 ≤ w ∧ (∀ a b : Nat, a < i → b < G.length → cnt G a b ≠ 0 → wv G c a b ≤ w) ∧ Att G c w)
    ⟨0, none, none, rfl, Int.le_refl _, fun a b h => by omega, .inl rfl⟩ (fun i ρ hi hI => ?_) ?_
  · obtain ⟨w, x, y, rfl, w0, w1, w2⟩ := hI
    refine ⟨_, rfl, ?_⟩
    simp (dsimp := false) [b__law_window_bound_L2, gLenG, hr1]
    refine w_rng (fun j ρ => ∃ (w : Int) (y : Option DV), ρ = [some (gD G, .fz), some (.int c, .fz), some (.int w, .fz), some (.int i, .fz), y] ∧ 0 ≤ w ∧ (∀ a b : Nat, a < i → b < G.length → cnt G a b ≠ 0 → wv G c a b ≤ w) ∧ (∀ b : Nat, b < j → cnt G i b ≠ 0 → wv G c i b ≤ w) ∧ Att G c w)
      ⟨w, _, rfl, w0, w1, fun b h => by omega, w2⟩ (fun j ρ hj hI => ?_) ?_
    · obtain ⟨w, y, rfl, w0, w1, w3, w2⟩ := hI
      have hw := law_window_ok hG hl hc hc6 i j
      refine ⟨_, rfl, ?_⟩
      simp (dsimp := false) [b__law_window_bound_L1, hw]
      by_cases z : cnt G i j = 0
      · rw [if_pos z, if_neg (by omega)]
        refine ⟨w0, w1, fun b hb hn => ?_, w2⟩
        by_cases e : b = j
        · subst e; exact absurd z hn
        · exact w3 b (by omega) hn
      · rw [if_neg z]
        by_cases gt : w < wv G c i j
        · rw [if_pos gt]
          refine ⟨by omega, fun a b ha hb hn => Int.le_trans (w1 a b ha hb hn) (by omega), fun b hb hn => ?_, .inr ⟨i, j, Int.natCast_nonneg _, Int.natCast_nonneg _, z, rfl⟩⟩
          by_cases e : b = j
          · subst e; exact Int.le_refl _
          · exact Int.le_trans (w3 b (by omega) hn) (by omega)
        · rw [if_neg gt]
          refine ⟨w0, w1, fun b hb hn => ?_, w2⟩
          by_cases e : b = j
          · subst e; omega
          · exact w3 b (by omega) hn
    · rintro _ ⟨w, y, rfl, w0, w1, w3, w2⟩
      refine ⟨w, _, _, rfl, w0, fun a b ha hb hn => ?_, w2⟩
      by_cases e : a = i
      · subst e; exact w3 b hb hn
      · exact w1 a b (by omega) hb hn
  · rintro _ ⟨w, x, y, rfl, w0, w1, w2⟩
    simp (dsimp := false)
    refine ⟨w0, fun a b ha hb hn => ?_, w2⟩
    obtain ⟨v, v1, v2, v3⟩ := cnt_mem hn
    have hv := mem_rng.mp v1
    have h1 := hd_le hG v.toNat (by omega)
    rw [Int.toNat_of_nonneg hv.1] at h1
    have h2 := tl_lt hG _ v v1 rfl
    have := w1 a.toNat b.toNat (by omega) (by omega)
    rw [Int.toNat_of_nonneg ha, Int.toNat_of_nonneg hb] at this
    exact this hn
/-! ### chunk law52 -/
theorem mkTup_6 (a b c d e f : D) : mkTup [(a, .fz), (b, .fz), (c, .fz), (d, .fz), (e, .fz), (f, .fz)] = .ok (.tup [a, b, c, d, e, f], .fz) := by simp [mkTup, show 6 ≤ PySem.sizeLine by decide]
theorem bounds_ok {G : List (List Int)} (hG : Good G) (hl : G.length ≤ 9) {c : Nat} (hc : 1 ≤ c) (hc6 : c ≤ 6) {w : Int} (hw : WBp G c w) :
    m__law_bounds [(gD G, .fz), (.int c, .fz)] = .ok (.tup (iL [(G.length : Int), spanV G, ((G.length : Int) + c - 1) / c, w, L G c [], ((G.length : Int) + ((c : Int) - 1) * spanV G) / c]), .fz) := by
  refine R.w_eq (runD_w (try_w ?_))
  simp (dsimp := false) [work_ok hG (by omega : G.length ≤ 100), span_ok hG (by omega : G.length ≤ 100), area_bound_ok hG (by omega : G.length ≤ 100) hc hc6]
  refine R.w_mono (window_bound_ok hG (by omega) hc hc6) ?_
  rintro _ ⟨w', rfl, hw'⟩
  have e := hw'.uniq hw
  subst e
  simp (dsimp := false) [least_ok hG hl hc hc6, step_bound_ok hG (by omega : G.length ≤ 100) hc hc6, mkTup_6]
  rfl
theorem law_true (ns : List Int) (h : ns.length ≤ 63) : m_law [(.lst (ns.map .int), .fz)] = .ok (.bl true, .fz) := by
  have sz := sizeLine_val
  refine R.w_eq (runD_w ?_)
  rw [← iL_eq]
  unfold b_law
  simp (dsimp := false) [pool_ok ns .fz (.inl rfl) h]
  refine call_w rfl ?_
  simp (dsimp := false)
  refine R.w_mono (graph_ok 0 7 3 ns 7 (by omega) (by omega) (by omega) (by omega)) ?_
  rintro _ ⟨G, a, b, c, rfl, g1, g2, ha, hc⟩
  simp (dsimp := false)
  refine call_w rfl ?_
  simp (dsimp := false)
  refine R.w_mono (draw_ok a b c ns 6 ha hc (by omega) (by omega) (by omega)) ?_
  rintro _ ⟨v, a, b, c, rfl, v1, v2, ha, hc⟩
  have hl9 : G.length ≤ 9 := by omega
  have hl100 : G.length ≤ 100 := by omega
  have hhl := hds_len G
  have hz : (hds G).length ≤ PySem.sizeLine := by omega
  have hadd : opAdd (.lst (iL [0]), .ow) (.lst (iL ((hds G).map fun a => a + 1)), .ow) = .ok (.lst (iL (0 :: (hds G).map fun a => a + 1)), .ow) := by
    rw [add_lst _ _ (by rw [iL_length, iL_length, List.length_map]; simp; omega), iL_append]
    rfl
  have hm := maxL_ok ((hds G).map fun a => a + 1) .ow
  have hsv : mx0 ((hds G).map fun a => a + 1) = spanV G := rfl
  have hr3 : rg1 (.int 3, .fz) = .ok (rangeL 0 1 3, .fz) := rg1_nat 3 .fz (by omega)
  simp (dsimp := false) [law_heads_ok g2 hl100, hz]
  refine w_lcI (fun _ => true) (fun a => .int (a + 1)) (fun a ha => ⟨_, rfl, by simp (dsimp := false)⟩) ?_
  rw [lc_all (hds G) fun a => a + 1]
  simp (dsimp := false) [hadd, hm, hsv, gLenG, hr3]
  refine w_rng (fun j ρ => ∃ (pl hd x7 x8 x9 x10 x11 x12 : Option DV), ρ = [some (.lst (iL ns), .fz), pl, some (gD G, .fz), some (.int (1 + v), .fz), some (.int (spanV G), .fz), hd, some (.int G.length, .fz), x7, x8, x9, x10, x11, x12]) ⟨_, _, _, _, _, _, _, _, rfl⟩ (fun j ρ hj hI => ?_) ?_
  · obtain ⟨pl, hd, x7, x8, x9, x10, x11, x12, rfl⟩ := hI
    have hmul : opMul (.int 2, .fz) (.int (j : Int), .fz) = .ok (.int (2 * j), .fz) := mul_small _ _ (.inl (by decide))
    have hmod := imod (i := 1 + v + 2 * (j : Int)) (j := 6) .fz .fz (by omega)
    obtain ⟨cc, hcc, hc1, hc6⟩ : ∃ cc : Nat, 1 + (1 + v + 2 * (j : Int)) % 6 = cc ∧ 1 ≤ cc ∧ cc ≤ 6 := ⟨(1 + (1 + v + 2 * (j : Int)) % 6).toNat, by omega, by omega, by omega⟩
    have hll := law_least_ok g2 hl9 (c := cc) hc1 hc6
    have hup := law_up_ok (G.length : Int) (c := cc) hc1 hc6
    have hm2 : opMul (.int ((cc : Int) - 1), .fz) (.int (spanV G), .fz) = .ok (.int (((cc : Int) - 1) * spanV G), .fz) := mul_small _ _ (.inl (by omega))
    have hd2 := idiv (i := (G.length : Int) + ((cc : Int) - 1) * spanV G) (j := cc) .fz .fz (by omega) (by omega)
    refine ⟨_, rfl, ?_⟩
    unfold b_law_L1
    simp (dsimp := false) [hmul, hmod, hcc, hll]
    refine R.w_mono (law_window_bound_ok g2 hl100 hc1 hc6) ?_
    rintro _ ⟨w, rfl, hw⟩
    have i1 : ¬ w < (if ((G.length : Int) + cc - 1) / cc < spanV G then spanV G else ((G.length : Int) + cc - 1) / cc) := by
      have := hw.area g2 hc1
      have := hw.span g2 hc1
      split <;> omega
    have i1' : (if ((G.length : Int) + cc - 1) / cc < spanV G then spanV G else ((G.length : Int) + cc - 1) / cc) ≤ w := by omega
    have i2 := hw.le_L g2 hc1
    have i3 := L_top g2 (c := cc) hc1
    have hb := bounds_ok g2 hl9 hc1 hc6 hw
    have hsame : m__law_same [(.tup (iL [(G.length : Int), spanV G, ((G.length : Int) + cc - 1) / cc, w, L G cc [], ((G.length : Int) + ((cc : Int) - 1) * spanV G) / cc]), .fz), (.tup (iL [(G.length : Int), spanV G, ((G.length : Int) + cc - 1) / cc, w, L G cc [], ((G.length : Int) + ((cc : Int) - 1) * spanV G) / cc]), .fz)] = .ok (.bl true, .fz) := same_self 11 _ (pt_row 10 _ (by simp))
    have etup : D.tup (D.int (G.length : Int) :: D.int (spanV G) :: D.int (((G.length : Int) + cc - 1) / cc) :: D.int w :: D.int (L G cc []) :: iL [((G.length : Int) + ((cc : Int) - 1) * spanV G) / cc]) = .tup (iL [(G.length : Int), spanV G, ((G.length : Int) + cc - 1) / cc, w, L G cc [], ((G.length : Int) + ((cc : Int) - 1) * spanV G) / cc]) := rfl
    simp (dsimp := false) [hup, hm2, hd2, i1', i2, i3]
    have fz : frzS 12 (frzS 9 (frzS 10 (frzS 11 (frzS 4 (frzS 6 [some (.lst (iL ns), .fz), pl, some (gD G, Kd.fz), some (.int (1 + v), .fz), some (.int (spanV G), .fz), hd, some (.int G.length, .fz), some (.int j, .fz), some (.int cc, .fz), some (.int (L G cc []), .fz), some (.int w, .fz), some (.int (((G.length : Int) + cc - 1) / cc), .fz), some (.int (((G.length : Int) + ((cc : Int) - 1) * spanV G) / cc), .fz)]))))) = [some (.lst (iL ns), .fz), pl, some (gD G, Kd.fz), some (.int (1 + v), .fz), some (.int (spanV G), .fz), hd, some (.int G.length, .fz), some (.int j, .fz), some (.int cc, .fz), some (.int (L G cc []), .fz), some (.int w, .fz), some (.int (((G.length : Int) + cc - 1) / cc), .fz), some (.int (((G.length : Int) + ((cc : Int) - 1) * spanV G) / cc), .fz)] := rfl
    rw [fz]
    simp (dsimp := false) [hb, mkTup_6]
    rw [etup, hsame]
    simp (dsimp := false)
    first
      | done
      | exact ⟨_, _, _, _, _, _, _, _, rfl⟩
  · rintro _ ⟨pl, hd, x7, x8, x9, x10, x11, x12, rfl⟩
    simp (dsimp := false)
end K52
open PySem PySem.W PyProof.Rows
set_option maxHeartbeats 0 in
theorem PySem.Challenge.cw_forkspan_k52_area_windows_and_span_holds : PySem.Challenge.rw_forkspan_k52_area_windows_and_span.Holds := by
  w_on; o_law; k_head; (case hw => w_witness2)
  k_fill
  refine FK.walk_fk (l := PySem.Challenge.rw_forkspan_k52_area_windows_and_span) (n := 63) (k := 13) (x := "_law_script") (m := K52.m_law) rfl (by decide) rfl ⟨rfl, by decide, by decide⟩ (fun w h Y => PySem.W.kIn_of Y) ?F K52.law_true
  case F =>
    intro w mg fa h KX G hmg
    refine' K52.all_mk KX G hmg ?a1 ?l1 ?c1 ?k1 ?a2 ?l2 ?c2 ?k2 ?a3 ?l3 ?c3 ?k3 ?a4 ?l4 ?c4 ?k4 ?a5 ?l5 ?c5 ?k5 ?a6 ?l6 ?c6 ?k6 ?a7 ?l7 ?c7 ?k7 ?a8 ?l8 ?c8 ?k8 ?a9 ?l9 ?c9 ?k9 ?a10 ?l10 ?c10 ?k10 ?a11 ?l11 ?c11 ?k11 ?a12 ?l12 ?c12 ?k12 ?a13 ?l13 ?c13 ?k13 ?a14 ?l14 ?c14 ?k14 ?a15 ?l15 ?c15 ?k15 ?a16 ?l16 ?c16 ?k16 ?a17 ?l17 ?c17 ?k17 ?a18 ?l18 ?c18 ?k18 ?a19 ?l19 ?c19 ?k19 ?a20 ?l20 ?c20 ?k20 ?a21 ?l21 ?c21 ?k21 ?a22 ?l22 ?c22 ?k22 ?a23 ?l23 ?c23 ?k23 ?a24 ?l24 ?c24 ?k24 ?a25 ?l25 ?c25 ?k25 ?a26 ?l26 ?c26 ?k26 ?a27 ?l27 ?c27 ?k27 ?a28 ?l28 ?c28 ?k28 ?a29 ?l29 ?c29 ?k29 ?a30 ?l30 ?c30 ?k30 ?a31 ?l31 ?c31 ?k31 ?a32 ?l32 ?c32 ?k32 ?a33 ?l33 ?c33 ?k33 ?a34 ?l34 ?c34 ?k34 ?a35 ?l35 ?c35 ?k35 ?a36 ?l36 ?c36 ?k36 ?a37 ?l37 ?c37 ?k37 ?aC_InvalidGraph ?ga_InvalidGraph ?gg_InvalidGraph ?eC_InvalidGraph ?hC_InvalidGraph ?tC_InvalidGraph ?n0_InvalidGraph ?xL_InvalidGraph ?rv_InvalidGraph ?sa_InvalidGraph ?kC_InvalidGraph ?iC_InvalidGraph ?tI_InvalidGraph ?lI_InvalidGraph ?cI_InvalidGraph ?kI_InvalidGraph ?aC_SpanError ?ga_SpanError ?gg_SpanError ?eC_SpanError ?hC_SpanError ?tC_SpanError ?ic_SpanError ?x_InvalidGraph_SpanError ?z_list ?z_len ?z_int ?z_abs ?z_range ?z_tuple ?z_min ?z_sorted ?z_max ?z_reversed ?z_isinstance ?z_bool ?z_str ?z_all ?z_enumerate ?z_zip
    (case a1 => k_is); (case l1 => k_is); (case c1 => k_is); (case k1 => k_is); (case a2 => k_is); (case l2 => k_is); (case c2 => k_is); (case k2 => k_is); (case a3 => k_is); (case l3 => k_is); (case c3 => k_is); (case k3 => k_is); (case a4 => k_is); (case l4 => k_is); (case c4 => k_is); (case k4 => k_is); (case a5 => k_is); (case l5 => k_is); (case c5 => k_is); (case k5 => k_is); (case a6 => k_is); (case l6 => k_is); (case c6 => k_is); (case k6 => k_is); (case a7 => k_is); (case l7 => k_is); (case c7 => k_is); (case k7 => k_is); (case a8 => k_is); (case l8 => k_is); (case c8 => k_is); (case k8 => k_is); (case a9 => k_is); (case l9 => k_is); (case c9 => k_is); (case k9 => k_is); (case a10 => k_is); (case l10 => k_is); (case c10 => k_is); (case k10 => k_is); (case a11 => k_is); (case l11 => k_is); (case c11 => k_is); (case k11 => k_is); (case a12 => k_is); (case l12 => k_is); (case c12 => k_is); (case k12 => k_is); (case a13 => k_is); (case l13 => k_is); (case c13 => k_is); (case k13 => k_is); (case a14 => k_is); (case l14 => k_is); (case c14 => k_is); (case k14 => k_is); (case a15 => k_is); (case l15 => k_is); (case c15 => k_is); (case k15 => k_is); (case a16 => k_is); (case l16 => k_is); (case c16 => k_is); (case k16 => k_is); (case a17 => k_is); (case l17 => k_is); (case c17 => k_is); (case k17 => k_is); (case a18 => k_is); (case l18 => k_is); (case c18 => k_is); (case k18 => k_is); (case a19 => k_is); (case l19 => k_is); (case c19 => k_is); (case k19 => k_is); (case a20 => k_is); (case l20 => k_is); (case c20 => k_is); (case k20 => k_is); (case a21 => k_is); (case l21 => k_is); (case c21 => k_is); (case k21 => k_is); (case a22 => k_is); (case l22 => k_is); (case c22 => k_is); (case k22 => k_is); (case a23 => k_is); (case l23 => k_is); (case c23 => k_is); (case k23 => k_is); (case a24 => k_is); (case l24 => k_is); (case c24 => k_is); (case k24 => k_is); (case a25 => k_is); (case l25 => k_is); (case c25 => k_is); (case k25 => k_is); (case a26 => k_is); (case l26 => k_is); (case c26 => k_is); (case k26 => k_is); (case a27 => k_is); (case l27 => k_is); (case c27 => k_is); (case k27 => k_is); (case a28 => k_is); (case l28 => k_is); (case c28 => k_is); (case k28 => k_is); (case a29 => k_is); (case l29 => k_is); (case c29 => k_is); (case k29 => k_is); (case a30 => k_is); (case l30 => k_is); (case c30 => k_is); (case k30 => k_is); (case a31 => k_is); (case l31 => k_is); (case c31 => k_is); (case k31 => k_is); (case a32 => k_is); (case l32 => k_is); (case c32 => k_is); (case k32 => k_is); (case a33 => k_is); (case l33 => k_is); (case c33 => k_is); (case k33 => k_is); (case a34 => k_is); (case l34 => k_is); (case c34 => k_is); (case k34 => k_is); (case a35 => k_is); (case l35 => k_is); (case c35 => k_is); (case k35 => k_is); (case a36 => k_is); (case l36 => k_is); (case c36 => k_is); (case k36 => k_is); (case a37 => k_is); (case l37 => k_is); (case c37 => k_is); (case k37 => k_is); (case aC_InvalidGraph => k_is); (case ga_InvalidGraph => k_is); (case gg_InvalidGraph => k_is); (case eC_InvalidGraph => k_is); (case hC_InvalidGraph => k_is); (case tC_InvalidGraph => k_is); (case n0_InvalidGraph => k_is); (case xL_InvalidGraph => k_is); (case rv_InvalidGraph => decide +kernel); (case sa_InvalidGraph => k_is); (case kC_InvalidGraph => k_is); (case iC_InvalidGraph => k_is); (case tI_InvalidGraph => k_is); (case lI_InvalidGraph => k_is); (case cI_InvalidGraph => k_is); (case kI_InvalidGraph => k_is); (case aC_SpanError => k_is); (case ga_SpanError => k_is); (case gg_SpanError => k_is); (case eC_SpanError => k_is); (case hC_SpanError => k_is); (case tC_SpanError => k_is); (case ic_SpanError => k_is); (case x_InvalidGraph_SpanError => k_is); (case z_list => k_is); (case z_len => k_is); (case z_int => k_is); (case z_abs => k_is); (case z_range => k_is); (case z_tuple => k_is); (case z_min => k_is); (case z_sorted => k_is); (case z_max => k_is); (case z_reversed => k_is); (case z_isinstance => k_is); (case z_bool => k_is); (case z_str => k_is); (case z_all => k_is); (case z_enumerate => k_is); (case z_zip => k_is)
