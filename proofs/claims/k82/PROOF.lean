import PyProof.Rows.All
import Wide.All
import OpenK.AllK
import Wide.FinOn
import HandS.ForMost
import HandS.ForExc
import HandS.Flow
import HandS.RaiseOp
import KE.KDictKeyed
import KE.KeyNested
import HandS.TupAny
import HandS.SortInts
import HandS.WrittenGet
import HandS.Conv
import HandS.More
import HandS.WordsDict
import HandS.SetFor
import HandS.IsInst
import PySem.Challenge.RW_neverlifted_k82_whole_alike_evenings_for
set_option Elab.async false
set_option linter.all false
set_option maxRecDepth 100000
/-! DL: values without a heap. -/
namespace DL
open PySem PySem.Spec PyProof.Rows L2

/-- deep Python data -/
inductive D where
  | non | bl (b : Bool) | int (i : Int) | str (x : Str) | fn (a : Addr)
  | tup (xs : List D) | lst (xs : List D) | ro (xs : List D) | dct (kvs : List (NestedKey × D)) | ins (C : Addr) (fs : List (Str × D))

/-- how a value is held: f shared (never written); o a list or dict of one's own; ob an instance of one's own -/
inductive Sh where
  | f | o (s : Sh) | ob (ss : List Sh)
abbrev SD := Sh × D
abbrev Env := List (Bool × Option SD)

abbrev Ext (A B : Hp) : Prop := ∀ a u, A a = some u → B a = some u
theorem Ext.rfl {A : Hp} : Ext A A := fun _ _ h => h
theorem Ext.trans {A B C : Hp} (h : Ext A B) (k : Ext B C) : Ext A C := fun a u e => k a u (h a u e)
theorem Ext.upd {A : Hp} {p : Addr} {o : HO} (h : A p = none) : Ext A (upd A p o) := fun a u e => by
  rw [upd_ne]; exact e
  intro z; subst z; rw [h] at e; cases e

def isD : HO → Bool
  | .dK _ => true
  | .dT _ => true
  | .ext _ => true
  | _ => false
/-- what is shared stands as it is (a dict may be locked) -/
def Fz (Hf H : Hp) : Prop := ∀ a u, Hf a = some u → H a = some u ∨ (isD u = true ∧ ∃ o, H a = some (.frz o u))
theorem Fz.at {Hf H : Hp} {a : Addr} {u : HO} (z : Fz Hf H) (e : Hf a = some u) (n : isD u = false) : H a = some u := by
  rcases z a u e with q | ⟨q, _⟩
  · exact q
  · rw [n] at q; cases q
theorem Fz.rd {Hf H : Hp} {a : Addr} {u : HO} (z : Fz Hf H) (e : Hf a = some u) : Rd H a u := by
  rcases z a u e with q | ⟨_, o, q⟩
  · exact .inl q
  · exact .inr ⟨o, q⟩
theorem Fz.some {Hf H : Hp} {a : Addr} {u : HO} (z : Fz Hf H) (e : Hf a = some u) : H a ≠ none := by
  rcases z a u e with q | ⟨_, o, q⟩ <;> rw [q] <;> exact fun h => nomatch h

/-- an object of a dict with tuples for keys -/
def objO (a : Addr) (ob : Obj) : HO := .ext fun h => h.get? a = Option.some ob

mutual
/-- the shared value v is the data d -/
inductive Rep (K : PySem.W.Frag) (Hf : Hp) : V → D → Prop
  | non : Rep K Hf .non .non
  | bl (b) : Rep K Hf (.bl b) (.bl b)
  | int (i) : Rep K Hf (.int i) (.int i)
  | str (x) : Rep K Hf (.str x) (.str x)
  | fn (a) : Rep K Hf (.ref a) (.fn a)
  | tup {a vs ds} : SqT K Hf a vs → Reps K Hf vs ds → Rep K Hf (.ref a) (.tup ds)
  | lst {a vs ds} : Hf a = some (.lst vs) → Reps K Hf vs ds → Rep K Hf (.ref a) (.lst ds)
  | ro {a vs ds} : SqL K Hf a vs → Reps K Hf vs ds → Rep K Hf (.ref a) (.ro ds)
  | dk {a kvs ds} : Hf a = some (.dK kvs) → RepK K Hf kvs ds → Rep K Hf (.ref a) (.dct ds)
  | ins {a C dx fs ds} : Hf a = some (.ins C dx fs) → RepF K Hf fs ds → Rep K Hf (.ref a) (.ins C ds)
inductive Reps (K : PySem.W.Frag) (Hf : Hp) : List V → List D → Prop
  | nil : Reps K Hf [] []
  | cons {v d vs ds} : Rep K Hf v d → Reps K Hf vs ds → Reps K Hf (v :: vs) (d :: ds)
inductive RepK (K : PySem.W.Frag) (Hf : Hp) : List (Key × V) → List (NestedKey × D) → Prop
  | nil : RepK K Hf [] []
  | num {i v d r s} : Rep K Hf v d → RepK K Hf r s → RepK K Hf ((.inl i, v) :: r) ((.num i, d) :: s)
  | text {x v d r s} : Rep K Hf v d → RepK K Hf r s → RepK K Hf ((.inr x, v) :: r) ((.text x, d) :: s)
inductive RepF (K : PySem.W.Frag) (Hf : Hp) : List (Str × V) → List (Str × D) → Prop
  | nil : RepF K Hf [] []
  | cons {f v d r s} : Rep K Hf v d → RepF K Hf r s → RepF K Hf ((f, v) :: r) ((f, d) :: s)
end

theorem SqL.ext {K : PySem.W.Frag} {A B : Hp} {a : Addr} {vs : List V} (e : Ext A B) (h : SqL K A a vs) : SqL K B a vs := by
  rcases h with h | h
  · rcases h with h | ⟨o, h⟩
    · exact .inl (.inl (e _ _ h))
    · exact .inl (.inr ⟨o, e _ _ h⟩)
  · exact .inr h
theorem SqT.ext {K : PySem.W.Frag} {A B : Hp} {a : Addr} {vs : List V} (e : Ext A B) (h : SqT K A a vs) : SqT K B a vs := by
  rcases h with h | h
  · rcases h with h | ⟨o, h⟩
    · exact .inl (.inl (e _ _ h))
    · exact .inl (.inr ⟨o, e _ _ h⟩)
  · exact .inr h
theorem SqL.fz {K : PySem.W.Frag} {A B : Hp} {a : Addr} {vs : List V} (e : Fz A B) (h : SqL K A a vs) : SqL K B a vs := by
  rcases h with h | h
  · rcases h with h | ⟨o, h⟩
    · exact .inl (.inl (e.at h _root_.rfl))
    · exact .inl (.inr ⟨o, e.at h _root_.rfl⟩)
  · exact .inr h
theorem SqT.fz {K : PySem.W.Frag} {A B : Hp} {a : Addr} {vs : List V} (e : Fz A B) (h : SqT K A a vs) : SqT K B a vs := by
  rcases h with h | h
  · rcases h with h | ⟨o, h⟩
    · exact .inl (.inl (e.at h _root_.rfl))
    · exact .inl (.inr ⟨o, e.at h _root_.rfl⟩)
  · exact .inr h

mutual
theorem Rep.ext {K : PySem.W.Frag} {A B : Hp} (e : Ext A B) {v : V} {d : D} : Rep K A v d → Rep K B v d
  | .non => .non
  | .bl b => .bl b
  | .int i => .int i
  | .str x => .str x
  | .fn a => .fn a
  | .tup h r => .tup (SqT.ext e h) (Reps.ext e r)
  | .lst h r => .lst (e _ _ h) (Reps.ext e r)
  | .ro h r => .ro (SqL.ext e h) (Reps.ext e r)
  | .dk h r => .dk (e _ _ h) (RepK.ext e r)
  | .ins h r => .ins (e _ _ h) (RepF.ext e r)
theorem Reps.ext {K : PySem.W.Frag} {A B : Hp} (e : Ext A B) {vs : List V} {ds : List D} : Reps K A vs ds → Reps K B vs ds
  | .nil => .nil
  | .cons h r => .cons (Rep.ext e h) (Reps.ext e r)
theorem RepK.ext {K : PySem.W.Frag} {A B : Hp} (e : Ext A B) {vs : List (Key × V)} {ds : List (NestedKey × D)} : RepK K A vs ds → RepK K B vs ds
  | .nil => .nil
  | .num h r => .num (Rep.ext e h) (RepK.ext e r)
  | .text h r => .text (Rep.ext e h) (RepK.ext e r)
theorem RepF.ext {K : PySem.W.Frag} {A B : Hp} (e : Ext A B) {vs : List (Str × V)} {ds : List (Str × D)} : RepF K A vs ds → RepF K B vs ds
  | .nil => .nil
  | .cons h r => .cons (Rep.ext e h) (RepF.ext e r)
end
end DL
set_option Elab.async false
set_option linter.all false
set_option maxRecDepth 100000
namespace DL
open PySem PySem.Spec PyProof.Rows L2

mutual
/-- the value v is the data d, held as s; fp: the objects that are its own -/
inductive RepS (K : PySem.W.Frag) (Hf H : Hp) : Sh → V → D → List Addr → Prop
  | f {v d} : Rep K Hf v d → RepS K Hf H .f v d []
  | lst {a vs s ds fp} : H a = some (.lst vs) → RepSs K Hf H s vs ds fp → RepS K Hf H (.o s) (.ref a) (.lst ds) (a :: fp)
  | dk {a kvs s ds fp} : H a = some (.dK kvs) → RepSk K Hf H s kvs ds fp → RepS K Hf H (.o s) (.ref a) (.dct ds) (a :: fp)
  | ins {a C dx fs ss ds fp} : H a = some (.ins C dx fs) → RepSf K Hf H ss fs ds fp → RepS K Hf H (.ob ss) (.ref a) (.ins C ds) (a :: fp)
inductive RepSs (K : PySem.W.Frag) (Hf H : Hp) : Sh → List V → List D → List Addr → Prop
  | nil {s} : RepSs K Hf H s [] [] []
  | cons {s v d vs ds f1 f2} : RepS K Hf H s v d f1 → RepSs K Hf H s vs ds f2 → RepSs K Hf H s (v :: vs) (d :: ds) (f1 ++ f2)
inductive RepSk (K : PySem.W.Frag) (Hf H : Hp) : Sh → List (Key × V) → List (NestedKey × D) → List Addr → Prop
  | nil {s} : RepSk K Hf H s [] [] []
  | num {s i v d r t f1 f2} : RepS K Hf H s v d f1 → RepSk K Hf H s r t f2 → RepSk K Hf H s ((.inl i, v) :: r) ((.num i, d) :: t) (f1 ++ f2)
  | text {s x v d r t f1 f2} : RepS K Hf H s v d f1 → RepSk K Hf H s r t f2 → RepSk K Hf H s ((.inr x, v) :: r) ((.text x, d) :: t) (f1 ++ f2)
inductive RepSf (K : PySem.W.Frag) (Hf H : Hp) : List Sh → List (Str × V) → List (Str × D) → List Addr → Prop
  | nil {ss} : RepSf K Hf H ss [] [] []
  | cons {s ss f v d r t f1 f2} : RepS K Hf H s v d f1 → RepSf K Hf H ss r t f2 → RepSf K Hf H (s :: ss) ((f, v) :: r) ((f, d) :: t) (f1 ++ f2)
  | flat {f v d r t f2} : Rep K Hf v d → RepSf K Hf H [] r t f2 → RepSf K Hf H [] ((f, v) :: r) ((f, d) :: t) f2
end

/-- the same under another heap that agrees at fp, with more shared -/
abbrev Agree (fp : List Addr) (H H' : Hp) : Prop := ∀ a, a ∈ fp → H' a = H a
theorem Agree.l {f1 f2 : List Addr} {H H' : Hp} (h : Agree (f1 ++ f2) H H') : Agree f1 H H' := fun a m => h a (List.mem_append_left _ m)
theorem Agree.r {f1 f2 : List Addr} {H H' : Hp} (h : Agree (f1 ++ f2) H H') : Agree f2 H H' := fun a m => h a (List.mem_append_right _ m)
theorem Agree.t {a : Addr} {f : List Addr} {H H' : Hp} (h : Agree (a :: f) H H') : Agree f H H' := fun b m => h b (List.mem_cons_of_mem _ m)
mutual
theorem RepS.to {K : PySem.W.Frag} {A B H H' : Hp} (e : Ext A B) {s : Sh} {v : V} {d : D} {fp : List Addr} : RepS K A H s v d fp → Agree fp H H' → RepS K B H' s v d fp
  | .f h, _ => .f (h.ext e)
  | .lst h r, g => .lst ((g _ List.mem_cons_self).trans h) (RepSs.to e r g.t)
  | .dk h r, g => .dk ((g _ List.mem_cons_self).trans h) (RepSk.to e r g.t)
  | .ins h r, g => .ins ((g _ List.mem_cons_self).trans h) (RepSf.to e r g.t)
theorem RepSs.to {K : PySem.W.Frag} {A B H H' : Hp} (e : Ext A B) {s : Sh} {v : List V} {d : List D} {fp : List Addr} : RepSs K A H s v d fp → Agree fp H H' → RepSs K B H' s v d fp
  | .nil, _ => .nil
  | .cons h r, g => .cons (RepS.to e h g.l) (RepSs.to e r g.r)
theorem RepSk.to {K : PySem.W.Frag} {A B H H' : Hp} (e : Ext A B) {s : Sh} {v : List (Key × V)} {d : List (NestedKey × D)} {fp : List Addr} : RepSk K A H s v d fp → Agree fp H H' → RepSk K B H' s v d fp
  | .nil, _ => .nil
  | .num h r, g => .num (RepS.to e h g.l) (RepSk.to e r g.r)
  | .text h r, g => .text (RepS.to e h g.l) (RepSk.to e r g.r)
theorem RepSf.to {K : PySem.W.Frag} {A B H H' : Hp} (e : Ext A B) {s : List Sh} {v : List (Str × V)} {d : List (Str × D)} {fp : List Addr} : RepSf K A H s v d fp → Agree fp H H' → RepSf K B H' s v d fp
  | .nil, _ => .nil
  | .cons h r, g => .cons (RepS.to e h g.l) (RepSf.to e r g.r)
  | .flat h r, g => .flat (h.ext e) (RepSf.to e r g)
end
mutual
theorem RepS.there {K : PySem.W.Frag} {A H : Hp} {s : Sh} {v : V} {d : D} {fp : List Addr} : RepS K A H s v d fp → ∀ a, a ∈ fp → H a ≠ none
  | .f _ => fun _ m => nomatch m
  | .lst h r => fun a m => by
    rcases List.mem_cons.mp m with e | m
    · rw [e, h]; exact fun q => nomatch q
    · exact RepSs.there r a m
  | .dk h r => fun a m => by
    rcases List.mem_cons.mp m with e | m
    · rw [e, h]; exact fun q => nomatch q
    · exact RepSk.there r a m
  | .ins h r => fun a m => by
    rcases List.mem_cons.mp m with e | m
    · rw [e, h]; exact fun q => nomatch q
    · exact RepSf.there r a m
theorem RepSs.there {K : PySem.W.Frag} {A H : Hp} {s : Sh} {v : List V} {d : List D} {fp : List Addr} : RepSs K A H s v d fp → ∀ a, a ∈ fp → H a ≠ none
  | .nil => fun _ m => nomatch m
  | .cons h r => fun a m => (List.mem_append.mp m).elim (RepS.there h a) (RepSs.there r a)
theorem RepSk.there {K : PySem.W.Frag} {A H : Hp} {s : Sh} {v : List (Key × V)} {d : List (NestedKey × D)} {fp : List Addr} : RepSk K A H s v d fp → ∀ a, a ∈ fp → H a ≠ none
  | .nil => fun _ m => nomatch m
  | .num h r => fun a m => (List.mem_append.mp m).elim (RepS.there h a) (RepSk.there r a)
  | .text h r => fun a m => (List.mem_append.mp m).elim (RepS.there h a) (RepSk.there r a)
theorem RepSf.there {K : PySem.W.Frag} {A H : Hp} {s : List Sh} {v : List (Str × V)} {d : List (Str × D)} {fp : List Addr} : RepSf K A H s v d fp → ∀ a, a ∈ fp → H a ≠ none
  | .nil => fun _ m => nomatch m
  | .cons h r => fun a m => (List.mem_append.mp m).elim (RepS.there h a) (RepSf.there r a)
  | .flat _ r => RepSf.there r
end

/-- what is owned becomes shared -/
def frzH (A H : Hp) (fp : List Addr) : Hp := fun a => if a ∈ fp then H a else A a
theorem frzH_ext {A H : Hp} {fp : List Addr} (n : ∀ a, a ∈ fp → A a = none) : Ext A (frzH A H fp) := fun a u e => by
  unfold frzH
  by_cases m : a ∈ fp
  · rw [n a m] at e; cases e
  · rw [if_neg m]; exact e
theorem frzH_in {A H : Hp} {fp : List Addr} {a : Addr} (m : a ∈ fp) : frzH A H fp a = H a := by unfold frzH; rw [if_pos m]
theorem frzH_out {A H : Hp} {fp : List Addr} {a : Addr} (m : a ∉ fp) : frzH A H fp a = A a := by unfold frzH; rw [if_neg m]
abbrev Takes (fp : List Addr) (B H : Hp) : Prop := ∀ a, a ∈ fp → B a = H a
theorem Takes.l {f1 f2 : List Addr} {H B : Hp} (h : Takes (f1 ++ f2) B H) : Takes f1 B H := fun a m => h a (List.mem_append_left _ m)
theorem Takes.r {f1 f2 : List Addr} {H B : Hp} (h : Takes (f1 ++ f2) B H) : Takes f2 B H := fun a m => h a (List.mem_append_right _ m)
theorem Takes.t {a : Addr} {f : List Addr} {H B : Hp} (h : Takes (a :: f) B H) : Takes f B H := fun b m => h b (List.mem_cons_of_mem _ m)
mutual
theorem RepS.frz {K : PySem.W.Frag} {A B H : Hp} (e : Ext A B) {s : Sh} {v : V} {d : D} {fp : List Addr} : RepS K A H s v d fp → Takes fp B H → Rep K B v d
  | .f h, _ => h.ext e
  | .lst h r, g => .lst ((g _ List.mem_cons_self).trans h) (RepSs.frz e r g.t)
  | .dk h r, g => .dk ((g _ List.mem_cons_self).trans h) (RepSk.frz e r g.t)
  | .ins h r, g => .ins ((g _ List.mem_cons_self).trans h) (RepSf.frz e r g.t)
theorem RepSs.frz {K : PySem.W.Frag} {A B H : Hp} (e : Ext A B) {s : Sh} {v : List V} {d : List D} {fp : List Addr} : RepSs K A H s v d fp → Takes fp B H → Reps K B v d
  | .nil, _ => .nil
  | .cons h r, g => .cons (RepS.frz e h g.l) (RepSs.frz e r g.r)
theorem RepSk.frz {K : PySem.W.Frag} {A B H : Hp} (e : Ext A B) {s : Sh} {v : List (Key × V)} {d : List (NestedKey × D)} {fp : List Addr} : RepSk K A H s v d fp → Takes fp B H → RepK K B v d
  | .nil, _ => .nil
  | .num h r, g => .num (RepS.frz e h g.l) (RepSk.frz e r g.r)
  | .text h r, g => .text (RepS.frz e h g.l) (RepSk.frz e r g.r)
theorem RepSf.frz {K : PySem.W.Frag} {A B H : Hp} (e : Ext A B) {s : List Sh} {v : List (Str × V)} {d : List (Str × D)} {fp : List Addr} : RepSf K A H s v d fp → Takes fp B H → RepF K B v d
  | .nil, _ => .nil
  | .cons h r, g => .cons (RepS.frz e h g.l) (RepSf.frz e r g.r)
  | .flat h r, g => .cons (h.ext e) (RepSf.frz e r g)
end

/-! ### the slots -/
abbrev Slots := List (Option V)
inductive EnvR (K : PySem.W.Frag) (Hf H : Hp) : Env → Slots → List Addr → Prop
  | nil : EnvR K Hf H [] [] []
  | hole {b x e σ fp} : EnvR K Hf H e σ fp → EnvR K Hf H ((b, none) :: e) (x :: σ) fp
  | cons {b s d v e σ f1 f2} : RepS K Hf H s v d f1 → EnvR K Hf H e σ f2 → EnvR K Hf H ((b, some (s, d)) :: e) (some v :: σ) (f1 ++ f2)

theorem EnvR.to {K : PySem.W.Frag} {A B H H' : Hp} (e : Ext A B) {env : Env} {σ : Slots} {fp : List Addr} (r : EnvR K A H env σ fp) (g : Agree fp H H') : EnvR K B H' env σ fp := by
  induction r with
  | nil => exact .nil
  | hole _ ih => exact .hole (ih g)
  | cons h _ ih => exact .cons (h.to e g.l) (ih g.r)
theorem EnvR.there {K : PySem.W.Frag} {A H : Hp} {env : Env} {σ : Slots} {fp : List Addr} (r : EnvR K A H env σ fp) : ∀ a, a ∈ fp → H a ≠ none := by
  induction r with
  | nil => exact fun _ m => nomatch m
  | hole _ ih => exact ih
  | cons h _ ih => exact fun a m => (List.mem_append.mp m).elim (h.there a) (ih a)
theorem EnvR.len {K : PySem.W.Frag} {A H : Hp} {env : Env} {σ : Slots} {fp : List Addr} (r : EnvR K A H env σ fp) : env.length = σ.length := by
  induction r with
  | nil => rfl
  | hole _ ih => simp [ih]
  | cons h _ ih => simp [ih]
/-- a slot taken out -/
theorem EnvR.get {K : PySem.W.Frag} {A H : Hp} {env : Env} {σ : Slots} {fp : List Addr} (r : EnvR K A H env σ fp) : ∀ {i : Nat} {b : Bool} {s : Sh} {d : D}, env[i]? = some (b, some (s, d)) →
    ∃ v f1 fr, σ[i]? = some (some v) ∧ RepS K A H s v d f1 ∧ (∀ b', EnvR K A H (env.set i (b', none)) σ fr) ∧ fp.Perm (f1 ++ fr) := by
  induction r with
  | nil => intro i b s d e; simp at e
  | hole r ih =>
    intro i b s d e
    cases i with
    | zero => simp at e
    | succ i =>
      obtain ⟨v, f1, fr, h1, h2, h3, h4⟩ := ih (i := i) (by simpa using e)
      exact ⟨v, f1, fr, by simpa using h1, h2, fun b' => .hole (h3 b'), h4⟩
  | @cons b0 s0 d0 v0 e0 σ0 g1 g2 h r ih =>
    intro i b s d e
    cases i with
    | zero =>
      simp only [List.getElem?_cons_zero, Option.some.injEq, Prod.mk.injEq] at e
      obtain ⟨rfl, rfl, rfl⟩ := e
      exact ⟨v0, g1, g2, rfl, h, fun b' => .hole r, .refl _⟩
    | succ i =>
      obtain ⟨v, f1, fr, h1, h2, h3, h4⟩ := ih (i := i) (by simpa using e)
      refine ⟨v, f1, g1 ++ fr, by simpa using h1, h2, fun b' => .cons h (h3 b'), ?_⟩
      refine (List.Perm.append_left g1 h4).trans ?_
      rw [← List.append_assoc, ← List.append_assoc]
      exact List.Perm.append_right _ List.perm_append_comm
/-- a slot filled -/
theorem EnvR.put {K : PySem.W.Frag} {A H : Hp} {env : Env} {σ : Slots} {fr : List Addr} (r : EnvR K A H env σ fr) : ∀ {i : Nat} {b b' : Bool} {s : Sh} {d : D} {v : V} {f1 : List Addr}, env[i]? = some (b, none) → σ[i]? = some (some v) → RepS K A H s v d f1 →
    ∃ fp, EnvR K A H (env.set i (b', some (s, d))) σ fp ∧ fp.Perm (f1 ++ fr) := by
  induction r with
  | nil => intro i b b' s d v f1 e; simp at e
  | hole r ih =>
    intro i b b' s d v f1 e ev q
    cases i with
    | zero =>
      simp only [List.getElem?_cons_zero, Option.some.injEq] at ev
      subst ev
      exact ⟨_, .cons q r, .refl _⟩
    | succ i =>
      obtain ⟨fp, h1, h2⟩ := ih (i := i) (b' := b') (by simpa using e) (by simpa using ev) q
      exact ⟨fp, .hole h1, h2⟩
  | @cons b0 s0 d0 v0 e0 σ0 g1 g2 h r ih =>
    intro i b b' s d v f1 e ev q
    cases i with
    | zero => simp at e
    | succ i =>
      obtain ⟨fp, h1, h2⟩ := ih (i := i) (b' := b') (by simpa using e) (by simpa using ev) q
      refine ⟨g1 ++ fp, .cons h h1, ?_⟩
      refine (List.Perm.append_left g1 h2).trans ?_
      rw [← List.append_assoc, ← List.append_assoc]
      exact List.Perm.append_right _ List.perm_append_comm
/-- a slot assigned: what stood there is dropped -/
theorem EnvR.drop {K : PySem.W.Frag} {A H : Hp} {env : Env} {σ : Slots} {fp : List Addr} (r : EnvR K A H env σ fp) (i : Nat) (b : Bool) : ∃ fr, EnvR K A H (env.set i (b, none)) σ fr ∧ (∀ a, a ∈ fr → a ∈ fp) ∧ (fp.Nodup → fr.Nodup) := by
  cases e : env[i]? with
  | none =>
    rw [List.set_eq_of_length_le (by simpa using e)]
    exact ⟨fp, r, fun _ m => m, id⟩
  | some p =>
    obtain ⟨b0, o⟩ := p
    cases o with
    | none =>
      have : ∀ {env : Env} {σ : Slots} {fp : List Addr}, EnvR K A H env σ fp → ∀ {i : Nat} {b0 : Bool}, env[i]? = some (b0, none) → EnvR K A H (env.set i (b, none)) σ fp := by
        intro env σ fp r
        induction r with
        | nil => intro i b0 e; simp at e
        | hole r ih =>
          intro i b0 e
          cases i with
          | zero => exact .hole r
          | succ i => exact .hole (ih (by simpa using e))
        | cons h r ih =>
          intro i b0 e
          cases i with
          | zero => simp at e
          | succ i => exact .cons h (ih (by simpa using e))
      exact ⟨fp, this r e, fun _ m => m, id⟩
    | some sd =>
      obtain ⟨s, d⟩ := sd
      obtain ⟨v, f1, fr, _, _, h3, h4⟩ := r.get e
      refine ⟨fr, h3 b, fun a m => h4.mem_iff.mpr (List.mem_append_right _ m), fun n => ?_⟩
      exact (List.nodup_append.mp (h4.nodup_iff.mp n)).2.1
theorem EnvR.reslot {K : PySem.W.Frag} {A H : Hp} {env : Env} {σ : Slots} {fp : List Addr} (r : EnvR K A H env σ fp) : ∀ {i : Nat} {b : Bool} (x : Option V), env[i]? = some (b, none) → EnvR K A H env (σ.set i x) fp := by
  induction r with
  | nil => intro i b x e; simp at e
  | hole r ih =>
    intro i b x e
    cases i with
    | zero => exact .hole r
    | succ i => exact .hole (ih x (by simpa using e))
  | cons h r ih =>
    intro i b x e
    cases i with
    | zero => simp at e
    | succ i => exact .cons h (ih x (by simpa using e))
end DL
set_option Elab.async false
set_option linter.all false
set_option maxRecDepth 100000
namespace DL
open PySem PySem.Spec PyProof.Rows L2

/-- what stays fixed through a def's body: K0 what must be left as it stood, G the addresses that may be shared or owned here, pin the parameters that are given back -/
structure Ct where
  K0 : Hp
  G : Addr → Prop
  pin : Slots
structure Rel (K : PySem.W.Frag) (C : Ct) (Hf : Hp) (env : Env) (σ : Slots) (H : Hp) (fp : List Addr) : Prop where
  same : Ext C.K0 H
  fz : Fz Hf H
  gf : ∀ a, Hf a ≠ none → C.G a
  gn : ∀ a, H a = none → C.G a
  er : EnvR K Hf H env σ fp
  nd : fp.Nodup
  fr : ∀ a, a ∈ fp → C.K0 a = none ∧ Hf a = none ∧ C.G a
  pin : ∀ (j : Nat) (v : V), C.pin[j]? = some (some v) → σ[j]? = some (some v) ∧ ∃ x, env[j]? = some (true, x)
structure Apart (C : Ct) (Hf : Hp) (fv fp : List Addr) : Prop where
  nd : fv.Nodup
  fr : ∀ a, a ∈ fv → C.K0 a = none ∧ Hf a = none ∧ C.G a
  ap : ∀ a, a ∈ fv → a ∉ fp
theorem Apart.nil {C : Ct} {Hf : Hp} {fp : List Addr} : Apart C Hf [] fp := ⟨.nil, fun _ m => (nomatch m), fun _ m => (nomatch m)⟩

section
variable {K : PySem.W.Frag} {C : Ct} {Hf H : Hp} {env : Env} {σ : Slots} {fp fv : List Addr}
theorem Rel.tr (r : Rel K C Hf env σ H fp) : ∀ a, a ∈ fp → H a ≠ none := r.er.there
/-- a value becomes shared -/
theorem Rel.frz (r : Rel K C Hf env σ H fp) (ap : Apart C Hf fv fp) (th : ∀ a, a ∈ fv → H a ≠ none) : Rel K C (frzH Hf H fv) env σ H fp ∧ Ext Hf (frzH Hf H fv) := by
  have ex : Ext Hf (frzH Hf H fv) := frzH_ext fun a m => (ap.fr a m).2.1
  refine ⟨⟨r.same, fun a u e => ?_, fun a n => ?_, r.gn, r.er.to ex fun _ _ => rfl, r.nd, fun a m => ⟨(r.fr a m).1, ?_, (r.fr a m).2.2⟩, r.pin⟩, ex⟩
  · by_cases m : a ∈ fv
    · rw [frzH_in m] at e; exact .inl e
    · rw [frzH_out m] at e; exact r.fz a u e
  · by_cases m : a ∈ fv
    · exact (ap.fr a m).2.2
    · rw [frzH_out m] at n; exact r.gf a n
  · rw [frzH_out fun m' => ap.ap a m' m]; exact (r.fr a m).2.1
/-- a new object -/
theorem Rel.alloc {p : Addr} {o : HO} (r : Rel K C Hf env σ H fp) (hp : H p = none) : Rel K C Hf env σ (upd H p o) fp := by
  have np : ∀ a u, H a = some u → a ≠ p := fun a u e z => by subst z; rw [hp] at e; cases e
  refine ⟨r.same.trans (Ext.upd hp), fun a u e => ?_, r.gf, fun a n => ?_, r.er.to Ext.rfl fun a m => ?_, r.nd, r.fr, r.pin⟩
  · rcases r.fz a u e with q | ⟨q, ob, q'⟩
    · exact .inl (by rw [upd_ne (np _ _ q)]; exact q)
    · exact .inr ⟨q, ob, by rw [upd_ne (np _ _ q')]; exact q'⟩
  · by_cases z : a = p
    · subst z; exact r.gn _ hp
    · rw [upd_ne z] at n; exact r.gn a n
  · refine upd_ne fun z => ?_
    subst z
    exact r.tr _ m hp
theorem Rel.fresh {p : Addr} (r : Rel K C Hf env σ H fp) (hp : H p = none) : C.K0 p = none ∧ Hf p = none ∧ C.G p ∧ p ∉ fp := by
  refine ⟨?_, ?_, r.gn p hp, fun m => r.tr p m hp⟩
  · cases e : C.K0 p with
    | none => rfl
    | some u => have := r.same _ _ e; rw [hp] at this; cases this
  · cases e : Hf p with
    | none => rfl
    | some u => exact absurd hp (r.fz.some e)
theorem Rel.apart {p : Addr} (r : Rel K C Hf env σ H fp) (hp : H p = none) : Apart C Hf [p] fp := by
  obtain ⟨h1, h2, h3, h4⟩ := r.fresh hp
  exact ⟨by simp, fun a m => by rw [List.mem_singleton.mp m]; exact ⟨h1, h2, h3⟩, fun a m => by rw [List.mem_singleton.mp m]; exact h4⟩
/-- a new shared object -/
theorem Rel.allocF {p : Addr} {o : HO} (r : Rel K C Hf env σ H fp) (hp : H p = none) : Rel K C (upd Hf p o) env σ (upd H p o) fp ∧ Ext Hf (upd Hf p o) := by
  obtain ⟨h1, h2, h3, h4⟩ := r.fresh hp
  have r1 := r.alloc (o := o) hp
  have ex : Ext Hf (upd Hf p o) := Ext.upd h2
  refine ⟨⟨r1.same, fun a u e => ?_, fun a n => ?_, r1.gn, r1.er.to ex fun _ _ => rfl, r.nd, fun a m => ⟨(r.fr a m).1, ?_, (r.fr a m).2.2⟩, r.pin⟩, ex⟩
  · by_cases z : a = p
    · subst z; rw [upd_same] at e ⊢; exact .inl e
    · rw [upd_ne z] at e; exact r1.fz a u e
  · by_cases z : a = p
    · subst z; exact h3
    · rw [upd_ne z] at n; exact r.gf a n
  · rw [upd_ne fun z => h4 (by rw [← z]; exact m)]; exact (r.fr a m).2.1
end

/-! ### the transformers -/
abbrev TEd := Env → (SD → Env → Prop) → Prop
abbrev TTd := Env → (Bool → Env → Prop) → Prop
abbrev TAd := Env → (List SD → Env → Prop) → Prop
structure EndsD where
  nx : Env → Prop
  rt : SD → Env → Prop
  bk : Env → Prop := fun _ => False
  ct : Env → Prop := fun _ => False
abbrev TSd := EndsD → Env → Prop

abbrev Quiet (b : Bool) (H H' : Hp) : Prop := b = true → Ext H H'
theorem Quiet.trans {b1 b2 : Bool} {H H1 H2 : Hp} (h : Quiet b1 H H1) (k : Quiet b2 H1 H2) : Quiet (b1 && b2) H H2 := fun e => by
  rw [Bool.and_eq_true] at e
  exact (h e.1).trans (k e.2)

def Post (K : PySem.W.Frag) (b : Bool) (C : Ct) (Hf : Hp) (σ : Slots) (H : Hp) (Q : VK) (R : SD → Env → Prop) : Prop :=
  ∀ (sd : SD) (env : Env) (v : V) (H' Hf' : Hp) (fp fv : List Addr), Ext Hf Hf' → Quiet b H H' → Rel K C Hf' env σ H' fp → RepS K Hf' H' sd.1 v sd.2 fv → Apart C Hf' fv fp → R sd env → Q v H'
def LE (K : PySem.W.Frag) (b : Bool) (t : TEd) : TE := fun σ H Q => ∃ (C : Ct) (Hf : Hp) (env : Env) (fp : List Addr) (R : SD → Env → Prop), Rel K C Hf env σ H fp ∧ t env R ∧ Post K b C Hf σ H Q R
def PostT (K : PySem.W.Frag) (b : Bool) (C : Ct) (Hf : Hp) (σ : Slots) (H : Hp) (Q : Bool → Hp → Prop) (R : Bool → Env → Prop) : Prop :=
  ∀ (c : Bool) (env : Env) (H' Hf' : Hp) (fp : List Addr), Ext Hf Hf' → Quiet b H H' → Rel K C Hf' env σ H' fp → R c env → Q c H'
def LT (K : PySem.W.Frag) (b : Bool) (t : TTd) : TT := fun σ H Q => ∃ (C : Ct) (Hf : Hp) (env : Env) (fp : List Addr) (R : Bool → Env → Prop), Rel K C Hf env σ H fp ∧ t env R ∧ PostT K b C Hf σ H Q R
/-- arguments -/
inductive ArgsR (K : PySem.W.Frag) (Hf H : Hp) : List SD → List V → List Addr → Prop
  | nil : ArgsR K Hf H [] [] []
  | cons {s d v ds vs f1 f2} : RepS K Hf H s v d f1 → ArgsR K Hf H ds vs f2 → ArgsR K Hf H ((s, d) :: ds) (v :: vs) (f1 ++ f2)
def PostA (K : PySem.W.Frag) (b : Bool) (C : Ct) (Hf : Hp) (σ : Slots) (H : Hp) (Q : List V → Hp → Prop) (R : List SD → Env → Prop) : Prop :=
  ∀ (sds : List SD) (env : Env) (vs : List V) (H' Hf' : Hp) (fp : List Addr), Ext Hf Hf' → Quiet b H H' → Rel K C Hf' env σ H' fp → Reps K Hf' vs (sds.map (·.2)) → R sds env → Q vs H'
/-- arguments that become shared -/
def LA (K : PySem.W.Frag) (b : Bool) (t : TAd) : TA := fun σ H Q => ∃ (C : Ct) (Hf : Hp) (env : Env) (fp : List Addr) (R : List SD → Env → Prop), Rel K C Hf env σ H fp ∧ t env R ∧ PostA K b C Hf σ H Q R
structure PostS (K : PySem.W.Frag) (C : Ct) (Hf : Hp) (D : Ends) (Dd : EndsD) : Prop where
  nx : ∀ env σ H Hf' fp, Ext Hf Hf' → Rel K C Hf' env σ H fp → Dd.nx env → D.nx σ H
  rt : ∀ sd env σ H Hf' fp v fv, Ext Hf Hf' → Rel K C Hf' env σ H fp → RepS K Hf' H sd.1 v sd.2 fv → Apart C Hf' fv fp → Dd.rt sd env → D.rt v H
  bk : ∀ env σ H Hf' fp, Ext Hf Hf' → Rel K C Hf' env σ H fp → Dd.bk env → D.bk σ H
  ct : ∀ env σ H Hf' fp, Ext Hf Hf' → Rel K C Hf' env σ H fp → Dd.ct env → D.ct σ H
def LS (K : PySem.W.Frag) (t : TSd) : TS := fun D σ H => ∃ (C : Ct) (Hf : Hp) (env : Env) (fp : List Addr) (Dd : EndsD), Rel K C Hf env σ H fp ∧ t Dd env ∧ PostS K C Hf D Dd
theorem PostS.ext {K : PySem.W.Frag} {C : Ct} {Hf Hf1 : Hp} {D : Ends} {Dd : EndsD} (p : PostS K C Hf D Dd) (e : Ext Hf Hf1) : PostS K C Hf1 D Dd :=
  ⟨fun _ _ _ _ _ e' => p.nx _ _ _ _ _ (e.trans e'), fun _ _ _ _ _ _ _ _ e' => p.rt _ _ _ _ _ _ _ _ (e.trans e'), fun _ _ _ _ _ e' => p.bk _ _ _ _ _ (e.trans e'), fun _ _ _ _ _ e' => p.ct _ _ _ _ _ (e.trans e')⟩

/-- the judgements -/
structure PD (X : Cx) (e : Expr) (b : Bool) (t : TEd) : Prop where
  pe : PE X e (LE X.K b t)
structure PTd (X : Cx) (e : Expr) (b : Bool) (t : TTd) : Prop where
  pt : PT X e (LT X.K b t)
structure PAd (X : Cx) (es : List Expr) (b : Bool) (t : TAd) : Prop where
  pa : PA X es (LA X.K b t)
structure PSd (X : Cx) (s : Stmt) (t : TSd) : Prop where
  ps : PS X s (LS X.K t)
structure PSsd (X : Cx) (s : List Stmt) (t : TSd) : Prop where
  ps : PSs X s (LS X.K t)

theorem wkE {X : Cx} {e : Expr} {t t' : TE} (h : PE X e t) (w : ∀ σ H Q, t' σ H Q → t σ H Q) : PE X e t' := ⟨fun pins s σ H Q I q => h.run pins s σ H Q I (w σ H Q q)⟩
theorem wkT {X : Cx} {e : Expr} {t t' : TT} (h : PT X e t) (w : ∀ σ H Q, t' σ H Q → t σ H Q) : PT X e t' := ⟨fun pins s σ H Q I q => h.run pins s σ H Q I (w σ H Q q)⟩
theorem wkA {X : Cx} {e : List Expr} {t t' : TA} (h : PA X e t) (w : ∀ σ H Q, t' σ H Q → t σ H Q) : PA X e t' := ⟨fun pos pins s σ H Q I q => h.run pos pins s σ H Q I (w σ H Q q)⟩
theorem wkS {X : Cx} {e : Stmt} {t t' : TS} (h : PS X e t) (w : ∀ D σ H, t' D σ H → t D σ H) : PS X e t' := ⟨fun pins s σ H D I q => h.run pins s σ H D I (w D σ H q)⟩
theorem wkSs {X : Cx} {e : List Stmt} {t t' : TS} (h : PSs X e t) (w : ∀ D σ H, t' D σ H → t D σ H) : PSs X e t' := ⟨fun pins s σ H D I q => h.run pins s σ H D I (w D σ H q)⟩

section
variable {K : PySem.W.Frag} {C : Ct} {Hf H : Hp} {env : Env} {σ : Slots} {fp fv : List Addr} {b b1 b2 : Bool}
/-- it is enough to say it of shared values -/
theorem Post.of {Q : VK} {R : SD → Env → Prop} (h : ∀ (sd : SD) (env : Env) (v : V) (H' Hf' : Hp) (fp : List Addr), Ext Hf Hf' → Quiet b H H' → Rel K C Hf' env σ H' fp → Rep K Hf' v sd.2 → R sd env → Q v H') : Post K b C Hf σ H Q R :=
  fun sd env v H' Hf' fp fv e q r rs ap k => by
    obtain ⟨r1, e1⟩ := r.frz ap rs.there
    exact h sd env v H' _ fp (e.trans e1) q r1 (rs.frz e1 fun a m => frzH_in m) k
theorem PostT.mono {Hf1 H1 : Hp} {Q : Bool → Hp → Prop} {R : Bool → Env → Prop} (h : PostT K (b1 && b2) C Hf σ H Q R) (e : Ext Hf Hf1) (q : Quiet b1 H H1) : PostT K b2 C Hf1 σ H1 Q R :=
  fun c env H' Hf' fp e' q' => h c env H' Hf' fp (e.trans e') (q.trans q')
theorem Post.mono {Hf1 H1 : Hp} {Q : VK} {R : SD → Env → Prop} (h : Post K (b1 && b2) C Hf σ H Q R) (e : Ext Hf Hf1) (q : Quiet b1 H H1) : Post K b2 C Hf1 σ H1 Q R :=
  fun sd env v H' Hf' fp fv e' q' => h sd env v H' Hf' fp fv (e.trans e') (q.trans q')
theorem PostA.mono {Hf1 H1 : Hp} {Q : List V → Hp → Prop} {R : List SD → Env → Prop} (h : PostA K (b1 && b2) C Hf σ H Q R) (e : Ext Hf Hf1) (q : Quiet b1 H H1) : PostA K b2 C Hf1 σ H1 Q R :=
  fun sd env v H' Hf' fp e' q' => h sd env v H' Hf' fp (e.trans e') (q.trans q')
/-- two expressions, their values shared -/
theorem le_two {ta tb : TEd} {Q : V → V → Hp → Prop} {R : SD → SD → Env → Prop} (r : Rel K C Hf env σ H fp) (h : ta env fun x e1 => tb e1 fun y e2 => R x y e2)
    (k : ∀ (x y : SD) (env : Env) (v w : V) (H' Hf' : Hp) (fp : List Addr), Ext Hf Hf' → Quiet (b1 && b2) H H' → Rel K C Hf' env σ H' fp → Rep K Hf' v x.2 → Rep K Hf' w y.2 → R x y env → Q v w H') :
    LE K b1 ta σ H fun v H1 => LE K b2 tb σ H1 fun w H2 => Q v w H2 := by
  refine ⟨C, Hf, env, fp, _, r, h, Post.of fun x env1 v H1 Hf1 fp1 e1 q1 r1 p1 h1 => ?_⟩
  refine ⟨C, Hf1, env1, fp1, _, r1, h1, Post.of fun y env2 w H2 Hf2 fp2 e2 q2 r2 p2 h2 => ?_⟩
  exact k x y env2 v w H2 Hf2 fp2 (e1.trans e2) (q1.trans q2) r2 (p1.ext e2) p2 h2
theorem le_one {ta : TEd} {Q : V → Hp → Prop} {R : SD → Env → Prop} (r : Rel K C Hf env σ H fp) (h : ta env R)
    (k : ∀ (x : SD) (env : Env) (v : V) (H' Hf' : Hp) (fp : List Addr), Ext Hf Hf' → Quiet b H H' → Rel K C Hf' env σ H' fp → Rep K Hf' v x.2 → R x env → Q v H') :
    LE K b ta σ H Q := ⟨C, Hf, env, fp, _, r, h, Post.of k⟩
theorem la_of {ta : TAd} {Q : List V → Hp → Prop} {R : List SD → Env → Prop} (r : Rel K C Hf env σ H fp) (h : ta env R) (k : PostA K b C Hf σ H Q R) : LA K b ta σ H Q := ⟨C, Hf, env, fp, R, r, h, k⟩
end

/-! ### shapes of values -/
section
variable {K : PySem.W.Frag} {A H : Hp} {v : V}
theorem Rep.non_inv (h : Rep K A v .non) : v = .non := by cases h; rfl
theorem Rep.bl_inv {b : Bool} (h : Rep K A v (.bl b)) : v = .bl b := by cases h; rfl
theorem Rep.int_inv {i : Int} (h : Rep K A v (.int i)) : v = .int i := by cases h; rfl
theorem Rep.str_inv {x : Str} (h : Rep K A v (.str x)) : v = .str x := by cases h; rfl
theorem Rep.fn_inv {a : Addr} (h : Rep K A v (.fn a)) : v = .ref a := by cases h; rfl
theorem Rep.lst_inv {ds : List D} (h : Rep K A v (.lst ds)) : ∃ a vs, v = .ref a ∧ A a = some (.lst vs) ∧ Reps K A vs ds := by cases h with | lst h r => exact ⟨_, _, rfl, h, r⟩
theorem Rep.ro_inv {ds : List D} (h : Rep K A v (.ro ds)) : ∃ a vs, v = .ref a ∧ SqL K A a vs ∧ Reps K A vs ds := by cases h with | ro h r => exact ⟨_, _, rfl, h, r⟩
theorem Rep.tup_inv {ds : List D} (h : Rep K A v (.tup ds)) : ∃ a vs, v = .ref a ∧ SqT K A a vs ∧ Reps K A vs ds := by cases h with | tup h r => exact ⟨_, _, rfl, h, r⟩
theorem Rep.dct_inv {ds : List (NestedKey × D)} (h : Rep K A v (.dct ds)) : ∃ a kvs, v = .ref a ∧ A a = some (.dK kvs) ∧ RepK K A kvs ds := by cases h with | dk h r => exact ⟨_, _, rfl, h, r⟩
theorem Rep.ins_inv {C : Addr} {ds : List (Str × D)} (h : Rep K A v (.ins C ds)) : ∃ a dx fs, v = .ref a ∧ A a = some (.ins C dx fs) ∧ RepF K A fs ds := by cases h with | ins h r => exact ⟨_, _, _, rfl, h, r⟩
theorem Reps.len {vs : List V} {ds : List D} (h : Reps K A vs ds) : vs.length = ds.length := by
  induction vs generalizing ds with
  | nil => cases h; rfl
  | cons v vs ih => cases h with | cons h r => simp [ih r]
theorem Reps.get {vs : List V} {ds : List D} (h : Reps K A vs ds) : ∀ {i : Nat} {d : D}, ds[i]? = some d → ∃ v, vs[i]? = some v ∧ Rep K A v d := by
  induction vs generalizing ds with
  | nil => cases h; intro i d e; simp at e
  | cons v vs ih =>
    cases h with
    | cons h r =>
      intro i d e
      cases i with
      | zero => simp at e; subst e; exact ⟨v, rfl, h⟩
      | succ i =>
        obtain ⟨w, e1, q⟩ := ih r (i := i) (by simpa using e)
        exact ⟨w, by simpa using e1, q⟩
theorem Reps.getV {vs : List V} {ds : List D} (h : Reps K A vs ds) : ∀ {i : Nat} {v : V}, vs[i]? = some v → ∃ d, ds[i]? = some d ∧ Rep K A v d := by
  induction vs generalizing ds with
  | nil => intro i d e; simp at e
  | cons v vs ih =>
    cases h with
    | cons h r =>
      intro i d e
      cases i with
      | zero => simp at e; subst e; exact ⟨_, rfl, h⟩
      | succ i =>
        obtain ⟨w, e1, q⟩ := ih r (i := i) (by simpa using e)
        exact ⟨w, by simpa using e1, q⟩
theorem Reps.app {vs ws : List V} {ds es : List D} (h : Reps K A vs ds) (k : Reps K A ws es) : Reps K A (vs ++ ws) (ds ++ es) := by
  induction vs generalizing ds with
  | nil => cases h; exact k
  | cons v vs ih => cases h with | cons h r => exact .cons h (ih r)
theorem Reps.tke {vs : List V} {ds : List D} (h : Reps K A vs ds) : ∀ n, Reps K A (vs.take n) (ds.take n) := by
  induction vs generalizing ds with
  | nil => cases h; intro n; simp; exact .nil
  | cons v vs ih =>
    cases h with
    | cons h r =>
      intro n
      cases n with
      | zero => exact .nil
      | succ n => exact .cons h (ih r n)
theorem Reps.drp {vs : List V} {ds : List D} (h : Reps K A vs ds) : ∀ n, Reps K A (vs.drop n) (ds.drop n) := by
  induction vs generalizing ds with
  | nil => cases h; intro n; simp; exact .nil
  | cons v vs ih =>
    cases h with
    | cons h r =>
      intro n
      cases n with
      | zero => exact .cons h r
      | succ n => exact ih r n
theorem Reps.ints {vs : List V} : ∀ {ns : List Int}, Reps K A vs (ns.map D.int) → vs = ns.map V.int := by
  induction vs with
  | nil =>
    intro ns h
    cases ns with
    | nil => rfl
    | cons n ns => cases h
  | cons v vs ih =>
    intro ns h
    cases ns with
    | nil => cases h
    | cons n ns =>
      cases h with
      | cons h r => rw [h.int_inv, ih r]; rfl
theorem Reps.bls {vs : List V} : ∀ {ns : List Bool}, Reps K A vs (ns.map D.bl) → vs = ns.map V.bl := by
  induction vs with
  | nil =>
    intro ns h
    cases ns with
    | nil => rfl
    | cons n ns => cases h
  | cons v vs ih =>
    intro ns h
    cases ns with
    | nil => cases h
    | cons n ns =>
      cases h with
      | cons h r => rw [h.bl_inv, ih r]; rfl
theorem Reps.ofInts (ns : List Int) : Reps K A (ns.map V.int) (ns.map D.int) := by
  induction ns with
  | nil => exact .nil
  | cons n ns ih => exact .cons (.int n) ih
theorem RepSs.flat {vs : List V} {ds : List D} (h : Reps K A vs ds) : RepSs K A H .f vs ds [] := by
  induction vs generalizing ds with
  | nil => cases h; exact .nil
  | cons v vs ih => cases h with | cons h r => exact .cons (f1 := []) (.f h) (ih r)
theorem RepSs.unflat {vs : List V} {ds : List D} {fp : List Addr} (h : RepSs K A H .f vs ds fp) : Reps K A vs ds ∧ fp = [] := by
  induction vs generalizing ds fp with
  | nil => cases h; exact ⟨.nil, rfl⟩
  | cons v vs ih =>
    cases h with
    | cons h r =>
      obtain ⟨q, e⟩ := ih r
      cases h with
      | f h => exact ⟨.cons h q, by rw [e]; rfl⟩
theorem RepSk.flat {vs : List (Key × V)} {ds : List (NestedKey × D)} (h : RepK K A vs ds) : RepSk K A H .f vs ds [] := by
  induction vs generalizing ds with
  | nil => cases h; exact .nil
  | cons v vs ih =>
    cases h with
    | num h r => exact .num (f1 := []) (.f h) (ih r)
    | text h r => exact .text (f1 := []) (.f h) (ih r)
theorem RepSk.unflat {vs : List (Key × V)} {ds : List (NestedKey × D)} {fp : List Addr} (h : RepSk K A H .f vs ds fp) : RepK K A vs ds ∧ fp = [] := by
  induction vs generalizing ds fp with
  | nil => cases h; exact ⟨.nil, rfl⟩
  | cons v vs ih =>
    cases h with
    | num h r =>
      obtain ⟨q, e⟩ := ih r
      cases h with
      | f h => exact ⟨.num h q, by rw [e]; rfl⟩
    | text h r =>
      obtain ⟨q, e⟩ := ih r
      cases h with
      | f h => exact ⟨.text h q, by rw [e]; rfl⟩
end
end DL
set_option Elab.async false
set_option linter.all false
set_option maxRecDepth 100000
namespace DL
open PySem PySem.Spec PyProof.Rows L2

/-! ### names, constants -/
def cst (d : D) : TEd := fun env Q => Q (.f, d) env
def look (env : Env) (i : Nat) : Option SD := (env[i]?).bind (·.2)
def pinned (env : Env) (i : Nat) : Bool := ((env[i]?).map (·.1)).getD true
def putS (env : Env) (i : Nat) (x : Option SD) : Env := env.set i (pinned env i, x)
/-- read; what was owned is shared from now on -/
def rd (i : Nat) : TEd := fun env Q => match look env i with
  | some (.f, d) => Q (.f, d) env
  | some (_, d) => Q (.f, d) (putS env i (some (.f, d)))
  | none => False
/-- moved out of its name -/
def mv (i : Nat) : TEd := fun env Q => match look env i with
  | some sd => pinned env i = false ∧ Q sd (putS env i none)
  | none => False
def isScal : D → Bool
  | .non => true
  | .bl _ => true
  | .int _ => true
  | .str _ => true
  | _ => false
def toV : D → V
  | .bl b => .bl b
  | .int i => .int i
  | .str x => .str x
  | _ => .non
theorem Rep.scal {K : PySem.W.Frag} {A : Hp} {d : D} (h : isScal d = true) : Rep K A (toV d) d := by
  cases d <;> first | exact .non | exact .bl _ | exact .int _ | exact .str _ | cases h

section
variable {K : PySem.W.Frag} {C : Ct} {Hf H : Hp} {env : Env} {σ : Slots} {fp fv : List Addr}
theorem look_some {i : Nat} {sd : SD} (h : look env i = some sd) : env[i]? = some (pinned env i, some sd) := by
  unfold look at h
  unfold pinned
  cases e : env[i]? with
  | none => rw [e] at h; cases h
  | some p =>
    rw [e] at h
    obtain ⟨b, o⟩ := p
    simp only [Option.bind_some] at h
    subst h
    rfl
theorem putS_at {i : Nat} {sd : SD} (h : look env i = some sd) (x : Option SD) : (putS env i x)[i]? = some (pinned env i, x) := by
  have e := look_some h
  unfold putS
  rw [List.getElem?_set_self (List.getElem?_eq_some_iff.mp e).1]
theorem pinned_putS {i j : Nat} {x : Option SD} {y : Option SD} (h : env[j]? = some (true, y)) : ∃ z, (putS env i x)[j]? = some (true, z) := by
  unfold putS
  by_cases e : i = j
  · subst e
    have : pinned env i = true := by unfold pinned; rw [h]; rfl
    rw [List.getElem?_set_self (List.getElem?_eq_some_iff.mp h).1, this]
    exact ⟨x, rfl⟩
  · rw [List.getElem?_set_ne e]; exact ⟨y, h⟩
/-- a slot's value, taken out of its slot -/
theorem Rel.take (r : Rel K C Hf env σ H fp) {i : Nat} {s : Sh} {d : D} (h : look env i = some (s, d)) :
    ∃ v fv fr, σ[i]? = some (some v) ∧ RepS K Hf H s v d fv ∧ Rel K C Hf (putS env i none) σ H fr ∧ Apart C Hf fv fr := by
  obtain ⟨v, fv, fr, h1, h2, h3, h4⟩ := r.er.get (look_some h)
  have nd := h4.nodup_iff.mp r.nd
  obtain ⟨n1, n2, n3⟩ := List.nodup_append.mp nd
  have m1 : ∀ a, a ∈ fv → a ∈ fp := fun a m => h4.mem_iff.mpr (List.mem_append_left _ m)
  have m2 : ∀ a, a ∈ fr → a ∈ fp := fun a m => h4.mem_iff.mpr (List.mem_append_right _ m)
  refine ⟨v, fv, fr, h1, h2, ⟨r.same, r.fz, r.gf, r.gn, h3 _, n2, fun a m => r.fr a (m2 a m), fun j w e => ?_⟩, ⟨n1, fun a m => r.fr a (m1 a m), fun a m m' => n3 a m a m' rfl⟩⟩
  obtain ⟨q1, x, q2⟩ := r.pin j w e
  exact ⟨q1, pinned_putS q2⟩
/-- and put back -/
theorem Rel.back {i : Nat} {fr : List Addr} (r : Rel K C Hf (putS env i none) σ H fr) {s0 : SD} (h0 : look env i = some s0) {v : V} {s : Sh} {d : D} (hv : σ[i]? = some (some v)) (h : RepS K Hf H s v d fv) (ap : Apart C Hf fv fr) :
    ∃ fp', Rel K C Hf (putS env i (some (s, d))) σ H fp' ∧ fp'.Perm (fv ++ fr) := by
  obtain ⟨fp', h1, h2⟩ := r.er.put (b' := pinned env i) (putS_at h0 none) hv h
  have e : (putS env i none).set i (pinned env i, some (s, d)) = putS env i (some (s, d)) := by unfold putS; rw [List.set_set]
  rw [e] at h1
  refine ⟨fp', ⟨r.same, r.fz, r.gf, r.gn, h1, h2.nodup_iff.mpr (List.nodup_append.mpr ⟨ap.nd, r.nd, fun a m b m' z => ap.ap a m (z ▸ m')⟩), fun a m => ?_, fun j w q => ?_⟩, h2⟩
  · rcases List.mem_append.mp (h2.mem_iff.mp m) with m | m
    · exact ap.fr a m
    · exact r.fr a m
  · obtain ⟨q1, x, q2⟩ := r.pin j w q
    refine ⟨q1, ?_⟩
    obtain ⟨z, q3⟩ := pinned_putS (i := i) (x := some (s, d)) q2
    have e2 : putS (putS env i none) i (some (s, d)) = putS env i (some (s, d)) := by
      have p : pinned (putS env i none) i = pinned env i := by
        have := putS_at h0 none
        unfold pinned at this ⊢
        rw [this]; rfl
      unfold putS at p ⊢
      rw [p, List.set_set]
    rw [e2] at q3
    exact ⟨z, q3⟩
theorem Rel.put_same {i : Nat} {sd : SD} (h : look env i = some sd) : putS env i (some sd) = env := by
  have e := look_some h
  unfold putS
  refine List.ext_getElem? fun j => ?_
  by_cases q : i = j
  · subst q; rw [List.getElem?_set_self (List.getElem?_eq_some_iff.mp e).1, e]
  · rw [List.getElem?_set_ne q]
end

section
variable {X : Cx} {pos : Pos}
theorem pd_cst {e : Expr} {d : D} (h : PE X e (tC (toV d))) (s : isScal d = true := by rfl) : PD X e true (cst d) := by
  refine ⟨wkE h fun σ H Q w => ?_⟩
  obtain ⟨C, Hf, env, fp, R, r, t, k⟩ := w
  exact k (.f, d) env _ H Hf fp [] Ext.rfl (fun _ => Ext.rfl) r (.f (Rep.scal s)) Apart.nil t
theorem pd_int {i j} : PD X (.Constant (.int i) j pos) true (cst (.int i)) := pd_cst pe_int
theorem pd_bl {i j} : PD X (.Constant (.bool i) j pos) true (cst (.bl i)) := pd_cst pe_bl
theorem pd_non {j} : PD X (.Constant .none j pos) true (cst .non) := pd_cst pe_non
theorem pd_str {x j} : PD X (.Constant (.str x) j pos) true (cst (.str x)) := pd_cst pe_str
/-- a module's def or class as a value -/
theorem pd_fn {x : Str} {a : Addr} (hg : Gl X x) (hm : X.mg x = some (.ref a)) (hd : (x == ("__debug__" : Str)) = false := by decide) : PD X (.Name x pos) true (cst (.fn a)) := by
  refine ⟨wkE (pe_glob (v := .ref a) hg hm rfl hd) fun σ H Q w => ?_⟩
  obtain ⟨C, Hf, env, fp, R, r, t, k⟩ := w
  exact k (.f, .fn a) env _ H Hf fp [] Ext.rfl (fun _ => Ext.rfl) r (.f (.fn a)) Apart.nil t
theorem pd_rd {i : Nat} {e : Expr} (h : PE X e (tVar i)) : PD X e true (rd i) := by
  refine ⟨wkE h fun σ H Q w => ?_⟩
  obtain ⟨C, Hf, env, fp, R, r, t, k⟩ := w
  unfold rd at t
  cases e : look env i with
  | none => rw [e] at t; exact t.elim
  | some sd =>
    rw [e] at t
    obtain ⟨s, d⟩ := sd
    obtain ⟨v, fv, fr, hv, rs, r1, ap⟩ := r.take e
    refine ⟨v, hv, ?_⟩
    obtain ⟨r2, e2⟩ := r1.frz ap rs.there
    have rp : RepS X.K (frzH Hf H fv) H .f v d [] := .f (rs.frz e2 fun a m => frzH_in m)
    obtain ⟨fp', r3, _⟩ := r2.back e hv rp Apart.nil
    cases s with
    | f =>
      cases rs with
      | f rs' => exact k (.f, d) env v H Hf fp [] Ext.rfl (fun _ => Ext.rfl) r (.f rs') Apart.nil t
    | o s => exact k (.f, d) _ v H _ fp' [] e2 (fun _ => Ext.rfl) r3 rp Apart.nil t
    | ob ss => exact k (.f, d) _ v H _ fp' [] e2 (fun _ => Ext.rfl) r3 rp Apart.nil t
theorem pd_mv {i : Nat} {e : Expr} (h : PE X e (tVar i)) : PD X e true (mv i) := by
  refine ⟨wkE h fun σ H Q w => ?_⟩
  obtain ⟨C, Hf, env, fp, R, r, t, k⟩ := w
  unfold mv at t
  cases e : look env i with
  | none => rw [e] at t; exact t.elim
  | some sd =>
    rw [e] at t
    obtain ⟨s, d⟩ := sd
    obtain ⟨v, fv, fr, hv, rs, r1, ap⟩ := r.take e
    exact ⟨v, hv, k (s, d) _ v H Hf fr fv Ext.rfl (fun _ => Ext.rfl) r1 rs ap t.2⟩
end

/-! ### operators -/
/-- what an operation on shared values gives -/
def Res (K : PySem.W.Frag) (C : Ct) (Hf : Hp) (env : Env) (σ : Slots) (H : Hp) (fp : List Addr) (kp : SD → Prop) (Q : VK) : Prop :=
  ∀ (sd : SD) (v : V) (H' Hf' : Hp) (fv : List Addr), Ext Hf Hf' → Ext H H' → Rel K C Hf' env σ H' fp → RepS K Hf' H' sd.1 v sd.2 fv → Apart C Hf' fv fp → kp sd → Q v H'
section
variable {K : PySem.W.Frag} {C : Ct} {Hf H : Hp} {env : Env} {σ : Slots} {fp fv : List Addr} {kp : SD → Prop} {Q : VK}
theorem Res.val (k : Res K C Hf env σ H fp kp Q) (r : Rel K C Hf env σ H fp) {v : V} {d : D} (p : Rep K Hf v d) (h : kp (.f, d)) : Q v H :=
  k (.f, d) v H Hf [] Ext.rfl Ext.rfl r (.f p) Apart.nil h
theorem Res.sc (k : Res K C Hf env σ H fp kp Q) (r : Rel K C Hf env σ H fp) {d : D} (h : kp (.f, d)) (s : isScal d = true := by rfl) : Q (toV d) H := k.val r (Rep.scal s) h
theorem Res.newL (k : Res K C Hf env σ H fp kp Q) (r : Rel K C Hf env σ H fp) {vs : List V} {ds : List D} (p : Reps K Hf vs ds) (h : kp (.o .f, .lst ds)) {l : Addr} (hl : H l = none) : Q (.ref l) (upd H l (.lst vs)) :=
  k (.o .f, .lst ds) (.ref l) _ Hf [l] Ext.rfl (Ext.upd hl) (r.alloc hl) (.lst upd_same (RepSs.flat p)) (r.apart hl) h
theorem Res.newT (k : Res K C Hf env σ H fp kp Q) (r : Rel K C Hf env σ H fp) {vs : List V} {ds : List D} (p : Reps K Hf vs ds) (h : kp (.f, .tup ds)) {l : Addr} (hl : H l = none) : Q (.ref l) (upd H l (.tup vs)) := by
  obtain ⟨r1, e1⟩ := r.allocF (o := .tup vs) hl
  have p1 : Rep K (upd Hf l (.tup vs)) (.ref l) (.tup ds) := .tup (.inl (.inl upd_same)) (p.ext e1)
  exact k (.f, .tup ds) (.ref l) _ _ [] e1 (Ext.upd hl) r1 (.f p1) Apart.nil h
end

/-- an operation on two shared values -/
def OpD (X : Cx) (f : Value → Value → Sem Value) (r : D → D → (SD → Prop) → Prop) : Prop :=
  ∃ rH, OpR X f rH ∧ ∀ (C : Ct) (Hf : Hp) (env : Env) (σ : Slots) (H : Hp) (fp : List Addr) (v w : V) (x y : D) (kp : SD → Prop) (Q : VK),
    Rel X.K C Hf env σ H fp → Rep X.K Hf v x → Rep X.K Hf w y → r x y kp → Res X.K C Hf env σ H fp kp Q → rH v w H Q
def bi (r : D → D → (SD → Prop) → Prop) (ta tb : TEd) : TEd := fun env Q => ta env fun x e1 => tb e1 fun y e2 => r x.2 y.2 fun z => Q z e2
section
variable {X : Cx} {pos : Pos} {a b : Expr} {b1 b2 : Bool} {ta tb : TEd} {r : D → D → (SD → Prop) → Prop}
theorem le_bi {rH : R2} {σ : Slots} {H : Hp} {Q : VK} (ho : ∀ (C : Ct) (Hf : Hp) (env : Env) (σ : Slots) (H : Hp) (fp : List Addr) (v w : V) (x y : D) (kp : SD → Prop) (Q : VK),
    Rel X.K C Hf env σ H fp → Rep X.K Hf v x → Rep X.K Hf w y → r x y kp → Res X.K C Hf env σ H fp kp Q → rH v w H Q)
    (w : LE X.K (b1 && b2) (bi r ta tb) σ H Q) : tOp rH (LE X.K b1 ta) (LE X.K b2 tb) σ H Q := by
  obtain ⟨C, Hf, env, fp, R, rl, t, k⟩ := w
  refine le_two (R := fun x y e2 => r x.2 y.2 fun z => R z e2) rl t fun x y env2 v w H2 Hf2 fp2 e2 q2 r2 px py h => ?_
  exact ho C Hf2 env2 σ H2 fp2 v w x.2 y.2 _ Q r2 px py h fun sd u H' Hf' fv e3 q3 r3 p3 ap3 h3 => k sd env2 u H' Hf' fp2 fv (e2.trans e3) (fun z => (q2 z).trans q3) r3 p3 ap3 h3
theorem pd_bin {op : Operator} (ho : OpD X (binaryOp op) r) (ha : PD X a b1 ta) (hb : PD X b b2 tb) : PD X (.BinOp a op b pos) (b1 && b2) (bi r ta tb) := by
  obtain ⟨rH, h1, h2⟩ := ho
  exact ⟨wkE (pe_op h1 ha.pe hb.pe) fun σ H Q w => le_bi h2 w⟩
theorem pd_cmp {op : CmpOp} (ho : OpD X (compareOp op) r) (ha : PD X a b1 ta) (hb : PD X b b2 tb) (hm : behindInMarks op b = false) : PD X (.Compare a [op] [b] pos) (b1 && b2) (bi r ta tb) := by
  obtain ⟨rH, h1, h2⟩ := ho
  exact ⟨wkE (pe_cmpR h1 ha.pe hb.pe hm) fun σ H Q w => le_bi h2 w⟩
end

def rI (C : Int → Int → Prop) (g : Int → Int → D) : D → D → (SD → Prop) → Prop
  | .int i, .int j, k => C i j ∧ k (.f, g i j)
  | _, _, _ => False
def rJ (g : Int → Int → D) : D → D → (SD → Prop) → Prop
  | .int i, .int j, k => k (.f, g i j)
  | _, _, _ => False
section
variable {X : Cx}
theorem od_I {f : Value → Value → Sem Value} {C : Int → Int → Prop} {gv : Int → Int → V} {g : Int → Int → D} (h : OpR X f (L2.rI C gv)) (e : ∀ i j, gv i j = toV (g i j) := by intros; rfl) (s : ∀ i j, isScal (g i j) = true := by intros; rfl) : OpD X f (rI C g) := by
  refine ⟨_, h, fun C' Hf env σ H fp v w x y kp Q r px py hr k => ?_⟩
  cases x <;> first | exact hr.elim | skip
  cases y <;> first | exact hr.elim | skip
  rw [px.int_inv, py.int_inv]
  exact ⟨_, _, rfl, rfl, hr.1, by rw [e]; exact k.sc r hr.2 (s _ _)⟩
theorem od_J {f : Value → Value → Sem Value} {gv : Int → Int → V} {g : Int → Int → D} (h : OpR X f (rI0 gv)) (e : ∀ i j, gv i j = toV (g i j) := by intros; rfl) (s : ∀ i j, isScal (g i j) = true := by intros; rfl) : OpD X f (rJ g) := by
  refine ⟨_, h, fun C' Hf env σ H fp v w x y kp Q r px py hr k => ?_⟩
  cases x <;> first | exact hr.elim | skip
  cases y <;> first | exact hr.elim | skip
  rw [px.int_inv, py.int_inv]
  exact ⟨_, _, rfl, rfl, by rw [e]; exact k.sc r hr (s _ _)⟩
abbrev rSub := rJ fun i j => .int (i - j)
abbrev rMod := rI (fun _ j => j ≠ 0) fun i j => .int (i.fmod j)
abbrev rDiv := rI CDivN fun i j => .int (i.fdiv j)
abbrev rPow := rI CPow fun i j => .int (i ^ j.toNat)
abbrev rLt := rJ fun i j => .bl (decide (i < j))
abbrev rLe := rJ fun i j => .bl (decide (i ≤ j))
abbrev rGt := rJ fun i j => .bl (decide (j < i))
abbrev rGe := rJ fun i j => .bl (decide (j ≤ i))
theorem od_sub : OpD X (binaryOp .Sub) rSub := od_J op_sub
theorem od_mod : OpD X (binaryOp .Mod) rMod := od_I op_modN
theorem od_div : OpD X (binaryOp .FloorDiv) rDiv := od_I op_fdivN
theorem od_pow : OpD X (binaryOp .Pow) rPow := od_I op_pow
theorem od_lt : OpD X (compareOp .Lt) rLt := od_J op_lt
theorem od_le : OpD X (compareOp .LtE) rLe := od_J op_le
theorem od_gt : OpD X (compareOp .Gt) rGt := od_J op_gt
theorem od_ge : OpD X (compareOp .GtE) rGe := od_J op_ge
end
end DL
set_option Elab.async false
set_option linter.all false
set_option maxRecDepth 100000
namespace DL
open PySem PySem.Spec PyProof.Rows L2

/-! ### + and * -/
def rAdd : D → D → (SD → Prop) → Prop
  | .int i, .int j, k => k (.f, .int (i + j))
  | .lst a, .lst b, k => a.length + b.length ≤ sizeLine ∧ k (.o .f, .lst (a ++ b))
  | .tup a, .tup b, k => a.length + b.length ≤ sizeLine ∧ k (.f, .tup (a ++ b))
  | .str a, .str b, k => a.length + b.length ≤ sizeLine ∧ k (.f, .str (a ++ b))
  | _, _, _ => False
def repD (n : Nat) (xs : List D) : List D := (List.replicate n xs).flatten
def rMul : D → D → (SD → Prop) → Prop
  | .int i, .int j, k => CMul i j ∧ k (.f, .int (i * j))
  | .lst a, .int j, k => -(2 ^ 63) ≤ j ∧ j < 2 ^ 63 ∧ a.length * j.toNat ≤ sizeLine ∧ k (.o .f, .lst (repD j.toNat a))
  | _, _, _ => False
section
variable {X : Cx}
theorem Reps.rep {K : PySem.W.Frag} {A : Hp} {vs : List V} {ds : List D} (h : Reps K A vs ds) : ∀ n, Reps K A (List.replicate n vs).flatten (repD n ds)
  | 0 => .nil
  | n + 1 => by
    unfold repD
    rw [List.replicate_succ, List.flatten_cons, List.replicate_succ, List.flatten_cons]
    exact h.app (Reps.rep h n)
theorem od_add : OpD X (binaryOp .Add) rAdd := by
  refine ⟨_, op_add.or (op_cat.or (op_catA.or op_add_str)), fun C Hf env σ H fp v w x y kp Q r px py hr k => ?_⟩
  cases x <;> cases y <;> first | exact hr.elim | skip
  · rw [px.int_inv, py.int_inv]
    exact .inl ⟨_, _, rfl, rfl, k.sc (d := .int _) r hr⟩
  · rw [px.str_inv, py.str_inv]
    exact .inr (.inr (.inr ⟨_, _, rfl, rfl, hr.1, k.sc (d := .str _) r hr.2⟩))
  · obtain ⟨a, vs, rfl, h1, p1⟩ := px.tup_inv
    obtain ⟨b, ws, rfl, h2, p2⟩ := py.tup_inv
    refine .inr (.inr (.inl ⟨a, b, vs, ws, rfl, rfl, SqT.fz r.fz h1, SqT.fz r.fz h2, by rw [p1.len, p2.len]; exact hr.1, fun e => ?_, fun e e' => ?_, fun e e' p hp => ?_⟩))
    · subst e
      have := p1
      cases this
      exact k.val r py hr.2
    · subst e'
      have := p2
      cases this
      have z := hr.2
      rw [List.append_nil] at z
      exact k.val r px z
    · exact k.newT r (p1.app p2) hr.2 hp
  · obtain ⟨a, vs, rfl, h1, p1⟩ := px.lst_inv
    obtain ⟨b, ws, rfl, h2, p2⟩ := py.lst_inv
    exact .inr (.inl ⟨a, b, vs, ws, rfl, rfl, r.fz.at h1 rfl, r.fz.at h2 rfl, by rw [p1.len, p2.len]; exact hr.1, fun p hp => k.newL r (p1.app p2) hr.2 hp⟩)
theorem od_mul : OpD X (binaryOp .Mult) rMul := by
  refine ⟨_, op_mul.or op_rep, fun C Hf env σ H fp v w x y kp Q r px py hr k => ?_⟩
  cases x <;> cases y <;> first | exact hr.elim | skip
  · rw [px.int_inv, py.int_inv]
    exact .inl ⟨_, _, rfl, rfl, hr.1, k.sc (d := .int _) r hr.2⟩
  · obtain ⟨a, vs, rfl, h1, p1⟩ := px.lst_inv
    rw [py.int_inv]
    exact .inr ⟨a, _, vs, rfl, rfl, r.fz.at h1 rfl, hr.1, hr.2.1, by rw [p1.len]; exact hr.2.2.1, fun p hp => k.newL r (p1.rep _) hr.2.2.2 hp⟩
end

/-! ### ==, != -/
mutual
def toPy : D → PyData
  | .non => .none
  | .bl b => .bool b
  | .int i => .int i
  | .str x => .str x
  | .tup xs => .tuple (toPys xs)
  | .lst xs => .list (toPys xs)
  | .ro xs => .list (toPys xs)
  | .fn _ => .none
  | .dct _ => .none
  | .ins _ _ => .none
def toPys : List D → List PyData
  | [] => []
  | x :: xs => toPy x :: toPys xs
end
mutual
/-- data of Nones, bools, numbers, texts, lists, tuples, less than n deep -/
def flat : Nat → D → Bool
  | _, .non => true
  | _, .bl _ => true
  | _, .int _ => true
  | _, .str x => PyData.strOk x
  | n, .tup xs => decide (0 < n) && flats (n - 1) xs
  | n, .lst xs => decide (0 < n) && flats (n - 1) xs
  | n, .ro xs => decide (0 < n) && flats (n - 1) xs
  | _, .fn _ => false
  | _, .dct _ => false
  | _, .ins _ _ => false
def flats : Nat → List D → Bool
  | _, [] => true
  | n, x :: xs => flat n x && flats n xs
end
mutual
theorem Rep.dpy {K : PySem.W.Frag} {A H : Hp} (z : Fz A H) {n : Nat} {v : V} {d : D} : Rep K A v d → flat n d = true → Dp K H v (toPy d)
  | .non, _ => .non
  | .bl b, _ => .bl b
  | .int i, _ => .int i
  | .str x, _ => .str x
  | .fn a, h => by simp [flat] at h
  | .tup s r, h => by
    simp only [flat, Bool.and_eq_true] at h
    exact .tup (SqT.fz z s) (Reps.dpy z r h.2)
  | .lst s r, h => by
    simp only [flat, Bool.and_eq_true] at h
    exact .lst (SqL.of (z.at s rfl)) (Reps.dpy z r h.2)
  | .ro s r, h => by
    simp only [flat, Bool.and_eq_true] at h
    exact .lst (SqL.fz z s) (Reps.dpy z r h.2)
  | .dk s r, h => by simp [flat] at h
  | .ins s r, h => by simp [flat] at h
theorem Reps.dpy {K : PySem.W.Frag} {A H : Hp} (z : Fz A H) {n : Nat} {v : List V} {d : List D} : Reps K A v d → flats n d = true → DpAll K H v (toPys d)
  | .nil, _ => .nil
  | .cons h r, q => by
    simp only [flats, Bool.and_eq_true] at q
    exact .cons (Rep.dpy z h q.1) (Reps.dpy z r q.2)
end
mutual
theorem flat_ok : ∀ (d : D) (n : Nat), flat n d = true → (toPy d).canLay0 = true ∧ (toPy d).depth ≤ n
  | .non, n, _ => ⟨rfl, Nat.zero_le _⟩
  | .bl _, n, _ => ⟨rfl, Nat.zero_le _⟩
  | .int _, n, _ => ⟨rfl, Nat.zero_le _⟩
  | .str x, n, h => ⟨by simpa [toPy, PyData.canLay0, flat] using h, Nat.zero_le _⟩
  | .tup xs, n, h => by
    simp only [flat, Bool.and_eq_true, decide_eq_true_eq] at h
    obtain ⟨a, b⟩ := flats_ok xs (n - 1) h.2
    exact ⟨by simpa [toPy, PyData.canLay0] using a, by simp only [toPy, PyData.depth]; omega⟩
  | .lst xs, n, h => by
    simp only [flat, Bool.and_eq_true, decide_eq_true_eq] at h
    obtain ⟨a, b⟩ := flats_ok xs (n - 1) h.2
    exact ⟨by simpa [toPy, PyData.canLay0] using a, by simp only [toPy, PyData.depth]; omega⟩
  | .ro xs, n, h => by
    simp only [flat, Bool.and_eq_true, decide_eq_true_eq] at h
    obtain ⟨a, b⟩ := flats_ok xs (n - 1) h.2
    exact ⟨by simpa [toPy, PyData.canLay0] using a, by simp only [toPy, PyData.depth]; omega⟩
  | .fn _, n, h => by simp [flat] at h
  | .dct _, n, h => by simp [flat] at h
  | .ins _ _, n, h => by simp [flat] at h
theorem flats_ok : ∀ (d : List D) (n : Nat), flats n d = true → PyData.canLayAll0 (toPys d) = true ∧ PyData.depthAll (toPys d) ≤ n
  | [], n, _ => ⟨rfl, Nat.zero_le _⟩
  | x :: xs, n, h => by
    simp only [flats, Bool.and_eq_true] at h
    obtain ⟨a, b⟩ := flat_ok x n h.1
    obtain ⟨c, d⟩ := flats_ok xs n h.2
    refine ⟨by simp only [toPys, PyData.canLayAll0, a, c]; rfl, ?_⟩
    simp only [toPys, PyData.depthAll]
    omega
end
theorem flat_shaped {d : D} (h : flat 60 d = true) : SeqAt.shaped (toPy d) = true := by
  obtain ⟨a, b⟩ := flat_ok d 60 h
  unfold SeqAt.shaped
  rw [a, decide_eq_true (Nat.le_trans b (by decide))]
  rfl
def eqD (x y : D) : Bool := PyData.eqv (toPy x) (toPy y)
def rEq : D → D → (SD → Prop) → Prop := fun x y k => flat 60 x = true ∧ flat 60 y = true ∧ k (.f, .bl (eqD x y))
def rNe : D → D → (SD → Prop) → Prop := fun x y k => flat 60 x = true ∧ flat 60 y = true ∧ k (.f, .bl (!eqD x y))
section
variable {X : Cx}
theorem od_eq (hu : X.A.units + 64 < cLine) : OpD X (compareOp .Eq) rEq := by
  refine ⟨_, op_eqD hu, fun C Hf env σ H fp v w x y kp Q r px py hr k => ?_⟩
  exact ⟨_, _, px.dpy r.fz hr.1, py.dpy r.fz hr.2.1, flat_shaped hr.1, flat_shaped hr.2.1, k.sc (d := .bl _) r hr.2.2⟩
theorem od_ne (hu : X.A.units + 64 < cLine) : OpD X (compareOp .NotEq) rNe := by
  refine ⟨_, op_neD hu, fun C Hf env σ H fp v w x y kp Q r px py hr k => ?_⟩
  exact ⟨_, _, px.dpy r.fz hr.1, py.dpy r.fz hr.2.1, flat_shaped hr.1, flat_shaped hr.2.1, k.sc (d := .bl _) r hr.2.2⟩
def isNon : D → Bool
  | .non => true
  | _ => false
theorem Rep.isNon {K : PySem.W.Frag} {A : Hp} {v : V} {d : D} (h : Rep K A v d) : decide (v = .non) = isNon d := by cases h <;> rfl
def rIs : D → D → (SD → Prop) → Prop
  | x, .non, k => k (.f, .bl (isNon x))
  | _, _, _ => False
def rIsN : D → D → (SD → Prop) → Prop
  | x, .non, k => k (.f, .bl (!isNon x))
  | _, _, _ => False
theorem od_is : OpD X (compareOp .Is) rIs := by
  refine ⟨_, op_isN, fun C Hf env σ H fp v w x y kp Q r px py hr k => ?_⟩
  cases y <;> first | exact hr.elim | skip
  refine ⟨py.non_inv, ?_⟩
  rw [px.isNon]
  exact k.sc (d := .bl _) r hr
theorem od_isN : OpD X (compareOp .IsNot) rIsN := by
  refine ⟨_, op_notN, fun C Hf env σ H fp v w x y kp Q r px py hr k => ?_⟩
  cases y <;> first | exact hr.elim | skip
  refine ⟨py.non_inv, ?_⟩
  rw [px.isNon]
  exact k.sc (d := .bl _) r hr
end

/-! ### tests -/
def tst (te : TEd) : TTd := fun env Q => te env fun x e => match x.2 with
  | .bl c => Q c e
  | _ => False
def tnot (t : TTd) : TTd := fun env Q => t env fun c e => Q (!c) e
def tand (t u : TTd) : TTd := fun env Q => t env fun c e => if c = true then u e Q else Q false e
def tor (t u : TTd) : TTd := fun env Q => t env fun c e => if c = true then Q true e else u e Q
section
variable {X : Cx} {pos : Pos} {e a : Expr} {b b1 b2 : Bool} {te ta tb : TEd} {t u : TTd} {rest : List Expr}
theorem le_tst {σ : Slots} {H : Hp} {Q : Bool → Hp → Prop} (w : LT X.K b (tst te) σ H Q) : LE X.K b te σ H fun x H1 => ∃ c, x = .bl c ∧ Q c H1 := by
  obtain ⟨C, Hf, env, fp, R, r, t, k⟩ := w
  refine ⟨C, Hf, env, fp, _, r, t, fun sd env' v H' Hf' fp' fv e q r' p ap h => ?_⟩
  obtain ⟨s, d⟩ := sd
  cases d <;> first | exact h.elim | skip
  cases p with
  | f p => exact ⟨_, p.bl_inv, k _ env' H' Hf' fp' e q r' h⟩
theorem pt_tst (h : PD X e b te) (he : ∀ whole, isTrue e X.env whole = (do let v ← whole; standAt e.pos; holding [v] (truthy v)) := by intro _; rfl) : PTd X e b (tst te) :=
  ⟨wkT (pt_val h.pe he) fun σ H Q w => le_tst w⟩
/-- a comparison as a test -/
theorem pt_cmpd {op : CmpOp} {a c : Expr} {r : D → D → (SD → Prop) → Prop} (ho : OpD X (compareOp op) r) (ha : PD X a b1 ta) (hb : PD X c b2 tb) (hm : behindInMarks op c = false) : PTd X (.Compare a [op] [c] pos) (b1 && b2) (tst (bi r ta tb)) := by
  obtain ⟨rH, h1, h2⟩ := ho
  exact ⟨wkT (pt_cmpR h1 ha.pe hb.pe hm) fun σ H Q w => le_bi h2 (le_tst w)⟩
theorem pt_not (h : PTd X e b t) : PTd X (.UnaryOp .Not e pos) b (tnot t) := by
  refine ⟨wkT (L2.pt_not h.pt) fun σ H Q w => ?_⟩
  obtain ⟨C, Hf, env, fp, R, r, t, k⟩ := w
  exact ⟨C, Hf, env, fp, _, r, t, fun c env' H' Hf' fp' e q r' h => k (!c) env' H' Hf' fp' e q r' h⟩
/-- a chain of and, or -/
structure PWd (X : Cx) (e : Expr) (b : Bool) (t : TTd) : Prop where
  pw : PW X e (LT X.K b t)
theorem PWd.pt (h : PWd X e b t) : PTd X e b t := ⟨h.pw.pt⟩
theorem wkW {t t' : TT} (h : PW X e t) (w : ∀ σ H Q, t' σ H Q → t σ H Q) : PW X e t' := ⟨fun wh pins s σ H Q I q => h.run wh pins s σ H Q I (w σ H Q q)⟩
theorem pw_and1 (h : PTd X a b t) : PWd X (.BoolOp .And [a] pos) b t := ⟨L2.pw_and1 h.pt⟩
theorem pw_or1 (h : PTd X a b t) : PWd X (.BoolOp .Or [a] pos) b t := ⟨L2.pw_or1 h.pt⟩
theorem pw_and {c : Expr} (ha : PTd X a b1 t) (hb : PWd X (.BoolOp .And (c :: rest) pos) b2 u) : PWd X (.BoolOp .And (a :: c :: rest) pos) (b1 && b2) (tand t u) := by
  refine ⟨wkW (L2.pw_and ha.pt hb.pw) fun σ H Q w => ?_⟩
  obtain ⟨C, Hf, env, fp, R, r, t, k⟩ := w
  refine ⟨C, Hf, env, fp, _, r, t, fun d env' H' Hf' fp' e q r' h => ?_⟩
  cases d with
  | true => exact ⟨C, Hf', env', fp', R, r', h, PostT.mono k e q⟩
  | false => exact k false env' H' Hf' fp' e (fun z => q (by rw [Bool.and_eq_true] at z; exact z.1)) r' h
theorem pw_or {c : Expr} (ha : PTd X a b1 t) (hb : PWd X (.BoolOp .Or (c :: rest) pos) b2 u) : PWd X (.BoolOp .Or (a :: c :: rest) pos) (b1 && b2) (tor t u) := by
  refine ⟨wkW (L2.pw_or ha.pt hb.pw) fun σ H Q w => ?_⟩
  obtain ⟨C, Hf, env, fp, R, r, t, k⟩ := w
  refine ⟨C, Hf, env, fp, _, r, t, fun d env' H' Hf' fp' e q r' h => ?_⟩
  cases d with
  | false => exact ⟨C, Hf', env', fp', R, r', h, PostT.mono k e q⟩
  | true => exact k true env' H' Hf' fp' e (fun z => q (by rw [Bool.and_eq_true] at z; exact z.1)) r' h
/-- .. as values -/
def vand (ta tb : TEd) : TEd := fun env Q => ta env fun x e => match x.2 with
  | .bl true => tb e Q
  | .bl false => Q (.f, .bl false) e
  | _ => False
def vor (ta tb : TEd) : TEd := fun env Q => ta env fun x e => match x.2 with
  | .bl false => tb e Q
  | .bl true => Q (.f, .bl true) e
  | _ => False
def vnot (ta : TEd) : TEd := fun env Q => ta env fun x e => match x.2 with
  | .bl c => Q (.f, .bl (!c)) e
  | _ => False
theorem pd_one {op} (h : PD X a b ta) : PD X (.BoolOp op [a] pos) b ta := ⟨pe_one h.pe⟩
theorem q1 {H H' : Hp} (q : Quiet b1 H H') : Quiet (b1 && b2) H H' := fun z => q (by rw [Bool.and_eq_true] at z; exact z.1)
theorem q2 {H H' : Hp} (q : Quiet b2 H H') : Quiet (b1 && b2) H H' := fun z => q (by rw [Bool.and_eq_true] at z; exact z.2)
theorem pd_and {c : Expr} (ha : PD X a b1 ta) (hb : PD X (.BoolOp .And (c :: rest) pos) b2 tb) : PD X (.BoolOp .And (a :: c :: rest) pos) (b1 && b2) (vand ta tb) := by
  refine ⟨wkE (pe_and ha.pe hb.pe) fun σ H Q w => ?_⟩
  obtain ⟨C, Hf, env, fp, R, r, t, k⟩ := w
  refine le_one (b := b1) r t fun x env' v H' Hf' fp' e q r' p h => ?_
  obtain ⟨s, d⟩ := x
  cases d <;> first | exact h.elim | skip
  rename_i c
  refine ⟨c, p.bl_inv, ?_⟩
  cases c with
  | true => exact ⟨C, Hf', env', fp', R, r', h, Post.mono k e q⟩
  | false => exact k (.f, .bl false) env' _ H' Hf' fp' [] e (q1 q) r' (.f (.bl _)) Apart.nil h
theorem pd_or {c : Expr} (ha : PD X a b1 ta) (hb : PD X (.BoolOp .Or (c :: rest) pos) b2 tb) : PD X (.BoolOp .Or (a :: c :: rest) pos) (b1 && b2) (vor ta tb) := by
  refine ⟨wkE (pe_or ha.pe hb.pe) fun σ H Q w => ?_⟩
  obtain ⟨C, Hf, env, fp, R, r, t, k⟩ := w
  refine le_one (b := b1) r t fun x env' v H' Hf' fp' e q r' p h => ?_
  obtain ⟨s, d⟩ := x
  cases d <;> first | exact h.elim | skip
  rename_i c
  refine ⟨c, p.bl_inv, ?_⟩
  cases c with
  | false => exact ⟨C, Hf', env', fp', R, r', h, Post.mono k e q⟩
  | true => exact k (.f, .bl true) env' _ H' Hf' fp' [] e (q1 q) r' (.f (.bl _)) Apart.nil h
theorem pd_not (ha : PD X a b ta) : PD X (.UnaryOp .Not a pos) b (vnot ta) := by
  refine ⟨wkE (pe_not ha.pe) fun σ H Q w => ?_⟩
  obtain ⟨C, Hf, env, fp, R, r, t, k⟩ := w
  refine le_one r t fun x env' v H' Hf' fp' e q r' p h => ?_
  obtain ⟨s, d⟩ := x
  cases d <;> first | exact h.elim | skip
  rename_i c
  exact ⟨c, p.bl_inv, k (.f, .bl (!c)) env' _ H' Hf' fp' [] e q r' (.f (.bl _)) Apart.nil h⟩
/-- -a -/
def neg (ta : TEd) : TEd := fun env Q => ta env fun x e => match x.2 with
  | .int i => Q (.f, .int (-i)) e
  | _ => False
theorem pd_neg (ha : PD X a b ta) : PD X (.UnaryOp .USub a pos) b (neg ta) := by
  refine ⟨wkE (pe_un un_neg ha.pe) fun σ H Q w => ?_⟩
  obtain ⟨C, Hf, env, fp, R, r, t, k⟩ := w
  refine le_one r t fun x env' v H' Hf' fp' e q r' p h => ?_
  obtain ⟨s, d⟩ := x
  cases d <;> first | exact h.elim | skip
  exact ⟨_, p.int_inv, k (.f, .int _) env' _ H' Hf' fp' [] e q r' (.f (.int _)) Apart.nil h⟩
/-- a if t else c -/
def cnd (t : TTd) (ta tb : TEd) : TEd := fun env Q => t env fun c e => if c = true then ta e Q else tb e Q
theorem pd_if {c d : Expr} (hc : PTd X d b t) (ha : PD X a b1 ta) (hb : PD X c b2 tb) : PD X (.IfExp d a c pos) (b && (b1 && b2)) (cnd t ta tb) := by
  refine ⟨wkE (pe_ifExp hc.pt ha.pe hb.pe) fun σ H Q w => ?_⟩
  obtain ⟨C, Hf, env, fp, R, r, t, k⟩ := w
  refine ⟨C, Hf, env, fp, _, r, t, fun z env' H' Hf' fp' e q r' h => ?_⟩
  have k' := Post.mono k e q
  cases z with
  | true => exact ⟨C, Hf', env', fp', R, r', h, fun sd env v H2 Hf2 fp fv e2 q2 => k' sd env v H2 Hf2 fp fv e2 (q1 q2)⟩
  | false => exact ⟨C, Hf', env', fp', R, r', h, fun sd env v H2 Hf2 fp fv e2 q => k' sd env v H2 Hf2 fp fv e2 (q2 q)⟩
/-- a < b < c -/
def chn (r r' : D → D → (SD → Prop) → Prop) (ta tb tc : TEd) : TEd := fun env Q => ta env fun x e1 => tb e1 fun y e2 => r x.2 y.2 fun z => match z with
  | (.f, .bl true) => tc e2 fun w e3 => r' y.2 w.2 fun z => Q z e3
  | (.f, .bl false) => Q (.f, .bl false) e2
  | _ => False
theorem le_chn {op op' : CmpOp} {b3 : Bool} {tc : TEd} {r r' : D → D → (SD → Prop) → Prop} {rH rH' : R2} {σ : Slots} {H : Hp} {Q : VK}
    (h2 : ∀ (C : Ct) (Hf : Hp) (env : Env) (σ : Slots) (H : Hp) (fp : List Addr) (v w : V) (x y : D) (kp : SD → Prop) (Q : VK),
      Rel X.K C Hf env σ H fp → Rep X.K Hf v x → Rep X.K Hf w y → r x y kp → Res X.K C Hf env σ H fp kp Q → rH v w H Q)
    (h2' : ∀ (C : Ct) (Hf : Hp) (env : Env) (σ : Slots) (H : Hp) (fp : List Addr) (v w : V) (x y : D) (kp : SD → Prop) (Q : VK),
      Rel X.K C Hf env σ H fp → Rep X.K Hf v x → Rep X.K Hf w y → r' x y kp → Res X.K C Hf env σ H fp kp Q → rH' v w H Q)
    (w : LE X.K (b1 && (b2 && b3)) (chn r r' ta tb tc) σ H Q) : tChain rH rH' (LE X.K b1 ta) (LE X.K b2 tb) (LE X.K b3 tc) σ H Q := by
  obtain ⟨C, Hf, env, fp, R, rl, t, k⟩ := w
  refine le_two (b1 := b1) (b2 := b2) rl t fun x y env2 v w H2 Hf2 fp2 e2 qq r2 px py h => ?_
  refine h2 C Hf2 env2 σ H2 fp2 v w x.2 y.2 _ _ r2 px py h fun sd u H' Hf' fv e3 q3 r3 p3 ap3 h3 => ?_
  obtain ⟨s, d⟩ := sd
  cases s <;> first | exact h3.elim | skip
  cases d <;> first | exact h3.elim | skip
  rename_i c
  cases p3 with
  | f p3 =>
    refine ⟨c, p3.bl_inv, ?_⟩
    have qa : Quiet (b1 && b2) H H' := fun z => (qq z).trans q3
    have qb : Quiet (b1 && (b2 && b3)) H H' := fun z => qa (by simp only [Bool.and_eq_true] at z ⊢; exact ⟨z.1, z.2.1⟩)
    cases c with
    | false => exact k (.f, .bl false) env2 _ H' Hf' fp2 [] (e2.trans e3) qb r3 (.f (.bl _)) Apart.nil h3
    | true =>
      refine le_one (b := b3) r3 h3 fun z env4 u4 H4 Hf4 fp4 e4 q4 r4 p4 h4 => ?_
      exact h2' C Hf4 env4 σ H4 fp4 w u4 y.2 z.2 _ _ r4 (py.ext (e3.trans e4)) p4 h4 fun sd u H5 Hf5 fv e5 q5 r5 p5 ap5 h5 =>
        k sd env4 u H5 Hf5 fp4 fv (e2.trans (e3.trans (e4.trans e5))) (fun z => by
          have z' := z
          simp only [Bool.and_eq_true] at z'
          exact (qb z).trans ((q4 z'.2.2).trans q5)) r5 p5 ap5 h5
theorem pd_chn {op op' : CmpOp} {a c d : Expr} {b3 : Bool} {tc : TEd} {r r' : D → D → (SD → Prop) → Prop} (ho : OpD X (compareOp op) r) (ho' : OpD X (compareOp op') r') (ha : PD X a b1 ta) (hb : PD X c b2 tb) (hc : PD X d b3 tc)
    (hm : lastMarks [op, op'] [c, d] = false := by with_unfolding_all rfl) : PD X (.Compare a [op, op'] [c, d] pos) (b1 && (b2 && b3)) (chn r r' ta tb tc) := by
  obtain ⟨rH, h1, h2⟩ := ho
  obtain ⟨rH', h1', h2'⟩ := ho'
  exact ⟨wkE (pe_chain h1 h1' ha.pe hb.pe hc.pe hm) fun σ H Q w => le_chn (op := op) (op' := op') h2 h2' w⟩
theorem pt_chn {op op' : CmpOp} {a c d : Expr} {b3 : Bool} {tc : TEd} {r r' : D → D → (SD → Prop) → Prop} (ho : OpD X (compareOp op) r) (ho' : OpD X (compareOp op') r') (ha : PD X a b1 ta) (hb : PD X c b2 tb) (hc : PD X d b3 tc)
    (hm : lastMarks [op, op'] [c, d] = false := by with_unfolding_all rfl) : PTd X (.Compare a [op, op'] [c, d] pos) (b1 && (b2 && b3)) (tst (chn r r' ta tb tc)) := by
  obtain ⟨rH, h1, h2⟩ := ho
  obtain ⟨rH', h1', h2'⟩ := ho'
  exact ⟨wkT (pt_chain h1 h1' ha.pe hb.pe hc.pe hm) fun σ H Q w => le_chn (op := op) (op' := op') h2 h2' (le_tst w)⟩
end
end DL
set_option Elab.async false
set_option linter.all false
set_option maxRecDepth 100000
namespace DL
open PySem PySem.Spec PyProof.Rows L2

/-! ### arguments, displays -/
def anil : TAd := fun env Q => Q [] env
def acons (ta : TEd) (tr : TAd) : TAd := fun env Q => ta env fun x e => tr e fun xs e2 => Q (x :: xs) e2
section
variable {X : Cx} {pos : Pos} {e a : Expr} {es : List Expr} {b b1 b2 : Bool} {te ta tb : TEd} {tr : TAd}
theorem pa_nild : PAd X [] true anil := by
  refine ⟨wkA pa_nil fun σ H Q w => ?_⟩
  obtain ⟨C, Hf, env, fp, R, r, t, k⟩ := w
  exact k [] env [] H Hf fp Ext.rfl (fun _ => Ext.rfl) r .nil t
theorem pa_consd (ha : PD X e b1 ta) (hr : PAd X es b2 tr) (hs : starEach (e :: es) X.env = (false, eval e X.env) :: starEach es X.env := by rfl) : PAd X (e :: es) (b1 && b2) (acons ta tr) := by
  refine ⟨wkA (pa_cons ha.pe hr.pa hs) fun σ H Q w => ?_⟩
  obtain ⟨C, Hf, env, fp, R, r, t, k⟩ := w
  refine le_one (b := b1) r t fun x env1 v H1 Hf1 fp1 e1 q1 r1 p1 h1 => ?_
  refine la_of r1 h1 fun xs env2 vs H2 Hf2 fp2 e2 q2 r2 p2 h2 => ?_
  exact k (x :: xs) env2 (v :: vs) H2 Hf2 fp2 (e1.trans e2) (q1.trans q2) r2 (.cons (p1.ext e2) p2) h2
/-- a tuple, a list of one's own -/
def tupE (tr : TAd) : TEd := fun env Q => tr env fun xs e => xs.length ≤ sizeLine ∧ Q (.f, .tup (xs.map (·.2))) e
def lstE (tr : TAd) : TEd := fun env Q => tr env fun xs e => xs.length ≤ sizeLine ∧ Q (.o .f, .lst (xs.map (·.2))) e
theorem pd_tup {x1} (h : PAd X es b tr) : PD X (.Tuple es x1 pos) b (tupE tr) := by
  refine ⟨wkE (pe_tup h.pa) fun σ H Q w => ?_⟩
  obtain ⟨C, Hf, env, fp, R, r, t, k⟩ := w
  refine la_of r t fun xs env1 vs H1 Hf1 fp1 e1 q1 r1 p1 h1 => ⟨by rw [p1.len, List.length_map]; exact h1.1, fun p hp => ?_⟩
  have k1 : Res X.K C Hf1 env1 σ H1 fp1 (fun z => z = (.f, .tup (xs.map (·.2)))) Q := fun sd v H' Hf' fv e2 q2 r2 p2 ap2 z => by
    subst z
    exact k _ env1 v H' Hf' fp1 fv (e1.trans e2) (fun z => (q1 z).trans q2) r2 p2 ap2 h1.2
  exact k1.newT r1 p1 rfl hp
theorem pd_lst (h : PAd X es b tr) : PD X (.List es pos) b (lstE tr) := by
  refine ⟨wkE (pe_lst h.pa) fun σ H Q w => ?_⟩
  obtain ⟨C, Hf, env, fp, R, r, t, k⟩ := w
  refine la_of r t fun xs env1 vs H1 Hf1 fp1 e1 q1 r1 p1 h1 => ⟨by rw [p1.len, List.length_map]; exact h1.1, fun p hp => ?_⟩
  have k1 : Res X.K C Hf1 env1 σ H1 fp1 (fun z => z = (.o .f, .lst (xs.map (·.2)))) Q := fun sd v H' Hf' fv e2 q2 r2 p2 ap2 z => by
    subst z
    exact k _ env1 v H' Hf' fp1 fv (e1.trans e2) (fun z => (q1 z).trans q2) r2 p2 ap2 h1.2
  exact k1.newL r1 p1 rfl hp
/-- {} -/
def dctE : TEd := fun env Q => Q (.o .f, .dct []) env
theorem pd_dct : PD X (.Dict [] [] pos) true dctE := by
  refine ⟨wkE pe_dnewK fun σ H Q w => ?_⟩
  obtain ⟨C, Hf, env, fp, R, r, t, k⟩ := w
  intro p hp
  exact k (.o .f, .dct []) env _ _ Hf fp [p] Ext.rfl (fun _ => Ext.upd hp) (r.alloc hp) (.dk upd_same .nil) (r.apart hp) t
end

/-! ### built-ins called by name -/
def CallD (X : Cx) (f : Value) (r : List D → (SD → Prop) → Prop) : Prop :=
  ∃ rH, CallR X f rH ∧ ∀ (C : Ct) (Hf : Hp) (env : Env) (σ : Slots) (H : Hp) (fp : List Addr) (vs : List V) (ds : List D) (kp : SD → Prop) (Q : VK),
    Rel X.K C Hf env σ H fp → Reps X.K Hf vs ds → r ds kp → Res X.K C Hf env σ H fp kp Q → rH vs H Q
def bc (r : List D → (SD → Prop) → Prop) (tr : TAd) : TEd := fun env Q => tr env fun xs e => r (xs.map (·.2)) fun z => Q z e
section
variable {X : Cx} {pos : Pos} {e a : Expr} {es : List Expr} {b b1 b2 : Bool} {te ta tb : TEd} {tr : TAd} {r : List D → (SD → Prop) → Prop}
theorem le_bc {rH : List V → Hp → VK → Prop} {σ : Slots} {H : Hp} {Q : VK} (ho : ∀ (C : Ct) (Hf : Hp) (env : Env) (σ : Slots) (H : Hp) (fp : List Addr) (vs : List V) (ds : List D) (kp : SD → Prop) (Q : VK),
    Rel X.K C Hf env σ H fp → Reps X.K Hf vs ds → r ds kp → Res X.K C Hf env σ H fp kp Q → rH vs H Q)
    (w : LE X.K b (bc r tr) σ H Q) : tCB rH (LA X.K b tr) σ H Q := by
  obtain ⟨C, Hf, env, fp, R, rl, t, k⟩ := w
  refine la_of rl t fun xs env1 vs H1 Hf1 fp1 e1 q1 r1 p1 h1 => ?_
  exact ho C Hf1 env1 σ H1 fp1 vs _ _ Q r1 p1 h1 fun sd u H' Hf' fv e3 q3 r3 p3 ap3 h3 => k sd env1 u H' Hf' fp1 fv (e1.trans e3) (fun z => (q1 z).trans q3) r3 p3 ap3 h3
theorem pd_bc {x : Str} {id : String} {p : Pos} (hc : CallD X (.builtin id) r) (hg : Gl X x) (hm : X.mg x = none) (hv : bootBuiltins x = some (.builtin id)) (ha : PAd X (e :: es) b tr) (hn : x ≠ "__name__" := by decide) (hdb : (x == ("__debug__" : Str)) = false := by decide)
    (he : starEach (e :: es) X.env = (false, eval e X.env) :: starEach es X.env := by rfl) (hpl : (backTo pos (starEach es X.env)).any (·.1) = false := by rfl) : PD X (.Call (.Name x p) (e :: es) [] pos) b (bc r tr) := by
  obtain ⟨rH, h1, h2⟩ := hc
  exact ⟨wkE (pe_callB h1 hg hm hv ha.pa hn hdb he hpl) fun σ H Q w => le_bc h2 w⟩
theorem pd_bt {x : Str} {T : String} {p : Pos} (hc : CallD X (.type T) r) (hg : Gl X x) (hm : X.mg x = none) (hv : bootBuiltins x = some (.type T)) (ha : PAd X (e :: es) b tr) (hn : x ≠ "__name__" := by decide) (hdb : (x == ("__debug__" : Str)) = false := by decide)
    (he : starEach (e :: es) X.env = (false, eval e X.env) :: starEach es X.env := by rfl) (hpl : (backTo pos (starEach es X.env)).any (·.1) = false := by rfl) : PD X (.Call (.Name x p) (e :: es) [] pos) b (bc r tr) := by
  obtain ⟨rH, h1, h2⟩ := hc
  exact ⟨wkE (pe_callTy h1 hg hm hv ha.pa hn hdb he hpl) fun σ H Q w => le_bc h2 w⟩
end
/-- a list's items -/
def lstOf : D → Option (List D)
  | .lst xs => some xs
  | .ro xs => some xs
  | _ => none
def seqOf : D → Option (List D)
  | .lst xs => some xs
  | .ro xs => some xs
  | .tup xs => some xs
  | _ => none
def toInt : D → Int
  | .int i => i
  | _ => 0
def isInt : D → Bool
  | .int _ => true
  | _ => false
def toBl : D → Bool
  | .bl b => b
  | _ => false
def isBl : D → Bool
  | .bl _ => true
  | _ => false
theorem ints_eq {ds : List D} (h : ds.all isInt = true) : (ds.map toInt).map D.int = ds := by
  induction ds with
  | nil => rfl
  | cons d ds ih =>
    simp only [List.all_cons, Bool.and_eq_true] at h
    rw [List.map_cons, List.map_cons, ih h.2]
    cases d <;> first | rfl | cases h.1
theorem bls_eq {ds : List D} (h : ds.all isBl = true) : (ds.map toBl).map D.bl = ds := by
  induction ds with
  | nil => rfl
  | cons d ds ih =>
    simp only [List.all_cons, Bool.and_eq_true] at h
    rw [List.map_cons, List.map_cons, ih h.2]
    cases d <;> first | rfl | cases h.1
section
variable {X : Cx} {K : PySem.W.Frag} {C : Ct} {Hf H : Hp} {env : Env} {σ : Slots} {fp : List Addr}
theorem Rel.lst (r : Rel K C Hf env σ H fp) {v : V} {d : D} {ds : List D} (p : Rep K Hf v d) (h : lstOf d = some ds) : ∃ a vs, v = .ref a ∧ SqL K H a vs ∧ Reps K Hf vs ds := by
  cases d <;> first | cases h | skip
  · obtain ⟨a, vs, rfl, h1, p1⟩ := p.lst_inv
    exact ⟨a, vs, rfl, SqL.of (r.fz.at h1 rfl), p1⟩
  · obtain ⟨a, vs, rfl, h1, p1⟩ := p.ro_inv
    exact ⟨a, vs, rfl, SqL.fz r.fz h1, p1⟩
theorem Rel.seq (r : Rel K C Hf env σ H fp) {v : V} {d : D} {ds : List D} (p : Rep K Hf v d) (h : seqOf d = some ds) : ∃ a vs, v = .ref a ∧ (SqL K H a vs ∨ SqT K H a vs) ∧ Reps K Hf vs ds := by
  cases d <;> first | cases h | skip
  · obtain ⟨a, vs, rfl, h1, p1⟩ := p.tup_inv
    exact ⟨a, vs, rfl, .inr (SqT.fz r.fz h1), p1⟩
  · obtain ⟨a, vs, rfl, h1, p1⟩ := p.lst_inv
    exact ⟨a, vs, rfl, .inl (SqL.of (r.fz.at h1 rfl)), p1⟩
  · obtain ⟨a, vs, rfl, h1, p1⟩ := p.ro_inv
    exact ⟨a, vs, rfl, .inl (SqL.fz r.fz h1), p1⟩
theorem Reps.one {vs : List V} {d : D} (p : Reps K Hf vs [d]) : ∃ v, vs = [v] ∧ Rep K Hf v d := by
  cases p with
  | cons h r => cases r; exact ⟨_, rfl, h⟩
theorem Reps.two {vs : List V} {d d' : D} (p : Reps K Hf vs [d, d']) : ∃ v w, vs = [v, w] ∧ Rep K Hf v d ∧ Rep K Hf w d' := by
  cases p with
  | cons h r => obtain ⟨w, rfl, h2⟩ := r.one; exact ⟨_, _, rfl, h, h2⟩

/-- len -/
def rLen : List D → (SD → Prop) → Prop
  | [.str x], k => x.length ≤ sizeLine ∧ k (.f, .int x.length)
  | [.dct kvs], k => k (.f, .int kvs.length)
  | [.lst xs], k => k (.f, .int xs.length)
  | [.ro xs], k => k (.f, .int xs.length)
  | [.tup xs], k => k (.f, .int xs.length)
  | _, _ => False
theorem call_lenR : CallR X (.builtin "len") (fun xs H Q => ∃ a kvs, xs = [V.ref a] ∧ Rd H a (.dK kvs) ∧ Q (.int kvs.length) H) := by
  intro pins s σ H xs us Q I r h
  obtain ⟨a, kvs, rfl, e, q⟩ := h
  rw [Vals.ref1 r]
  exact d_len I e fun t s' I' => ⟨.int _, H, I', ⟨_, rfl⟩, q⟩
theorem RepK.len {kvs : List (Key × V)} : ∀ {ds : List (NestedKey × D)}, RepK K Hf kvs ds → kvs.length = ds.length := by
  induction kvs with
  | nil => intro ds h; cases h; rfl
  | cons p r ih =>
    intro ds h
    cases h with
    | num h q => simp [ih q]
    | text h q => simp [ih q]
theorem cd_len : CallD X (.builtin "len") rLen := by
  refine ⟨_, call_len.or (call_lenR), fun C Hf env σ H fp vs ds kp Q r p h k => ?_⟩
  cases ds with
  | nil => exact h.elim
  | cons d ds =>
    cases ds with
    | cons _ _ => cases d <;> exact h.elim
    | nil =>
      obtain ⟨v, rfl, p1⟩ := p.one
      cases d <;> first | exact h.elim | skip
      · rw [p1.str_inv]
        exact .inl ⟨_, _, rfl, ⟨h.1, rfl⟩, k.sc (d := .int _) r h.2⟩
      · obtain ⟨a, ws, rfl, s, q⟩ := r.seq p1 (ds := by assumption) rfl
        refine .inl ⟨_, ws.length, rfl, ?_, by rw [q.len]; exact k.sc (d := .int _) r h⟩
        exact s.elim (fun s => .inl ⟨_, s, rfl⟩) fun s => .inr ⟨_, s, rfl⟩
      · obtain ⟨a, ws, rfl, s, q⟩ := r.seq p1 (ds := by assumption) rfl
        refine .inl ⟨_, ws.length, rfl, ?_, by rw [q.len]; exact k.sc (d := .int _) r h⟩
        exact s.elim (fun s => .inl ⟨_, s, rfl⟩) fun s => .inr ⟨_, s, rfl⟩
      · obtain ⟨a, ws, rfl, s, q⟩ := r.seq p1 (ds := by assumption) rfl
        refine .inl ⟨_, ws.length, rfl, ?_, by rw [q.len]; exact k.sc (d := .int _) r h⟩
        exact s.elim (fun s => .inl ⟨_, s, rfl⟩) fun s => .inr ⟨_, s, rfl⟩
      · obtain ⟨a, kvs, rfl, s, q⟩ := p1.dct_inv
        exact .inr ⟨a, kvs, rfl, r.fz.rd s, by rw [q.len]; exact k.sc (d := .int _) r h⟩
/-- sum of a list or a tuple of numbers -/
def rSum : List D → (SD → Prop) → Prop
  | [d], k => match seqOf d with
    | some ds => ds.all isInt = true ∧ k (.f, .int (ds.map toInt).sum)
    | none => False
  | _, _ => False
theorem Rel.ints (r : Rel K C Hf env σ H fp) {v : V} {d : D} {ds : List D} (p : Rep K Hf v d) (h : lstOf d = some ds) (hi : ds.all isInt = true) : ∃ a, v = .ref a ∧ SqL K H a ((ds.map toInt).map V.int) := by
  obtain ⟨a, vs, rfl, s, q⟩ := r.lst p h
  rw [← ints_eq hi] at q
  rw [q.ints] at s
  exact ⟨a, rfl, s⟩
theorem Rel.intsT (r : Rel K C Hf env σ H fp) {v : V} {d : D} {ds : List D} (p : Rep K Hf v d) (h : seqOf d = some ds) (hi : ds.all isInt = true) : ∃ a, v = .ref a ∧ (SqL K H a ((ds.map toInt).map V.int) ∨ SqT K H a ((ds.map toInt).map V.int)) := by
  obtain ⟨a, vs, rfl, s, q⟩ := r.seq p h
  rw [← ints_eq hi] at q
  rw [q.ints] at s
  exact ⟨a, rfl, s⟩
theorem Rel.bls (r : Rel K C Hf env σ H fp) {v : V} {d : D} {ds : List D} (p : Rep K Hf v d) (h : lstOf d = some ds) (hi : ds.all isBl = true) : ∃ a, v = .ref a ∧ SqL K H a ((ds.map toBl).map V.bl) := by
  obtain ⟨a, vs, rfl, s, q⟩ := r.lst p h
  rw [← bls_eq hi] at q
  rw [q.bls] at s
  exact ⟨a, rfl, s⟩
theorem sum_rawT {prog : Program} {w : World} {A : Around} {E : Value → Shared → Prop} {s : Shared} {l : Addr} {its : List Value} {ns : List Int} {Q : Value → Shared → Prop} (hh : A.handled = none) (hl : IsTup s.heap l its.toArray) (hi : IntsAre its ns)
    (h : ∀ h' tk t', (∀ b o, s.heap.get? b = some o → h'.get? b = some o) → Q (.int ns.sum t') { s with heap := h', toks := tk }) : wpAny (model prog w) A (call (.builtin "sum") [.ref l]) Q E s := by
  obtain ⟨xs, e⟩ := hi.allInts.items
  have hn : numsOf (intItems xs).toList = ns := by rw [← e]; exact hi.numsOf
  rw [nums_intItems] at hn
  rw [e] at hl
  have ht : s.heap.IsTuple l (intItems xs) := hl
  have hlt : l < s.heap.objs.size := by obtain ⟨_, e, _⟩ := hl; exact Heap.lt_size e
  refine call_sum_walkG (wpAny_pyIter_tuple ht ?_)
  refine ⟨_, _, _, _, _, _, numAt xs, rfl, Walks.tuple (A := A.in1) hh _ l (Nat.ne_of_lt hlt) (intItems xs), ⟨⟨_, Heap.get?_push_size _ rfl, rfl, rfl⟩, ht.push _⟩, fun b hb => ?_, (fun _ _ => intItems_at), fun h' tk t' hk => ?_⟩
  · show b < (s.heap.push _).objs.size
    rw [Heap.size_push]
    rcases List.mem_cons.mp hb with rfl | hb
    · exact Nat.lt_succ_self _
    · rcases List.mem_cons.mp hb with rfl | hb
      · exact Nat.lt_succ_of_lt hlt
      · cases hb
  · have hk2 : ∀ b o, s.heap.get? b = some o → h'.get? b = some o := fun b o e => hk b o (by
      intro hb
      rcases List.mem_cons.mp hb with rfl | hb
      · exact Nat.lt_irrefl _ (Heap.lt_size e)
      · cases hb) (Heap.get?_push_of_some _ e)
    have := h h' tk t' hk2
    rw [show (intItems xs).size = xs.size by simp [intItems], preSum_eq, List.take_of_length_le (by simp), hn]; exact this
theorem cr_sumT (hc : X.calm = true) : CallR X (.builtin "sum") (fun vs H Q => ∃ (a : Addr) (ns : List Int), vs = [V.ref a] ∧ SqT X.K H a (ns.map V.int) ∧ Q (.int ns.sum) H) := by
  intro pins s σ H vs us Q I r h
  obtain ⟨a, ns, rfl, hs, q⟩ := h
  obtain ⟨its, rv, hl, _⟩ := I.tuple hs
  rw [Vals.ref1 r]
  exact sum_rawT (I.ok.hd hc) hl rv.ints fun h' tk t' hk => ⟨.int _, H, I.kept hk, ⟨_, rfl⟩, q⟩
theorem cd_sum (hc : X.calm = true) : CallD X (.builtin "sum") rSum := by
  refine ⟨_, (cr_sum hc).or (cr_sumT hc), fun C Hf env σ H fp vs ds kp Q r p h k => ?_⟩
  match ds, p, h with
  | [d], p, h =>
    obtain ⟨v, rfl, p1⟩ := p.one
    simp only [rSum] at h
    cases e : seqOf d with
    | none => rw [e] at h; exact h.elim
    | some es =>
      rw [e] at h
      obtain ⟨a, rfl, s⟩ := r.intsT p1 e h.1
      exact s.elim (fun s => .inl ⟨a, _, rfl, s, k.sc (d := .int _) r h.2⟩) fun s => .inr ⟨a, _, rfl, s, k.sc (d := .int _) r h.2⟩
  | [], p, h => exact h.elim
  | _ :: _ :: _, p, h => exact h.elim
/-- max, min of two numbers or of a list of numbers -/
def rMax : List D → (SD → Prop) → Prop
  | [.int i, .int j], k => k (.f, .int (if j > i then j else i))
  | [d], k => match lstOf d with
    | some ds => ds.all isInt = true ∧ ds ≠ [] ∧ ∀ m, m ∈ ds.map toInt → (∀ y, y ∈ ds.map toInt → y ≤ m) → k (.f, .int m)
    | none => False
  | _, _ => False
def rMin : List D → (SD → Prop) → Prop
  | [.int i, .int j], k => k (.f, .int (if j < i then j else i))
  | [d], k => match lstOf d with
    | some ds => ds.all isInt = true ∧ ds ≠ [] ∧ ∀ m, m ∈ ds.map toInt → (∀ y, y ∈ ds.map toInt → m ≤ y) → k (.f, .int m)
    | none => False
  | _, _ => False
theorem cd_max (hc : X.calm = true) : CallD X (.builtin "max") rMax := by
  refine ⟨_, (call_max2 hc).or (cr_max hc), fun C Hf env σ H fp vs ds kp Q r p h k => ?_⟩
  match ds, p, h with
  | [d], p, h =>
    obtain ⟨v, rfl, p1⟩ := p.one
    have h : (match lstOf d with
      | some ds => ds.all isInt = true ∧ ds ≠ [] ∧ ∀ m, m ∈ ds.map toInt → (∀ y, y ∈ ds.map toInt → y ≤ m) → kp (.f, .int m)
      | none => False) := by cases d <;> exact h
    cases e : lstOf d with
    | none => rw [e] at h; exact h.elim
    | some es =>
      rw [e] at h
      obtain ⟨a, rfl, s⟩ := r.ints p1 e h.1
      exact .inr ⟨a, _, rfl, s, by rw [List.length_map]; exact List.length_pos_iff.mpr h.2.1, fun m h1 h2 => k.sc (d := .int _) r (h.2.2 m h1 h2)⟩
  | [a, b], p, h =>
    cases a <;> cases b <;> first | exact h.elim | skip
    obtain ⟨v, w, rfl, p1, p2⟩ := p.two
    rw [p1.int_inv, p2.int_inv]
    exact .inl ⟨_, _, rfl, k.sc (d := .int _) r h⟩
  | [], p, h => exact h.elim
  | a :: b :: c :: t, p, h => cases a <;> cases b <;> exact h.elim
theorem cd_min (hc : X.calm = true) : CallD X (.builtin "min") rMin := by
  refine ⟨_, (call_min2 hc).or (cr_min hc), fun C Hf env σ H fp vs ds kp Q r p h k => ?_⟩
  match ds, p, h with
  | [d], p, h =>
    obtain ⟨v, rfl, p1⟩ := p.one
    have h : (match lstOf d with
      | some ds => ds.all isInt = true ∧ ds ≠ [] ∧ ∀ m, m ∈ ds.map toInt → (∀ y, y ∈ ds.map toInt → m ≤ y) → kp (.f, .int m)
      | none => False) := by cases d <;> exact h
    cases e : lstOf d with
    | none => rw [e] at h; exact h.elim
    | some es =>
      rw [e] at h
      obtain ⟨a, rfl, s⟩ := r.ints p1 e h.1
      exact .inr ⟨a, _, rfl, s, by rw [List.length_map]; exact List.length_pos_iff.mpr h.2.1, fun m h1 h2 => k.sc (d := .int _) r (h.2.2 m h1 h2)⟩
  | [a, b], p, h =>
    cases a <;> cases b <;> first | exact h.elim | skip
    obtain ⟨v, w, rfl, p1, p2⟩ := p.two
    rw [p1.int_inv, p2.int_inv]
    exact .inl ⟨_, _, rfl, k.sc (d := .int _) r h⟩
  | [], p, h => exact h.elim
  | a :: b :: c :: t, p, h => cases a <;> cases b <;> exact h.elim
/-- sorted of a list of numbers -/
def rSorted : List D → (SD → Prop) → Prop
  | [d], k => match lstOf d with
    | some ds => ds.all isInt = true ∧ ∀ ns : List Int, ns.Perm (ds.map toInt) → ns.Pairwise (· ≤ ·) → k (.o .f, .lst (ns.map .int))
    | none => False
  | _, _ => False
theorem cd_sorted (hc : X.calm = true) : CallD X (.builtin "sorted") rSorted := by
  refine ⟨_, cr_sortedI, fun C Hf env σ H fp vs ds kp Q r p h k => ?_⟩
  match ds, p, h with
  | [d], p, h =>
    obtain ⟨v, rfl, p1⟩ := p.one
    simp only [rSorted] at h
    cases e : lstOf d with
    | none => rw [e] at h; exact h.elim
    | some es =>
      rw [e] at h
      obtain ⟨a, rfl, s⟩ := r.ints p1 e h.1
      exact ⟨a, _, rfl, s, fun ns p h1 h2 hp => k.newL r (Reps.ofInts ns) (h.2 ns h1 h2) hp⟩
  | [], p, h => exact h.elim
  | _ :: _ :: _, p, h => exact h.elim
/-- any, all of a list of bools -/
def rAll : List D → (SD → Prop) → Prop
  | [d], k => match lstOf d with
    | some ds => ds.all isBl = true ∧ k (.f, .bl ((ds.map toBl).all id))
    | none => False
  | _, _ => False
def rAny : List D → (SD → Prop) → Prop
  | [d], k => match lstOf d with
    | some ds => ds.all isBl = true ∧ k (.f, .bl ((ds.map toBl).any id))
    | none => False
  | _, _ => False
theorem cd_all (hc : X.calm = true) : CallD X (.builtin "all") rAll := by
  refine ⟨_, cr_all hc, fun C Hf env σ H fp vs ds kp Q r p h k => ?_⟩
  match ds, p, h with
  | [d], p, h =>
    obtain ⟨v, rfl, p1⟩ := p.one
    simp only [rAll] at h
    cases e : lstOf d with
    | none => rw [e] at h; exact h.elim
    | some es =>
      rw [e] at h
      obtain ⟨a, rfl, s⟩ := r.bls p1 e h.1
      exact ⟨a, _, rfl, s, k.sc (d := .bl _) r h.2⟩
  | [], p, h => exact h.elim
  | _ :: _ :: _, p, h => exact h.elim
theorem cd_any (hc : X.calm = true) : CallD X (.builtin "any") rAny := by
  refine ⟨_, cr_any hc, fun C Hf env σ H fp vs ds kp Q r p h k => ?_⟩
  match ds, p, h with
  | [d], p, h =>
    obtain ⟨v, rfl, p1⟩ := p.one
    simp only [rAny] at h
    cases e : lstOf d with
    | none => rw [e] at h; exact h.elim
    | some es =>
      rw [e] at h
      obtain ⟨a, rfl, s⟩ := r.bls p1 e h.1
      exact ⟨a, _, rfl, s, k.sc (d := .bl _) r h.2⟩
  | [], p, h => exact h.elim
  | _ :: _ :: _, p, h => exact h.elim
/-- abs, int -/
def rAbs : List D → (SD → Prop) → Prop
  | [.int i], k => k (.f, .int (if i < 0 then -i else i))
  | _, _ => False
def rInt : List D → (SD → Prop) → Prop
  | [.int i], k => k (.f, .int i)
  | [.bl b], k => k (.f, .int (if b then 1 else 0))
  | _, _ => False
theorem cd_abs : CallD X (.builtin "abs") rAbs := by
  refine ⟨_, call_abs, fun C Hf env σ H fp vs ds kp Q r p h k => ?_⟩
  match ds, p, h with
  | [.int i], p, h =>
    obtain ⟨v, rfl, p1⟩ := p.one
    rw [p1.int_inv]
    exact ⟨_, rfl, k.sc (d := .int _) r h⟩
theorem cd_int : CallD X (.type "int") rInt := by
  refine ⟨_, call_int1, fun C Hf env σ H fp vs ds kp Q r p h k => ?_⟩
  match ds, p, h with
  | [.int i], p, h =>
    obtain ⟨v, rfl, p1⟩ := p.one
    rw [p1.int_inv]
    exact .inl ⟨_, rfl, k.sc (d := .int _) r h⟩
  | [.bl i], p, h =>
    obtain ⟨v, rfl, p1⟩ := p.one
    rw [p1.bl_inv]
    exact .inr ⟨_, rfl, k.sc (d := .int _) r h⟩
end
end DL
set_option Elab.async false
set_option linter.all false
set_option maxRecDepth 100000
namespace DL
open PySem PySem.Spec PyProof.Rows L2

/-! ### keys -/
def keyD : D → Option NestedKey
  | .int i => some (.num i)
  | .str x => some (.text x)
  | _ => none
def lookK {α : Type} (kvs : List (NestedKey × α)) (k : NestedKey) : Option α := (kvs.find? fun p => decide (p.1 = k)).map (·.2)
def putKD {α : Type} (kvs : List (NestedKey × α)) (k : NestedKey) (v : α) : List (NestedKey × α) :=
  if kvs.any (fun p => decide (p.1 = k)) then kvs.map fun p => if p.1 = k then (p.1, v) else p else kvs ++ [(k, v)]
def keyH : NestedKey → Option Key
  | .num i => some (.inl i)
  | .text x => some (.inr x)
  | _ => none
section
variable {K : PySem.W.Frag} {Hf H : Hp} {C : Ct} {env : Env} {σ : Slots} {fp fv : List Addr}
theorem keyD_v {d : D} {k : NestedKey} {v : V} (h : keyD d = some k) (p : Rep K Hf v d) : ∃ kh, keyH k = some kh ∧ v = kV kh := by
  cases d <;> first | cases h | skip
  · exact ⟨_, rfl, p.int_inv⟩
  · exact ⟨_, rfl, p.str_inv⟩
theorem keyH_inj {k j : NestedKey} {a b : Key} (h1 : keyH k = some a) (h2 : keyH j = some b) : (a = b ↔ k = j) := by
  cases k <;> cases h1 <;> cases j <;> cases h2
  · exact ⟨fun e => by rw [Sum.inl.inj e], fun e => by rw [NestedKey.num.inj e]⟩
  · exact ⟨fun e => (nomatch e), fun e => (nomatch e)⟩
  · exact ⟨fun e => (nomatch e), fun e => (nomatch e)⟩
  · exact ⟨fun e => by rw [Sum.inr.inj e], fun e => by rw [NestedKey.text.inj e]⟩
theorem RepK.find {kvs : List (Key × V)} : ∀ {ds : List (NestedKey × D)} {k : NestedKey} {kh : Key}, RepK K Hf kvs ds → keyH k = some kh →
    match lookK ds k with
    | some d => ∃ v, valV kvs kh = some v ∧ Rep K Hf v d
    | none => valV kvs kh = none := by
  induction kvs with
  | nil => intro ds k kh h e; cases h; rfl
  | cons p r ih =>
    intro ds k kh h e
    have step : ∀ {k0 : NestedKey} {a : Key} {v : V} {d : D} {s : List (NestedKey × D)}, keyH k0 = some a → Rep K Hf v d → RepK K Hf r s →
        match lookK ((k0, d) :: s) k with
        | some d => ∃ v', valV ((a, v) :: r) kh = some v' ∧ Rep K Hf v' d
        | none => valV ((a, v) :: r) kh = none := by
      intro k0 a v d s h0 hv hr
      by_cases q : k0 = k
      · have q' : a = kh := (keyH_inj h0 e).mpr q
        have e1 : lookK ((k0, d) :: s) k = some d := by simp [lookK, List.find?_cons, q]
        rw [e1]
        exact ⟨v, valV_pos q', hv⟩
      · have q' : ¬ a = kh := fun z => q ((keyH_inj h0 e).mp z)
        have e1 : lookK ((k0, d) :: s) k = lookK s k := by simp [lookK, List.find?_cons, q]
        rw [e1]
        have := ih (k := k) (kh := kh) hr e
        rw [valV_neg q']
        exact this
    cases h with
    | num hv hr => exact step rfl hv hr
    | text hv hr => exact step rfl hv hr
theorem RepK.dget {ds : List (NestedKey × D)} {kvs : List (Key × V)} {a : Addr} {k : NestedKey} {d0 : D} {v : V} (h : RepK K Hf kvs ds) (e : keyD d0 = some k) (p : Rep K Hf v d0) (rd : Rd H a (.dK kvs)) :
    match lookK ds k with
    | some d => ∃ w, DGet H a v (some w) ∧ Rep K Hf w d
    | none => DGet H a v none := by
  obtain ⟨kh, e1, rfl⟩ := keyD_v e p
  have := h.find e1
  cases q : lookK ds k with
  | none =>
    rw [q] at this
    exact .inl ⟨kvs, kh, rd, rfl, this.symm⟩
  | some d =>
    rw [q] at this
    obtain ⟨w, q1, q2⟩ := this
    exact ⟨w, .inl ⟨kvs, kh, rd, rfl, q1.symm⟩, q2⟩
theorem RepK.put {kvs : List (Key × V)} {ds : List (NestedKey × D)} {k : NestedKey} {kh : Key} {v : V} {d : D} (h : RepK K Hf kvs ds) (e : keyH k = some kh) (p : Rep K Hf v d) : RepK K Hf (putK kvs kh v) (putKD ds k d) := by
  have one : RepK K Hf [(kh, v)] [(k, d)] := by
    cases k <;> cases e
    · exact .num p .nil
    · exact .text p .nil
  have app : ∀ {kvs : List (Key × V)} {ds : List (NestedKey × D)}, RepK K Hf kvs ds → RepK K Hf (kvs ++ [(kh, v)]) (ds ++ [(k, d)]) := by
    intro kvs
    induction kvs with
    | nil => intro ds h; cases h; exact one
    | cons a r ih =>
      intro ds h
      cases h with
      | num a b => exact .num a (ih b)
      | text a b => exact .text a (ih b)
  have any : ∀ {kvs : List (Key × V)} {ds : List (NestedKey × D)}, RepK K Hf kvs ds → (kvs.any fun p => decide (p.1 = kh)) = ds.any fun p => decide (p.1 = k) := by
    intro kvs
    induction kvs with
    | nil => intro ds h; cases h; rfl
    | cons a r ih =>
      intro ds h
      cases h with
      | num a b => simp only [List.any_cons, ih b]; congr 1; exact decide_eq_decide.mpr (keyH_inj rfl e)
      | text a b => simp only [List.any_cons, ih b]; congr 1; exact decide_eq_decide.mpr (keyH_inj rfl e)
  have rep : ∀ {kvs : List (Key × V)} {ds : List (NestedKey × D)}, RepK K Hf kvs ds → RepK K Hf (kvs.map fun p => if p.1 = kh then (p.1, v) else p) (ds.map fun p => if p.1 = k then (p.1, d) else p) := by
    intro kvs
    induction kvs with
    | nil => intro ds h; cases h; exact .nil
    | cons a r ih =>
      intro ds h
      cases h with
      | @num i _ _ _ _ a b =>
        have z : (Sum.inl i : Key) = kh ↔ NestedKey.num i = k := keyH_inj rfl e
        simp only [List.map_cons]
        by_cases q : NestedKey.num i = k
        · rw [if_pos q, if_pos (z.mpr q)]; exact .num p (ih b)
        · rw [if_neg q, if_neg (fun y => q (z.mp y))]; exact .num a (ih b)
      | @text i _ _ _ _ a b =>
        have z : (Sum.inr i : Key) = kh ↔ NestedKey.text i = k := keyH_inj rfl e
        simp only [List.map_cons]
        by_cases q : NestedKey.text i = k
        · rw [if_pos q, if_pos (z.mpr q)]; exact .text p (ih b)
        · rw [if_neg q, if_neg (fun y => q (z.mp y))]; exact .text a (ih b)
  unfold putK putKD
  rw [any h]
  split
  · exact rep h
  · exact app h
end

/-! ### a[i] -/
def ixD : D → D → (SD → Prop) → Prop
  | .dct kvs, y, k => match keyD y with
    | some key => match lookK kvs key with
      | some x => k (.f, x)
      | none => False
    | none => False
  | .lst xs, .int i, k => match atI xs i with
    | some x => k (.f, x)
    | none => False
  | .ro xs, .int i, k => match atI xs i with
    | some x => k (.f, x)
    | none => False
  | .tup xs, .int i, k => match atI xs i with
    | some x => k (.f, x)
    | none => False
  | _, _, _ => False
section
variable {X : Cx} {pos : Pos} {a b : Expr} {b1 b2 : Bool} {ta tb : TEd} {K : PySem.W.Frag} {Hf H : Hp} {C : Ct} {env : Env} {σ : Slots} {fp fv : List Addr}
def rIxG : R2 := fun x y H Q => ∃ a v, x = .ref a ∧ DGet H a y (some v) ∧ Q v H
theorem ix_dict (hu : X.A.units + 1 < cLine) : IxR X rIxG := by
  intro value slice pins s σ H x y v u Q I rx ry h hs
  obtain ⟨p, r, rfl, g, q⟩ := h
  obtain rfl : v = Value.ref p := rx
  exact tail_any (dict_typeIs I g) PySem.F.slot_dict_getitem.lookup (d_getItem hu I g ry fun w' s3 I3 rw' => ⟨r, H, I3, rw', q⟩) hs
theorem atI_rep {vs : List V} {ds : List D} (p : Reps K Hf vs ds) {i : Int} {d : D} (h : atI ds i = some d) : ∃ v, atI vs i = some v ∧ Rep K Hf v d := by
  unfold atI at h ⊢
  rw [p.len]
  cases e : ixN ds.length i with
  | none => rw [e] at h; cases h
  | some j =>
    rw [e] at h
    exact p.get h
def rIxA (K : PySem.W.Frag) : R2 := fun x y H Q => rIx K x y H Q ∨ rIxG x y H Q
theorem ix_any (hu : X.A.units + 1 < cLine) : IxR X (rIxA X.K) := ix_seq.or (ix_dict hu)
/-- shared values -/
theorem ixD_ok {v w : V} {x y : D} {kp : SD → Prop} {Q : VK} (r : Rel K C Hf env σ H fp) (px : Rep K Hf v x) (py : Rep K Hf w y) (h : ixD x y kp) (k : ∀ d u, Rep K Hf u d → kp (.f, d) → Q u H) : rIxA K v w H Q := by
  have sq : ∀ {xs : List D} {i : Int}, seqOf x = some xs → y = .int i → (match atI xs i with
      | some x => kp (.f, x)
      | none => False) → rIxA K v w H Q := fun {xs i} e e2 g => by
    subst e2
    rw [py.int_inv]
    cases q : atI xs i with
    | none => rw [q] at g; exact g.elim
    | some d =>
      rw [q] at g
      obtain ⟨a, vs, rfl, s, p⟩ := r.seq px e
      obtain ⟨u, h1, h2⟩ := atI_rep p q
      rcases s with s | s
      · exact .inl (.inl ⟨a, vs, i, u, rfl, rfl, s, h1, k d u h2 g⟩)
      · exact .inl (.inr (.inl ⟨a, vs, i, u, rfl, rfl, s, h1, k d u h2 g⟩))
  cases x <;> first | exact h.elim | skip
  · cases y <;> first | exact h.elim | exact sq rfl rfl h
  · cases y <;> first | exact h.elim | exact sq rfl rfl h
  · cases y <;> first | exact h.elim | exact sq rfl rfl h
  · rename_i kvs
    have h : (match keyD y with
      | some key => match lookK kvs key with
        | some x => kp (.f, x)
        | none => False
      | none => False) := h
    cases e : keyD y with
    | none => rw [e] at h; exact h.elim
    | some key =>
      rw [e] at h
      dsimp only at h
      obtain ⟨a, ks, rfl, s, p⟩ := px.dct_inv
      have g := p.dget (H := H) e py (r.fz.rd s)
      cases q : lookK kvs key with
      | none => rw [q] at h; exact h.elim
      | some d =>
        rw [q] at h g
        obtain ⟨u, g1, g2⟩ := g
        exact .inr ⟨a, u, rfl, g1, k d u g2 h⟩
/-- an own list, dict of shared things -/
theorem ixD_own {v w : V} {x y : D} {fv : List Addr} {kp : SD → Prop} {Q : VK} (r : Rel K C Hf env σ H fp) (px : RepS K Hf H (.o .f) v x fv) (py : Rep K Hf w y) (h : ixD x y kp) (k : ∀ d u, Rep K Hf u d → kp (.f, d) → Q u H) : rIxA K v w H Q := by
  cases px with
  | @lst a vs _ ds f1 hl hr =>
    obtain ⟨p, _⟩ := hr.unflat
    cases y <;> first | exact h.elim | skip
    rename_i i
    rw [py.int_inv]
    have h : (match atI ds i with
      | some x => kp (.f, x)
      | none => False) := h
    cases q : atI ds i with
    | none => rw [q] at h; exact h.elim
    | some d =>
      rw [q] at h
      obtain ⟨u, h1, h2⟩ := atI_rep p q
      exact .inl (.inl ⟨a, vs, i, u, rfl, rfl, SqL.of hl, h1, k d u h2 h⟩)
  | @dk a ks _ ds f1 hl hr =>
    obtain ⟨p, _⟩ := hr.unflat
    have h : (match keyD y with
      | some key => match lookK ds key with
        | some x => kp (.f, x)
        | none => False
      | none => False) := h
    cases e : keyD y with
    | none => rw [e] at h; exact h.elim
    | some key =>
      rw [e] at h
      dsimp only at h
      have g := p.dget (H := H) e py (.inl hl)
      cases q : lookK ds key with
      | none => rw [q] at h; exact h.elim
      | some d =>
        rw [q] at h g
        obtain ⟨u, g1, g2⟩ := g
        exact .inr ⟨a, u, rfl, g1, k d u g2 h⟩
def ix (ta tb : TEd) : TEd := bi ixD ta tb
theorem pd_ix (hu : X.A.units + 1 < cLine) (ha : PD X a b1 ta) (hb : PD X b b2 tb) (hs : PlainIx b := by intro _ _; rfl) : PD X (.Subscript a b pos) (b1 && b2) (ix ta tb) := by
  refine ⟨wkE (pe_ix (ix_any hu) ha.pe hb.pe hs) fun σ H Q w => le_bi (r := ixD) (fun C Hf env σ H fp v w x y kp Q r px py h k => ?_) w⟩
  exact ixD_ok r px py h fun d u p q => k.val r p q
/-- one's own list or dict, or a shared one, by its name, unchanged -/
def peek (s : Sh) : Bool := match s with
  | .f => true
  | .o .f => true
  | _ => false
def ixS (i : Nat) (tb : TEd) : TEd := fun env Q => (look env i).isSome = true ∧ tb env fun y e => match look e i with
  | some (s, d) => peek s = true ∧ ixD d y.2 fun z => Q z e
  | none => False
theorem Rel.at (r : Rel K C Hf env σ H fp) {i : Nat} (h : (look env i).isSome = true) : ∃ v, σ[i]? = some (some v) := by
  cases e : look env i with
  | none => rw [e] at h; cases h
  | some sd =>
    obtain ⟨v, _, _, hv, _⟩ := r.take e
    exact ⟨v, hv⟩
theorem Rel.peek (r : Rel K C Hf env σ H fp) {i : Nat} {s : Sh} {d : D} (h : look env i = some (s, d)) {v : V} (hv : σ[i]? = some (some v)) : ∃ fv, RepS K Hf H s v d fv := by
  obtain ⟨v', fv, _, hv', rs, _⟩ := r.take h
  rw [hv] at hv'
  cases hv'
  exact ⟨fv, rs⟩
theorem pd_ixS (hu : X.A.units + 1 < cLine) {i : Nat} (ha : PE X a (tVar i)) (hb : PD X b b2 tb) (hs : PlainIx b := by intro _ _; rfl) : PD X (.Subscript a b pos) b2 (ixS i tb) := by
  refine ⟨wkE (pe_ix (ix_any hu) ha hb.pe hs) fun σ H Q w => ?_⟩
  obtain ⟨C, Hf, env, fp, R, r, ⟨t0, t⟩, k⟩ := w
  obtain ⟨v, hv⟩ := r.at t0
  refine ⟨v, hv, le_one r t fun y env1 w H1 Hf1 fp1 e1 q1 r1 p1 h1 => ?_⟩
  cases e : look env1 i with
  | none => rw [e] at h1; exact h1.elim
  | some sd =>
    obtain ⟨s, d⟩ := sd
    rw [e] at h1
    obtain ⟨fv, rs⟩ := r1.peek e hv
    have fin : ∀ d u, Rep X.K Hf1 u d → R (.f, d) env1 → Q u H1 := fun d u p q => k (.f, d) env1 u H1 Hf1 fp1 [] e1 q1 r1 (.f p) Apart.nil q
    cases s with
    | f => cases rs with | f p => exact ixD_ok r1 p p1 h1.2 fin
    | o s =>
      cases s with
      | f => exact ixD_own r1 rs p1 h1.2 fin
      | o s => cases h1.1
      | ob s => cases h1.1
    | ob s => cases h1.1
/-- len of a name -/
def lenD : D → Option Nat
  | .lst xs => some xs.length
  | .ro xs => some xs.length
  | .tup xs => some xs.length
  | .dct xs => some xs.length
  | _ => none
def lenS (i : Nat) : TEd := fun env Q => match look env i with
  | some (s, d) => peek s = true ∧ match lenD d with
    | some n => Q (.f, .int n) env
    | none => False
  | none => False
theorem pd_lenS {i : Nat} {p : Pos} (hc : X.mg "len" = none) (hg : Gl X "len") (ha : PE X a (tVar i)) (hs : starEach [a] X.env = [(false, eval a X.env)] := by rfl) : PD X (.Call (.Name "len" p) [a] [] pos) true (lenS i) := by
  refine ⟨wkE (pe_callB (call_len.or call_lenR) hg hc PySem.boot_len (pa_cons ha pa_nil hs) (by decide) (by decide) hs rfl) fun σ H Q w => ?_⟩
  obtain ⟨C, Hf, env, fp, R, r, t, k⟩ := w
  unfold lenS at t
  cases e : look env i with
  | none => rw [e] at t; exact t.elim
  | some sd =>
    obtain ⟨s, d⟩ := sd
    rw [e] at t
    obtain ⟨v, fv, fr, hv, rs, _⟩ := r.take e
    refine ⟨v, hv, ?_⟩
    obtain ⟨t1, t2⟩ := t
    have fin : ∀ n : Nat, R (.f, .int n) env → Q (.int n) H := fun n q => k (.f, .int n) env _ H Hf fp [] Ext.rfl (fun _ => Ext.rfl) r (.f (.int _)) Apart.nil q
    cases ed : lenD d with
    | none => rw [ed] at t2; exact t2.elim
    | some n =>
      rw [ed] at t2
      have go : ∀ {p : Rep X.K Hf v d}, (∃ x m, [v] = [x] ∧ LenV X.K x H m ∧ Q (.int m) H) ∨ (∃ a kvs, [v] = [V.ref a] ∧ Rd H a (.dK kvs) ∧ Q (.int kvs.length) H) := fun {p} => by
        cases d <;> first | cases ed | skip
        · obtain ⟨a, ws, rfl, s, q⟩ := r.seq p (ds := by assumption) rfl
          exact .inl ⟨_, ws.length, rfl, s.elim (fun s => .inl ⟨_, s, rfl⟩) fun s => .inr ⟨_, s, rfl⟩, by rw [q.len]; exact fin _ t2⟩
        · obtain ⟨a, ws, rfl, s, q⟩ := r.seq p (ds := by assumption) rfl
          exact .inl ⟨_, ws.length, rfl, s.elim (fun s => .inl ⟨_, s, rfl⟩) fun s => .inr ⟨_, s, rfl⟩, by rw [q.len]; exact fin _ t2⟩
        · obtain ⟨a, ws, rfl, s, q⟩ := r.seq p (ds := by assumption) rfl
          exact .inl ⟨_, ws.length, rfl, s.elim (fun s => .inl ⟨_, s, rfl⟩) fun s => .inr ⟨_, s, rfl⟩, by rw [q.len]; exact fin _ t2⟩
        · obtain ⟨a, ks, rfl, s, q⟩ := p.dct_inv
          exact .inr ⟨a, ks, rfl, r.fz.rd s, by rw [q.len]; exact fin _ t2⟩
      cases s with
      | f => cases rs with | f p => exact go (p := p)
      | ob s => cases t1
      | o s =>
        cases s with
        | o s => cases t1
        | ob s => cases t1
        | f =>
          cases rs with
          | @lst a vs _ ds f1 hl hr =>
            obtain ⟨p, _⟩ := hr.unflat
            cases ed
            exact .inl ⟨_, vs.length, rfl, .inl ⟨_, SqL.of hl, rfl⟩, by rw [p.len]; exact fin _ t2⟩
          | @dk a ks _ ds f1 hl hr =>
            obtain ⟨p, _⟩ := hr.unflat
            cases ed
            exact .inr ⟨a, ks, rfl, .inl hl, by rw [p.len]; exact fin _ t2⟩
/-! ### in -/
def inD (neg : Bool) : D → D → (SD → Prop) → Prop := fun y d k => match d with
  | .dct kvs => match keyD y with
    | some key => k (.f, .bl (neg != (lookK kvs key).isSome))
    | none => False
  | d => match seqOf d with
    | some ds => isInt y = true ∧ ds.all isInt = true ∧ k (.f, .bl (neg != (ds.map toInt).contains (toInt y)))
    | none => False
def rInG (neg : Bool) : R2 := fun y x H Q => ∃ a o, x = .ref a ∧ DGet H a y o ∧ Q (.bl (neg != o.isSome)) H
theorem op_inG (hu : X.A.units + 1 < cLine) : OpR X (compareOp .In) (rInG false) := by
  intro pins s σ H y x u v Q I ry rx h
  obtain ⟨a, o, rfl, g, q⟩ := h
  obtain rfl : v = Value.ref a := rx
  exact d_in hu I g ry fun s3 I3 => ⟨.bl o.isSome, H, I3, rfl, by simpa using q⟩
theorem op_notInG (hu : X.A.units + 1 < cLine) : OpR X (compareOp .NotIn) (rInG true) := by
  intro pins s σ H y x u v Q I ry rx h
  obtain ⟨a, o, rfl, g, q⟩ := h
  obtain rfl : v = Value.ref a := rx
  exact d_notIn hu I g ry fun s3 I3 => ⟨.bl (!o.isSome), H, I3, rfl, by simpa using q⟩
def rInA (K : PySem.W.Frag) (neg : Bool) : R2 := fun x y H Q => rIn K neg x y H Q ∨ rInG neg x y H Q
theorem op_inA (hu : X.A.units + 1 < cLine) : OpR X (compareOp .In) (rInA X.K false) := op_in_seq.or (op_inG hu)
theorem op_notInA (hu : X.A.units + 1 < cLine) : OpR X (compareOp .NotIn) (rInA X.K true) := op_notIn_seq.or (op_notInG hu)
theorem inV_ints (i : Int) (ns : List Int) : inV (.int i) (ns.map V.int) = ns.contains i := by
  unfold inV
  rw [List.any_map, List.contains_eq_any_beq]
  congr 1
  funext j
  show (j == i) = (i == j)
  exact Bool.beq_comm
theorem flat_ints (ns : List Int) : (ns.map V.int).all flatV = true := by
  induction ns with
  | nil => rfl
  | cons n ns ih => simp [flatV, ih]
theorem inA_ok {neg : Bool} {v w : V} {x y : D} {kp : SD → Prop} {Q : VK} (r : Rel K C Hf env σ H fp) (py : Rep K Hf v y) (px : Rep K Hf w x) (h : inD neg y x kp) (k : ∀ b, kp (.f, .bl b) → Q (.bl b) H) : rInA K neg v w H Q := by
  have sq : ∀ {ds : List D}, seqOf x = some ds → isInt y = true → ds.all isInt = true → kp (.f, .bl (neg != (ds.map toInt).contains (toInt y))) → rInA K neg v w H Q := fun {ds} e e1 e2 h => by
    cases y <;> first | cases e1 | skip
    rw [py.int_inv]
    obtain ⟨a, vs, rfl, s, p⟩ := r.seq px e
    rw [← ints_eq e2] at p
    rw [p.ints] at s
    refine .inl ⟨a, _, rfl, s, rfl, flat_ints _, ?_⟩
    rw [inV_ints]
    have z := k _ h
    cases neg
    · simpa [toInt] using z
    · simpa [toInt] using z
  cases x <;> first | exact h.elim | skip
  · exact sq rfl h.1 h.2.1 h.2.2
  · exact sq rfl h.1 h.2.1 h.2.2
  · exact sq rfl h.1 h.2.1 h.2.2
  · rename_i kvs
    have h : (match keyD y with
      | some key => kp (.f, .bl (neg != (lookK kvs key).isSome))
      | none => False) := h
    cases e : keyD y with
    | none => rw [e] at h; exact h.elim
    | some key =>
      rw [e] at h
      dsimp only at h
      obtain ⟨a, ks, rfl, s, p⟩ := px.dct_inv
      have g := p.dget (H := H) e py (r.fz.rd s)
      cases q : lookK kvs key with
      | none => rw [q] at h g; exact .inr ⟨a, _, rfl, g, k _ h⟩
      | some d =>
        rw [q] at h g
        obtain ⟨u, g1, _⟩ := g
        exact .inr ⟨a, _, rfl, g1, k _ h⟩
theorem inA_own {neg : Bool} {v w : V} {x y : D} {fv : List Addr} {kp : SD → Prop} {Q : VK} (r : Rel K C Hf env σ H fp) (py : Rep K Hf v y) (px : RepS K Hf H (.o .f) w x fv) (h : inD neg y x kp) (k : ∀ b, kp (.f, .bl b) → Q (.bl b) H) : rInA K neg v w H Q := by
  cases px with
  | @lst a vs _ ds f1 hl hr =>
    obtain ⟨p, _⟩ := hr.unflat
    obtain ⟨e1, e2, h⟩ : isInt y = true ∧ ds.all isInt = true ∧ kp (.f, .bl (neg != (ds.map toInt).contains (toInt y))) := h
    cases y <;> first | cases e1 | skip
    rw [py.int_inv]
    rw [← ints_eq e2] at p
    rw [p.ints] at hl
    refine .inl ⟨a, _, rfl, .inl (SqL.of hl), rfl, flat_ints _, ?_⟩
    rw [inV_ints]
    have z := k _ h
    cases neg
    · simpa [toInt] using z
    · simpa [toInt] using z
  | @dk a ks _ ds f1 hl hr =>
    obtain ⟨p, _⟩ := hr.unflat
    have h : (match keyD y with
      | some key => kp (.f, .bl (neg != (lookK ds key).isSome))
      | none => False) := h
    cases e : keyD y with
    | none => rw [e] at h; exact h.elim
    | some key =>
      rw [e] at h
      dsimp only at h
      have g := p.dget (H := H) e py (.inl hl)
      cases q : lookK ds key with
      | none => rw [q] at h g; exact .inr ⟨a, _, rfl, g, k _ h⟩
      | some d =>
        rw [q] at h g
        obtain ⟨u, g1, _⟩ := g
        exact .inr ⟨a, _, rfl, g1, k _ h⟩
theorem od_in (hu : X.A.units + 1 < cLine) : OpD X (compareOp .In) (inD false) :=
  ⟨_, op_inA hu, fun C Hf env σ H fp v w x y kp Q r px py h k => inA_ok r px py h fun b q => k.sc (d := .bl b) r q⟩
theorem od_notIn (hu : X.A.units + 1 < cLine) : OpD X (compareOp .NotIn) (inD true) :=
  ⟨_, op_notInA hu, fun C Hf env σ H fp v w x y kp Q r px py h k => inA_ok r px py h fun b q => k.sc (d := .bl b) r q⟩
/-- k in a name -/
def inS (neg : Bool) (tb : TEd) (i : Nat) : TEd := fun env Q => tb env fun y e => match look e i with
  | some (s, d) => peek s = true ∧ inD neg y.2 d fun z => Q z e
  | none => False
theorem le_inS {neg : Bool} {i : Nat} {σ : Slots} {H : Hp} {Q : VK} (w : LE X.K b2 (inS neg tb i) σ H Q) : tOp (rInA X.K neg) (LE X.K b2 tb) (tVar i) σ H Q := by
  obtain ⟨C, Hf, env, fp, R, r, t, k⟩ := w
  refine le_one r t fun y env1 w H1 Hf1 fp1 e1 q1 r1 p1 h1 => ?_
  cases e : look env1 i with
  | none => rw [e] at h1; exact h1.elim
  | some sd =>
    obtain ⟨s, d⟩ := sd
    rw [e] at h1
    obtain ⟨v, fv, fr, hv, rs, _⟩ := r1.take e
    refine ⟨v, hv, ?_⟩
    have fin : ∀ b, R (.f, .bl b) env1 → Q (.bl b) H1 := fun b q => k (.f, .bl b) env1 _ H1 Hf1 fp1 [] e1 q1 r1 (.f (.bl _)) Apart.nil q
    cases s with
    | f => cases rs with | f p => exact inA_ok r1 p1 p h1.2 fin
    | o s =>
      cases s with
      | f => exact inA_own r1 p1 rs h1.2 fin
      | o s => cases h1.1
      | ob s => cases h1.1
    | ob s => cases h1.1
theorem pd_inS (hu : X.A.units + 1 < cLine) {i : Nat} {c : Expr} (hb : PD X b b2 tb) (ha : PE X c (tVar i)) (hm : behindInMarks .In c = false := by rfl) : PD X (.Compare b [.In] [c] pos) b2 (inS false tb i) :=
  ⟨wkE (pe_cmpR (op_inA hu) hb.pe ha hm) fun σ H Q w => le_inS w⟩
theorem pd_notInS (hu : X.A.units + 1 < cLine) {i : Nat} {c : Expr} (hb : PD X b b2 tb) (ha : PE X c (tVar i)) (hm : behindInMarks .NotIn c = false := by rfl) : PD X (.Compare b [.NotIn] [c] pos) b2 (inS true tb i) :=
  ⟨wkE (pe_cmpR (op_notInA hu) hb.pe ha hm) fun σ H Q w => le_inS w⟩
theorem pt_inS (hu : X.A.units + 1 < cLine) {i : Nat} {c : Expr} (hb : PD X b b2 tb) (ha : PE X c (tVar i)) (hm : behindInMarks .In c = false := by rfl) : PTd X (.Compare b [.In] [c] pos) b2 (tst (inS false tb i)) :=
  ⟨wkT (pt_cmpR (op_inA hu) hb.pe ha hm) fun σ H Q w => le_inS (le_tst w)⟩
theorem pt_notInS (hu : X.A.units + 1 < cLine) {i : Nat} {c : Expr} (hb : PD X b b2 tb) (ha : PE X c (tVar i)) (hm : behindInMarks .NotIn c = false := by rfl) : PTd X (.Compare b [.NotIn] [c] pos) b2 (tst (inS true tb i)) :=
  ⟨wkT (pt_cmpR (op_notInA hu) hb.pe ha hm) fun σ H Q w => le_inS (le_tst w)⟩
end
end DL
set_option Elab.async false
set_option linter.all false
set_option maxRecDepth 100000
namespace DL
open PySem PySem.Spec PyProof.Rows L2

/-! ### slices -/
def cutL {α : Type} (xs : List α) (lo hi : Option Int) : List α := (xs.drop (HT.sIx xs.length 0 lo)).take (HT.sIx xs.length xs.length hi - HT.sIx xs.length 0 lo)
def slD : D → Option Int → Option Int → (SD → Prop) → Prop
  | .lst xs, lo, hi, k => k (.o .f, .lst (cutL xs lo hi))
  | .ro xs, lo, hi, k => k (.o .f, .lst (cutL xs lo hi))
  | .tup xs, lo, hi, k => k (.f, .tup (cutL xs lo hi))
  | _, _, _, _ => False
abbrev TOd := Env → (Option Int → Env → Prop) → Prop
def LO (K : PySem.W.Frag) (b : Bool) (t : TOd) : TO := fun σ H Q => ∃ (C : Ct) (Hf : Hp) (env : Env) (fp : List Addr) (R : Option Int → Env → Prop), Rel K C Hf env σ H fp ∧ t env R ∧
  ∀ (o : Option Int) (env : Env) (H' Hf' : Hp) (fp : List Addr), Ext Hf Hf' → Quiet b H H' → Rel K C Hf' env σ H' fp → R o env → Q o H'
structure POd (X : Cx) (e : Option Expr) (b : Bool) (t : TOd) : Prop where
  po : PO X e (LO X.K b t)
def onil : TOd := fun env Q => Q none env
def osm (te : TEd) : TOd := fun env Q => te env fun x e => match x.2 with
  | .int i => Q (some i) e
  | _ => False
def sl (te : TEd) (tl th : TOd) : TEd := fun env Q => te env fun x e1 => tl e1 fun l e2 => th e2 fun u e3 => slD x.2 l u fun z => Q z e3
section
variable {X : Cx} {pos p2 : Pos} {e : Expr} {lo hi : Option Expr} {b b1 b2 : Bool} {te : TEd} {tl th : TOd} {K : PySem.W.Frag} {Hf H : Hp} {C : Ct} {env : Env} {σ : Slots} {fp fv : List Addr}
theorem wkO {t t' : TO} {e : Option Expr} (h : PO X e t) (w : ∀ σ H Q, t' σ H Q → t σ H Q) : PO X e t' := ⟨fun pins s σ H Q I q => h.run pins s σ H Q I (w σ H Q q)⟩
theorem po_nild : POd X none true onil := by
  refine ⟨wkO po_none fun σ H Q w => ?_⟩
  obtain ⟨C, Hf, env, fp, R, r, t, k⟩ := w
  exact k none env H Hf fp Ext.rfl (fun _ => Ext.rfl) r t
theorem po_smd (h : PD X e b te) : POd X (some e) b (osm te) := by
  refine ⟨wkO (po_some h.pe) fun σ H Q w => ?_⟩
  obtain ⟨C, Hf, env, fp, R, r, t, k⟩ := w
  refine le_one r t fun x env' v H' Hf' fp' e q r' p h => ?_
  obtain ⟨s, d⟩ := x
  cases d <;> first | exact h.elim | skip
  exact ⟨_, p.int_inv, k _ env' H' Hf' fp' e q r' h⟩
theorem cutL_rep {vs : List V} {ds : List D} (p : Reps K Hf vs ds) (lo hi : Option Int) : Reps K Hf (cutV vs lo hi) (cutL ds lo hi) := by
  unfold cutV cutL
  rw [p.len]
  exact (p.drp _).tke _
theorem pd_sl (he : PD X e b te) (hl : POd X lo b1 tl) (hh : POd X hi b2 th) : PD X (.Subscript e (.Slice lo hi none p2) pos) (b && (b1 && b2)) (sl te tl th) := by
  refine ⟨wkE (pe_slice (sl_list.or sl_tupA) he.pe hl.po hh.po) fun σ H Q w => ?_⟩
  obtain ⟨C, Hf, env, fp, R, r, t, k⟩ := w
  refine le_one (b := b) r t fun x env1 v H1 Hf1 fp1 e1 q1 r1 p1 h1 => ?_
  refine ⟨C, Hf1, env1, fp1, _, r1, h1, fun l env2 H2 Hf2 fp2 e2 q2 r2 h2 => ?_⟩
  refine ⟨C, Hf2, env2, fp2, _, r2, h2, fun u env3 H3 Hf3 fp3 e3 q3 r3 h3 => ?_⟩
  have p3 := p1.ext (e2.trans e3)
  have k' : Res X.K C Hf3 env3 σ H3 fp3 (fun z => R z env3) Q := fun sd v H' Hf' fv e4 q4 r4 p4 ap4 h4 =>
    k sd env3 v H' Hf' fp3 fv (e1.trans (e2.trans (e3.trans e4))) (fun z => by
      simp only [Bool.and_eq_true] at z
      exact (q1 z.1).trans ((q2 z.2.1).trans ((q3 z.2.2).trans q4))) r4 p4 ap4 h4
  obtain ⟨s, d⟩ := x
  cases d <;> first | exact h3.elim | skip
  · obtain ⟨a, vs, rfl, s1, q⟩ := p3.tup_inv
    have c := cutL_rep q l u
    refine .inr ⟨a, vs, rfl, SqT.fz r3.fz s1, fun w => ?_, fun w p hp => k'.newT r3 c h3 hp⟩
    refine k'.val r3 p3 ?_
    have z : cutL (by assumption : List D) l u = (by assumption : List D) := by
      unfold cutL
      rw [q.len] at w
      rw [w.1, w.2, List.drop_zero, Nat.sub_zero, List.take_length]
    have h3' : R (.f, .tup (cutL _ l u)) env3 := h3
    rw [z] at h3'
    exact h3'
  · obtain ⟨a, vs, rfl, s1, q⟩ := p3.lst_inv
    exact .inl ⟨a, vs, rfl, SqL.of (r3.fz.at s1 rfl), fun p hp => k'.newL r3 (cutL_rep q l u) h3 hp⟩
  · obtain ⟨a, vs, rfl, s1, q⟩ := p3.ro_inv
    exact .inl ⟨a, vs, rfl, SqL.fz r3.fz s1, fun p hp => k'.newL r3 (cutL_rep q l u) h3 hp⟩
end

/-! ### list(x), tuple(x) -/
def kD : NestedKey → D
  | .num i => .int i
  | .text x => .str x
  | .none => .non
  | .tup _ => .non
def rList : List D → (SD → Prop) → Prop
  | [.lst xs], k => k (.o .f, .lst xs)
  | [.ro xs], k => k (.o .f, .lst xs)
  | [.tup xs], k => k (.o .f, .lst xs)
  | [.dct kvs], k => k (.o .f, .lst (kvs.map fun p => kD p.1))
  | _, _ => False
def rTuple : List D → (SD → Prop) → Prop
  | [.lst xs], k => k (.f, .tup xs)
  | [.ro xs], k => k (.f, .tup xs)
  | [.tup xs], k => k (.f, .tup xs)
  | _, _ => False
section
variable {X : Cx} {K : PySem.W.Frag} {Hf H : Hp}
theorem call_list_dR (hc : X.calm = true) : CallR X (.type "list") (fun xs H Q => ∃ p kvs, xs = [.ref p] ∧ Rd H p (.dK kvs) ∧ ∀ q, H q = none → Q (.ref q) (upd H q (.lst (kvs.map fun kv => kV kv.1)))) := by
  intro pins s σ H xs us Q I r h
  obtain ⟨p, kvs, e, hk, q⟩ := h
  subst e
  obtain ⟨u, eu, rx⟩ := vals1 r
  subst eu
  obtain rfl : u = Value.ref p := rx
  obtain ⟨z, lo, vs, rk, hd⟩ := (show ObjOk X.prog X.w H s.heap p (.dK kvs) from hk.ok I.hok)
  obtain ⟨ep, hat⟩ := hd.dictAt
  have hl : kvs.length = vs.length := Paired.length rk
  refine PySem.W.kdl_call (PySem.W.kdl_dict (knd := mixKind X.prog X.w) (kvs := vs) (ep := ep) lo) (I.ok.hd hc) hat (by rw [← hl]; exact z) fun h' tk acc' c' hkeep hS hacc => ?_
  refine ⟨.ref s.heap.objs.size, upd H s.heap.objs.size (.lst (kvs.map fun kv => kV kv.1)), I.laid hkeep (Nat.le_refl _) (show ObjOk X.prog X.w _ _ _ (.lst (kvs.map fun kv => kV kv.1)) from ⟨?_, acc'.toList, c', ?_, ?_⟩), rfl, q _ (I.hok.fresh (Nat.le_refl _))⟩
  · rw [List.length_map]; exact z
  · have el : acc'.toList.length = acc'.size := by simp
    refine vals_of_at (by rw [List.length_map, el, hacc.1, hl]) fun j x w h1 h2 => ?_
    obtain ⟨k, y, hky, hi⟩ := hacc.2 j w (by rw [← Array.getElem?_toList]; exact h2)
    have e1 : (kvs.map (·.1))[j]? = some k := by
      rw [KV.keys rk, List.getElem?_map, hky] <;> rfl
    have e2 : (kvs.map fun kv => kV kv.1)[j]? = some (kV k) := by
      have e3 : (kvs.map fun kv => kV kv.1) = (kvs.map (·.1)).map kV := by rw [List.map_map] <;> rfl
      rw [e3, List.getElem?_map, e1] <;> rfl
    rw [e2] at h1
    cases h1
    exact relV_key hi
  · rw [Array.toArray_toList]; exact hS
theorem RepK.keys {kvs : List (Key × V)} : ∀ {ds : List (NestedKey × D)}, RepK K Hf kvs ds → Reps K Hf (kvs.map fun kv => kV kv.1) (ds.map fun p => kD p.1) := by
  induction kvs with
  | nil => intro ds h; cases h; exact .nil
  | cons p r ih =>
    intro ds h
    cases h with
    | num h q => exact .cons (.int _) (ih q)
    | text h q => exact .cons (.str _) (ih q)
theorem cd_list (hc : X.calm = true) : CallD X (.type "list") rList := by
  refine ⟨_, call_list_of.or (call_list_dR hc), fun C Hf env σ H fp vs ds kp Q r p h k => ?_⟩
  match ds, p, h with
  | [d], p, h =>
    obtain ⟨v, rfl, p1⟩ := p.one
    cases d <;> first | exact h.elim | skip
    · obtain ⟨a, vs, rfl, s, q⟩ := r.seq p1 (ds := by assumption) rfl
      exact .inl ⟨a, vs, rfl, s, fun l hl => k.newL r q h hl⟩
    · obtain ⟨a, vs, rfl, s, q⟩ := r.seq p1 (ds := by assumption) rfl
      exact .inl ⟨a, vs, rfl, s, fun l hl => k.newL r q h hl⟩
    · obtain ⟨a, vs, rfl, s, q⟩ := r.seq p1 (ds := by assumption) rfl
      exact .inl ⟨a, vs, rfl, s, fun l hl => k.newL r q h hl⟩
    · obtain ⟨a, ks, rfl, s, q⟩ := p1.dct_inv
      exact .inr ⟨a, ks, rfl, r.fz.rd s, fun l hl => k.newL r q.keys h hl⟩
  | [], p, h => exact h.elim
  | a :: b :: t, p, h => cases a <;> exact h.elim
theorem cd_tuple : CallD X (.type "tuple") rTuple := by
  refine ⟨_, call_tuple_of, fun C Hf env σ H fp vs ds kp Q r p h k => ?_⟩
  match ds, p, h with
  | [d], p, h =>
    obtain ⟨v, rfl, p1⟩ := p.one
    cases d <;> first | exact h.elim | skip
    · obtain ⟨a, vs, rfl, s, q⟩ := p1.tup_inv
      exact ⟨a, vs, rfl, .inr ⟨SqT.fz r.fz s, k.val r p1 h⟩⟩
    · obtain ⟨a, vs, rfl, s, q⟩ := p1.lst_inv
      exact ⟨a, vs, rfl, .inl ⟨SqL.of (r.fz.at s rfl), fun l hl => k.newT r q h hl⟩⟩
    · obtain ⟨a, vs, rfl, s, q⟩ := p1.ro_inv
      exact ⟨a, vs, rfl, .inl ⟨SqL.fz r.fz s, fun l hl => k.newT r q h hl⟩⟩
  | [], p, h => exact h.elim
  | a :: b :: t, p, h => cases a <;> exact h.elim
end

/-! ### methods that change a list of one's own -/
section
variable {K : PySem.W.Frag} {Hf H : Hp} {C : Ct} {env : Env} {σ : Slots} {fp fv : List Addr}
/-- an owned object is written -/
theorem Rel.mut (r : Rel K C Hf env σ H fp) {a : Addr} {o : HO} (h1 : C.K0 a = none) (h2 : Hf a = none) (h3 : a ∉ fp) (h4 : C.G a) : Rel K C Hf env σ (upd H a o) fp := by
  refine ⟨fun b u e => ?_, fun b u e => ?_, r.gf, fun b n => ?_, r.er.to Ext.rfl fun b m => upd_ne fun z => h3 (by rw [← z]; exact m), r.nd, r.fr, r.pin⟩
  · rw [upd_ne fun z => by rw [z, h1] at e; cases e]; exact r.same b u e
  · rw [upd_ne fun z => by rw [z, h2] at e; cases e]; exact r.fz b u e
  · by_cases z : b = a
    · rw [z]; exact h4
    · rw [upd_ne z] at n; exact r.gn b n
theorem Rel.putOwn {i : Nat} (r : Rel K C Hf env σ H fp) {s0 : SD} (h : look env i = some s0) {fr : List Addr} (r1 : Rel K C Hf (putS env i none) σ H fr) {a : Addr} (hv : σ[i]? = some (some (.ref a)))
    (ap : Apart C Hf [a] fr) {s : Sh} {d : D} {o : HO} (new : RepS K Hf (upd H a o) s (.ref a) d [a]) : ∃ fp', Rel K C Hf (putS env i (some (s, d))) σ (upd H a o) fp' := by
  have m := List.mem_singleton.mpr (rfl : a = a)
  obtain ⟨f1, f2, f3⟩ := ap.fr a m
  obtain ⟨fp', h1, _⟩ := (r1.mut (o := o) f1 f2 (ap.ap a m) f3).back h hv new ap
  exact ⟨fp', h1⟩
end
/-- a method of lists: what it gives, the list behind it -/
def MtD (X : Cx) (id : String) (r : List D → List D → (D → List D → Prop) → Prop) : Prop :=
  ∃ rH, MtR X id rH ∧ ∀ (H Hf : Hp) (l : Addr) (vs ws : List V) (ds es : List D) (kp : D → List D → Prop) (Q : VK), Fz Hf H → H l = some (.lst vs) → Reps X.K Hf vs ds → Reps X.K Hf ws es → r ds es kp →
    (∀ d ds' v vs', Rep X.K Hf v d → Reps X.K Hf vs' ds' → kp d ds' → Q v (upd H l (.lst vs'))) → rH (.ref l) ws H Q
def mt (r : List D → List D → (D → List D → Prop) → Prop) (i : Nat) (tr : TAd) : TEd := fun env Q => (∃ ds, look env i = some (.o .f, .lst ds)) ∧ tr env fun es e => match look e i with
  | some (.o .f, .lst ds) => r ds (es.map (·.2)) fun d ds' => Q (.f, d) (putS e i (some (.o .f, .lst ds')))
  | _ => False
section
variable {X : Cx} {pos apos cpos : Pos} {o e : Expr} {es : List Expr} {b : Bool} {tr : TAd} {r : List D → List D → (D → List D → Prop) → Prop} {name : Str} {id : String}
theorem le_mt {rH : V → List V → Hp → VK → Prop} {i : Nat} {σ : Slots} {H : Hp} {Q : VK} (ho : ∀ (H Hf : Hp) (l : Addr) (vs ws : List V) (ds es : List D) (kp : D → List D → Prop) (Q : VK), Fz Hf H → H l = some (.lst vs) → Reps X.K Hf vs ds → Reps X.K Hf ws es → r ds es kp →
    (∀ d ds' v vs', Rep X.K Hf v d → Reps X.K Hf vs' ds' → kp d ds' → Q v (upd H l (.lst vs'))) → rH (.ref l) ws H Q)
    (w : LE X.K false (mt r i tr) σ H Q) : ∃ v, σ[i]? = some (some v) ∧ tyV X.K "list" v H ∧ LA X.K b tr σ H fun xs H2 => rH v xs H2 Q := by
  obtain ⟨C, Hf, env, fp, R, rl, ⟨⟨ds0, t0⟩, t⟩, k⟩ := w
  obtain ⟨v, fv, fr, hv, rs, _, _⟩ := rl.take t0
  cases rs with
  | @lst a vs _ ds f1 hl hr =>
    refine ⟨_, hv, .inl ⟨rfl, _, SqL.of hl⟩, la_of rl t fun xs env1 ws H1 Hf1 fp1 e1 q1 r1 p1 h1 => ?_⟩
    cases e : look env1 i with
    | none => rw [e] at h1; exact h1.elim
    | some sd =>
      rw [e] at h1
      obtain ⟨s, d⟩ := sd
      cases s <;> first | exact h1.elim | skip
      rename_i s
      cases s <;> cases d <;> first | exact h1.elim | skip
      rename_i ds1
      obtain ⟨v', fv', fr', hv', rs', r2, ap⟩ := r1.take e
      rw [hv] at hv'
      cases hv'
      cases rs' with
      | @lst _ vs1 _ _ f2 hl1 hr1 =>
        obtain ⟨p, rfl⟩ := hr1.unflat
        refine ho H1 Hf1 a vs1 ws ds1 _ _ Q r1.fz hl1 p p1 h1 fun d ds' u vs' pd ps kk => ?_
        obtain ⟨fp', r3⟩ := r1.putOwn e r2 (o := .lst vs') hv ap (.lst upd_same (RepSs.flat ps))
        exact k (.f, d) _ u _ Hf1 fp' [] e1 (fun z => nomatch z) r3 (.f pd) Apart.nil kk
theorem pd_mt (pa : PlainAttrs "list") (slot : Slot "list" name id) (hty : typeOf (.builtin id) = pure (.type "method_descriptor")) (hm : MtD X id r) {i : Nat} (ho : PE X o (tVar i)) (ha : PAd X (e :: es) b tr)
    (hbase : attributeBase o name X.env (eval o X.env) = eval o X.env := by rfl)
    (hfew : ((backTo cpos (starEach (e :: es) X.env)).all (fun x => !x.1) && (backToKw cpos (keywordEach [] X.env)).all (fun x => x.1.isSome)
      && decide ((e :: es).length + ([] : List Keyword).length + (if ([] : List Keyword).isEmpty then 0 else 1) < 30)) = true := by rfl)
    (hline : (apos.endLine == cpos.line) = true := by rfl) (hs : starEach (e :: es) X.env = (false, eval e X.env) :: starEach es X.env := by rfl) (hplain : (backTo cpos (starEach es X.env)).any (·.1) = false := by rfl) :
    PD X (.Call (.Attribute o name apos) (e :: es) [] cpos) false (mt r i tr) := by
  obtain ⟨rH, h1, h2⟩ := hm
  exact ⟨wkE (pe_bm pa slot hty h1 ho ha.pa hbase hfew hline hs hplain) fun σ H Q w => le_mt h2 w⟩
theorem pd_mt0 (pa : PlainAttrs "list") (slot : Slot "list" name id) (hty : typeOf (.builtin id) = pure (.type "method_descriptor")) (hm : MtD X id r) {i : Nat} (ho : PE X o (tVar i))
    (hbase : attributeBase o name X.env (eval o X.env) = eval o X.env := by rfl) (hline : (apos.endLine == cpos.line) = true := by rfl) : PD X (.Call (.Attribute o name apos) [] [] cpos) false (mt r i anil) := by
  obtain ⟨rH, h1, h2⟩ := hm
  refine ⟨wkE (pe_bm0 pa slot hty h1 ho hbase hline) fun σ H Q w => ?_⟩
  obtain ⟨C, Hf, env, fp, R, rl, ⟨⟨ds0, t0⟩, t⟩, k⟩ := w
  obtain ⟨v, fv, fr, hv, rs, r2, ap⟩ := rl.take t0
  cases rs with
  | @lst a vs _ ds f1 hl hr =>
    obtain ⟨p, rfl⟩ := hr.unflat
    refine ⟨_, hv, .inl ⟨rfl, _, SqL.of hl⟩, ?_⟩
    have t : (match look env i with
      | some (.o .f, .lst ds) => r ds [] fun d ds' => R (.f, d) (putS env i (some (.o .f, .lst ds')))
      | _ => False) := t
    rw [t0] at t
    refine h2 H Hf a vs [] ds0 [] _ Q rl.fz hl p .nil t fun d ds' u vs' pd ps kk => ?_
    obtain ⟨fp', r3⟩ := rl.putOwn t0 r2 (o := .lst vs') hv ap (.lst upd_same (RepSs.flat ps))
    exact k (.f, d) _ u _ Hf fp' [] Ext.rfl (fun z => nomatch z) r3 (.f pd) Apart.nil kk
def rApp : List D → List D → (D → List D → Prop) → Prop
  | ds, [y], k => ds.length < sizeLine ∧ k .non (ds ++ [y])
  | _, _, _ => False
theorem md_append : MtD X "list.append" rApp := by
  refine ⟨_, mt_append, fun H Hf l vs ws ds es kp Q z hl p q h k => ?_⟩
  match es, q, h with
  | [y], q, h =>
    obtain ⟨w, rfl, p1⟩ := q.one
    exact ⟨l, vs, w, rfl, rfl, hl, by rw [p.len]; exact h.1, k .non _ .non _ .non (p.app (.cons p1 .nil)) h.2⟩
def rExt : List D → List D → (D → List D → Prop) → Prop
  | ds, [.lst y], k => ds.length + y.length ≤ sizeLine ∧ k .non (ds ++ y)
  | _, _, _ => False
theorem md_extend : MtD X "list.extend" rExt := by
  refine ⟨_, mt_extend, fun H Hf l vs ws ds es kp Q z hl p q h k => ?_⟩
  match es, q, h with
  | [.lst y], q, h =>
    obtain ⟨w, rfl, p1⟩ := q.one
    obtain ⟨a, us, rfl, s, p2⟩ := p1.lst_inv
    exact ⟨l, a, vs, us, rfl, rfl, hl, z.at s rfl, by rw [p.len, p2.len]; exact h.1, k .non _ .non _ .non (p.app p2) h.2⟩
theorem Reps.dropLast {K : PySem.W.Frag} {A : Hp} {vs : List V} {ds : List D} (h : Reps K A vs ds) : Reps K A vs.dropLast ds.dropLast := by
  rw [List.dropLast_eq_take, List.dropLast_eq_take, h.len]
  exact h.tke _
theorem Reps.eraseIdx {K : PySem.W.Frag} {A : Hp} {vs : List V} : ∀ {ds : List D} (i : Nat), Reps K A vs ds → Reps K A (vs.eraseIdx i) (ds.eraseIdx i) := by
  induction vs with
  | nil => intro ds i h; cases h; exact .nil
  | cons v vs ih =>
    intro ds i h
    cases h with
    | cons h r =>
      cases i with
      | zero => exact r
      | succ i => exact .cons h (ih i r)
theorem Reps.set {K : PySem.W.Frag} {A : Hp} {vs : List V} {v : V} {d : D} (hv : Rep K A v d) : ∀ {ds : List D} (i : Nat), Reps K A vs ds → Reps K A (vs.set i v) (ds.set i d) := by
  induction vs with
  | nil => intro ds i h; cases h; exact .nil
  | cons v vs ih =>
    intro ds i h
    cases h with
    | cons h r =>
      cases i with
      | zero => exact .cons hv r
      | succ i => exact .cons h (ih i r)
/-- pop(), pop(i) -/
def rPop : List D → List D → (D → List D → Prop) → Prop
  | ds, [], k => match ds[ds.length - 1]? with
    | some y => k y ds.dropLast
    | none => False
  | ds, [.int i], k => match ixN ds.length i with
    | some j => match ds[j]? with
      | some y => -(2 ^ 63) ≤ i ∧ i < 2 ^ 63 ∧ k y (ds.eraseIdx j)
      | none => False
    | none => False
  | _, _, _ => False
theorem md_pop : MtD X "list.pop" rPop := by
  refine ⟨_, MtR.or mt_pop mt_popAt, fun H Hf l vs ws ds es kp Q z hl p q h k => ?_⟩
  match es, q, h with
  | [], q, h =>
    cases q
    simp only [rPop] at h
    cases e : ds[ds.length - 1]? with
    | none => rw [e] at h; exact h.elim
    | some y =>
      rw [e] at h
      obtain ⟨u, e1, p1⟩ := p.get e
      exact .inl ⟨l, vs, u, rfl, rfl, hl, by rw [p.len]; exact e1, k y _ u _ p1 p.dropLast h⟩
  | [.int i], q, h =>
    obtain ⟨w, rfl, p1⟩ := q.one
    simp only [rPop] at h
    rw [p1.int_inv]
    cases e : ixN ds.length i with
    | none => rw [e] at h; exact h.elim
    | some j =>
      rw [e] at h
      dsimp only at h
      cases e2 : ds[j]? with
      | none => rw [e2] at h; exact h.elim
      | some y =>
        rw [e2] at h
        obtain ⟨u, e3, p3⟩ := p.get e2
        exact .inr ⟨l, vs, i, j, u, rfl, rfl, hl, h.1, h.2.1, by rw [p.len]; exact (ixN_seq e).1, e3, k y _ u _ p3 (p.eraseIdx j) h.2.2⟩
/-- xs.count(n), a list of numbers (not changed) -/
def cntS (i : Nat) (tr : TAd) : TEd := fun env Q => (∃ s ds, look env i = some (s, .lst ds) ∧ peek s = true) ∧ tr env fun (es : List SD) (e : Env) => match look e i with
  | some (s, .lst ds) => peek s = true ∧ ds.all isInt = true ∧ match (es.map (·.2) : List D) with
    | [.int n] => Q (.f, .int ((ds.map toInt).count n)) e
    | _ => False
  | _ => False
theorem Rel.peekL {K : PySem.W.Frag} {Hf H : Hp} {C : Ct} {env : Env} {σ : Slots} {fp : List Addr} (r : Rel K C Hf env σ H fp) {i : Nat} {s : Sh} {ds : List D} (h : look env i = some (s, .lst ds)) (hp : DL.peek s = true) {v : V} (hv : σ[i]? = some (some v)) :
    ∃ a vs, v = .ref a ∧ H a = some (.lst vs) ∧ Reps K Hf vs ds := by
  obtain ⟨fv, rs⟩ := r.peek h hv
  cases s with
  | f =>
    cases rs with
    | f p =>
      obtain ⟨a, vs, rfl, s, q⟩ := p.lst_inv
      exact ⟨a, vs, rfl, r.fz.at s rfl, q⟩
  | ob s => cases hp
  | o s =>
    cases s with
    | o s => cases hp
    | ob s => cases hp
    | f =>
      cases rs with
      | lst hl hr => exact ⟨_, _, rfl, hl, hr.unflat.1⟩
theorem pd_cntS {X : Cx} {apos cpos : Pos} {o e : Expr} {b : Bool} {tr : TAd} {i : Nat} (ho : PE X o (tVar i)) (ha : PAd X [e] b tr)
    (hbase : attributeBase o "count" X.env (eval o X.env) = eval o X.env := by rfl)
    (hfew : ((backTo cpos (starEach [e] X.env)).all (fun x => !x.1) && (backToKw cpos (keywordEach [] X.env)).all (fun x => x.1.isSome)
      && decide ([e].length + ([] : List Keyword).length + (if ([] : List Keyword).isEmpty then 0 else 1) < 30)) = true := by rfl)
    (hline : (apos.endLine == cpos.line) = true := by rfl) (hs : starEach [e] X.env = (false, eval e X.env) :: starEach [] X.env := by rfl) (hplain : (backTo cpos (starEach [] X.env)).any (·.1) = false := by rfl) :
    PD X (.Call (.Attribute o "count" apos) [e] [] cpos) b (cntS i tr) := by
  refine ⟨wkE (pe_bm PySem.F.plainAttrs_list PySem.F.slot_list_count PySem.F.type_list_count mt_lcount ho ha.pa hbase hfew hline hs hplain) fun σ H Q w => ?_⟩
  obtain ⟨C, Hf, env, fp, R, rl, ⟨⟨s0, ds0, t0, hp0⟩, t⟩, k⟩ := w
  obtain ⟨v, fv, fr, hv, _, _, _⟩ := rl.take t0
  obtain ⟨a, vs, rfl, hl, _⟩ := rl.peekL t0 hp0 hv
  refine ⟨_, hv, .inl ⟨rfl, _, SqL.of hl⟩, la_of rl t fun xs env1 ws H1 Hf1 fp1 e1 q1 r1 p1 h1 => ?_⟩
  cases e : look env1 i with
  | none => rw [e] at h1; exact h1.elim
  | some sd =>
    rw [e] at h1
    obtain ⟨s, d⟩ := sd
    cases d <;> first | exact h1.elim | skip
    rename_i ds
    obtain ⟨hp, hi, h1⟩ := h1
    obtain ⟨a', us, ea, hl1, q⟩ := r1.peekL e hp hv
    cases ea
    generalize hx : xs.map (·.2) = es at h1 p1
    match es, h1, p1 with
    | [.int n], h1, p1 =>
      obtain ⟨w, rfl, p2⟩ := p1.one
      rw [← ints_eq hi] at q
      rw [q.ints] at hl1
      exact ⟨a, _, n, rfl, by rw [p2.int_inv], SqL.of hl1, k (.f, .int _) env1 _ H1 Hf1 fp1 [] e1 q1 r1 (.f (.int _)) Apart.nil h1⟩
end
end DL
set_option Elab.async false
set_option linter.all false
set_option maxRecDepth 100000
namespace DL
open PySem PySem.Spec PyProof.Rows L2

/-! ### blocks -/
def skp : TSd := fun D env => D.nx env
def brk : TSd := fun D env => D.bk env
def cnt : TSd := fun D env => D.ct env
def nvr : TSd := fun _ _ => False
def sq (t u : TSd) : TSd := fun D env => t { D with nx := u D } env
def drp (te : TEd) : TSd := fun D env => te env fun _ e => D.nx e
def ret (te : TEd) : TSd := fun D env => te env D.rt
def retN : TSd := fun D env => D.rt (.f, .non) env
def iff (c : TTd) (t u : TSd) : TSd := fun D env => c env fun b e => if b = true then t D e else u D e
section
variable {X : Cx} {pos : Pos} {st : Stmt} {rest : List Stmt} {t u : TSd} {e : Expr} {te : TEd} {b : Bool}
theorem ps_passd : PSd X (.Pass pos) skp := ⟨wkS ps_pass fun D σ H w => by
  obtain ⟨C, Hf, env, fp, Dd, r, t, k⟩ := w
  exact k.nx env σ H Hf fp Ext.rfl r t⟩
theorem ps_breakd : PSd X (.Break pos) brk := ⟨wkS ps_break fun D σ H w => by
  obtain ⟨C, Hf, env, fp, Dd, r, t, k⟩ := w
  exact k.bk env σ H Hf fp Ext.rfl r t⟩
theorem ps_contd : PSd X (.Continue pos) cnt := ⟨wkS ps_continue fun D σ H w => by
  obtain ⟨C, Hf, env, fp, Dd, r, t, k⟩ := w
  exact k.ct env σ H Hf fp Ext.rfl r t⟩
theorem ps_nvr : PSd X st nvr := ⟨wkS ps_never fun D σ H w => by
  obtain ⟨C, Hf, env, fp, Dd, r, t, k⟩ := w
  exact t⟩
theorem pss_nild : PSsd X [] skp := ⟨wkSs pss_nil fun D σ H w => by
  obtain ⟨C, Hf, env, fp, Dd, r, t, k⟩ := w
  exact k.nx env σ H Hf fp Ext.rfl r t⟩
theorem pss_oned (h : PSd X st t) : PSsd X [st] t := ⟨pss_one h.ps⟩
theorem pss_consd (h : PSd X st t) (k : PSsd X rest u) : PSsd X (st :: rest) (sq t u) := ⟨wkSs (pss_cons h.ps k.ps) fun D σ H w => by
  obtain ⟨C, Hf, env, fp, Dd, r, t, k⟩ := w
  exact ⟨C, Hf, env, fp, { Dd with nx := u Dd }, r, t, fun env' σ' H' Hf' fp' e r' q => ⟨C, Hf', env', fp', Dd, r', q, k.ext e⟩, k.rt, k.bk, k.ct⟩⟩
theorem ps_drp (he : PD X e b te) (hs : swapsWith e none pos.line X.env = pure false := by rfl) : PSd X (.Expr e pos) (drp te) := ⟨wkS (ps_expr he.pe hs) fun D σ H w => by
  obtain ⟨C, Hf, env, fp, Dd, r, t, k⟩ := w
  exact ⟨C, Hf, env, fp, _, r, t, fun sd env' v H' Hf' fp' fv e _ r' p ap h => k.nx env' σ H' Hf' fp' e r' h⟩⟩
theorem ps_retd (he : PD X e b te) : PSd X (.Return (some e) pos) (ret te) := ⟨wkS (ps_ret he.pe) fun D σ H w => by
  obtain ⟨C, Hf, env, fp, Dd, r, t, k⟩ := w
  exact ⟨C, Hf, env, fp, _, r, t, fun sd env' v H' Hf' fp' fv e _ r' p ap h => k.rt sd env' σ H' Hf' fp' v fv e r' p ap h⟩⟩
theorem ps_retNd : PSd X (.Return none pos) retN := ⟨wkS ps_retN fun D σ H w => by
  obtain ⟨C, Hf, env, fp, Dd, r, t, k⟩ := w
  exact k.rt (.f, .non) env σ H Hf fp _ [] Ext.rfl r (.f .non) Apart.nil t⟩
theorem ps_ifd {c : Expr} {xs ys : List Stmt} {tc : TTd} (hc : PTd X c b tc) (ha : PSsd X xs t) (hb : PSsd X ys u) : PSd X (.If c xs ys pos) (iff tc t u) := ⟨wkS (ps_if hc.pt ha.ps hb.ps) fun D σ H w => by
  obtain ⟨C, Hf, env, fp, Dd, r, t, k⟩ := w
  refine ⟨C, Hf, env, fp, _, r, t, fun c env' H' Hf' fp' e _ r' h => ?_⟩
  cases c with
  | true => exact ⟨C, Hf', env', fp', Dd, r', h, k.ext e⟩
  | false => exact ⟨C, Hf', env', fp', Dd, r', h, k.ext e⟩⟩
end

/-! ### targets, assignments -/
abbrev TGd := SD → Env → (Env → Prop) → Prop
def LG (K : PySem.W.Frag) (t : TGd) : TG := fun v σ H Q => ∃ (C : Ct) (Hf : Hp) (env : Env) (fp fv : List Addr) (sd : SD) (R : Env → Prop), Rel K C Hf env σ H fp ∧ RepS K Hf H sd.1 v sd.2 fv ∧ Apart C Hf fv fp ∧ t sd env R ∧
  ∀ (env : Env) (σ : Slots) (H' Hf' : Hp) (fp : List Addr), Ext Hf Hf' → Ext H H' → Rel K C Hf' env σ H' fp → R env → Q σ H'
structure PGd (X : Cx) (tg : Expr) (t : TGd) : Prop where
  pg : PG X tg (LG X.K t)
def gn (i : Nat) : TGd := fun sd env Q => pinned env i = false ∧ Q (env.set i (false, some sd))
abbrev TGsd := List D → Env → (Env → Prop) → Prop
def LGs (K : PySem.W.Frag) (t : TGsd) : TGs := fun vs σ H Q => ∃ (C : Ct) (Hf : Hp) (env : Env) (fp : List Addr) (ds : List D) (R : Env → Prop), Rel K C Hf env σ H fp ∧ Reps K Hf vs ds ∧ t ds env R ∧
  ∀ (env : Env) (σ : Slots) (H' Hf' : Hp) (fp : List Addr), Ext Hf Hf' → Ext H H' → Rel K C Hf' env σ H' fp → R env → Q σ H'
structure PGsd (X : Cx) (tg : List Expr) (t : TGsd) : Prop where
  pg : PGs X tg (LGs X.K t)
def gsnil : TGsd := fun ds env Q => ds = [] ∧ Q env
def gscons (t : TGd) (u : TGsd) : TGsd := fun ds env Q => match ds with
  | d :: r => t (.f, d) env fun e => u r e Q
  | [] => False
def gt (n : Nat) (t : TGsd) : TGd := fun sd env Q => match sd.2 with
  | .tup ds => ds.length = n ∧ t ds env Q
  | _ => False
section
variable {X : Cx} {pos : Pos} {K : PySem.W.Frag} {Hf H : Hp} {C : Ct} {env : Env} {σ : Slots} {fp fv : List Addr}
/-- a slot is assigned -/
theorem Rel.asg {i : Nat} {s : Sh} {d : D} {v : V} (r : Rel K C Hf env σ H fp) (hp : pinned env i = false) (p : RepS K Hf H s v d fv) (ap : Apart C Hf fv fp) : ∃ fp', Rel K C Hf (env.set i (false, some (s, d))) (σ.set i (some v)) H fp' := by
  obtain ⟨fr, r1, m, nd⟩ := r.er.drop i false
  have hl : i < env.length := by
    unfold pinned at hp
    cases e : env[i]? with
    | none => rw [e] at hp; cases hp
    | some x => exact (List.getElem?_eq_some_iff.mp e).1
  have e1 : (env.set i (false, none))[i]? = some (false, none) := List.getElem?_set_self hl
  have r2 := r1.reslot (some v) e1
  have hlσ : i < σ.length := by rw [← r.er.len]; exact hl
  obtain ⟨fp', r3, pm⟩ := r2.put (b' := false) e1 (List.getElem?_set_self hlσ) p
  rw [List.set_set] at r3
  refine ⟨fp', r.same, r.fz, r.gf, r.gn, r3, pm.nodup_iff.mpr (List.nodup_append.mpr ⟨ap.nd, nd r.nd, fun a ma b mb z => ap.ap a ma (m a (by rw [z]; exact mb))⟩), fun a ma => ?_, fun j w q => ?_⟩
  · rcases List.mem_append.mp (pm.mem_iff.mp ma) with ma | ma
    · exact ap.fr a ma
    · exact r.fr a (m a ma)
  · obtain ⟨q1, x, q2⟩ := r.pin j w q
    have ne : i ≠ j := fun z => by
      subst z
      unfold pinned at hp
      rw [q2] at hp
      cases hp
    exact ⟨by rw [List.getElem?_set_ne ne]; exact q1, x, by rw [List.getElem?_set_ne ne]; exact q2⟩
theorem wkG {t t' : TG} {e : Expr} (h : PG X e t) (w : ∀ v σ H Q, t' v σ H Q → t v σ H Q) : PG X e t' := ⟨fun pins s σ H v u Q I r q => h.run pins s σ H v u Q I r (w v σ H Q q)⟩
theorem wkGs {t t' : TGs} {e : List Expr} (h : PGs X e t) (w : ∀ v σ H Q, t' v σ H Q → t v σ H Q) : PGs X e t' := ⟨fun pins s σ H v u Q I r q => h.run pins s σ H v u Q I r (w v σ H Q q)⟩
theorem pg_n {i : Nat} {e : Expr} (h : PG X e (gName i)) : PGd X e (gn i) := ⟨wkG h fun v σ H Q w => by
  obtain ⟨C, Hf, env, fp, fv, sd, R, r, p, ap, ⟨t1, t2⟩, k⟩ := w
  obtain ⟨fp', r1⟩ := r.asg t1 p ap
  exact k _ _ H Hf fp' Ext.rfl Ext.rfl r1 t2⟩
theorem pgs_nild : PGsd X [] gsnil := ⟨wkGs pgs_nil fun v σ H Q w => by
  obtain ⟨C, Hf, env, fp, ds, R, r, p, t, k⟩ := w
  obtain ⟨e, t⟩ := t
  subst e
  cases p
  exact ⟨rfl, k env σ H Hf fp Ext.rfl Ext.rfl r t⟩⟩
theorem pgs_consd {e : Expr} {es : List Expr} {t : TGd} {u : TGsd} (h1 : PGd X e t) (h2 : PGsd X es u) (hs : (assignEach (e :: es) X.env).map (·.2) = assign e X.env :: (assignEach es X.env).map (·.2) := by rfl) : PGsd X (e :: es) (gscons t u) := ⟨wkGs (pgs_cons h1.pg h2.pg hs) fun v σ H Q w => by
  obtain ⟨C, Hf, env, fp, ds, R, r, p, t, k⟩ := w
  cases ds with
  | nil => exact t.elim
  | cons d ds =>
    cases p with
    | @cons v _ vs _ h p =>
      refine ⟨v, vs, rfl, C, Hf, env, fp, [], (.f, d), _, r, .f h, Apart.nil, t, fun env1 σ1 H1 Hf1 fp1 e1 q1 r1 h1 => ?_⟩
      exact ⟨C, Hf1, env1, fp1, ds, R, r1, p.ext e1, h1, fun env2 σ2 H2 Hf2 fp2 e2 q2 r2 h2 => k env2 σ2 H2 Hf2 fp2 (e1.trans e2) (q1.trans q2) r2 h2⟩⟩
theorem pg_t {es : List Expr} {k : Nat} {t : TGsd} {n : Nat} (hc : X.calm = true) (h : PGsd X es t) (hn : (assignEach es X.env).length = n := by rfl) (hst : (assignEach es X.env).findIdx? (·.1) = none := by rfl) : PGd X (.Tuple es k pos) (gt n t) := ⟨wkG (pg_tup hc h.pg hn hst) fun v σ H Q w => by
  obtain ⟨C, Hf, env, fp, fv, sd, R, r, p, ap, t, k⟩ := w
  obtain ⟨s, d⟩ := sd
  cases d <;> first | exact t.elim | skip
  cases p with
  | f p =>
    obtain ⟨a, vs, rfl, s, q⟩ := p.tup_inv
    exact ⟨a, vs, rfl, SqT.fz r.fz s, by rw [q.len]; exact t.1, C, Hf, env, fp, _, R, r, q, t.2, k⟩⟩
/-- target = value -/
def asg (te : TEd) (g : TGd) : TSd := fun D env => te env fun x e => g x e D.nx
theorem le_asg {te : TEd} {g : TGd} {b : Bool} {D : Ends} {σ : Slots} {H : Hp} (w : LS X.K (asg te g) D σ H) : LE X.K b te σ H fun x H1 => LG X.K g x σ H1 D.nx := by
  obtain ⟨C, Hf, env, fp, Dd, r, t, k⟩ := w
  exact ⟨C, Hf, env, fp, _, r, t, fun sd env' v H' Hf' fp' fv e _ r' p ap h => ⟨C, Hf', env', fp', fv, sd, Dd.nx, r', p, ap, h, fun env2 σ2 H2 Hf2 fp2 e2 _ r2 h2 => k.nx env2 σ2 H2 Hf2 fp2 (e.trans e2) r2 h2⟩⟩
theorem ps_asgd {tg e : Expr} {te : TEd} {g : TGd} {b : Bool} (he : PD X e b te) (hg : PGd X tg g) (hs : swapsWithSole [tg] e pos.line X.env = pure false := by rfl) (hw : swappedStores [tg] e X.env = pure none := by rfl)
    (h1 : (assignEach [tg] X.env).map (·.2) = [assign tg X.env] := by rfl) : PSd X (.Assign [tg] e pos) (asg te g) := ⟨wkS (ps_asg he.pe hg.pg hs hw h1) fun D σ H w => le_asg w⟩
/-- name = value -/
def asn (i : Nat) (te : TEd) : TSd := fun D env => te env fun x e => pinned e i = false ∧ D.nx (e.set i (false, some x))
theorem le_asn {te : TEd} {i : Nat} {b : Bool} {D : Ends} {σ : Slots} {H : Hp} (w : LS X.K (asn i te) D σ H) : LE X.K b te σ H fun x H1 => D.nx (σ.set i (some x)) H1 := by
  obtain ⟨C, Hf, env, fp, Dd, r, t, k⟩ := w
  refine ⟨C, Hf, env, fp, _, r, t, fun sd env' v H' Hf' fp' fv e _ r' p ap h => ?_⟩
  obtain ⟨fp2, r2⟩ := r'.asg h.1 p ap
  exact k.nx _ _ H' Hf' fp2 e r2 h.2
theorem ps_asnd {i : Nat} {x : Str} {e : Expr} {te : TEd} {b : Bool} {pos' : Pos} (hN : X.N.Nodup) (hi : X.N[i]? = some x) (hx : Loc X.env.scope x) (he : PD X e b te) (hs : swapsWith e (some (.Name x pos')) pos.line X.env = pure false := by rfl) (hf : X.fn x = true ∨ X.env.scope.names.lookup x = some .local := by first | exact .inl rfl | exact .inr rfl | assumption) :
    PSd X (.Assign [.Name x pos'] e pos) (asn i te) := ⟨wkS (ps_set hN hi hx he.pe hs hf) fun D σ H w => le_asn w⟩
/-- name op= value -/
def aug (r : D → D → (SD → Prop) → Prop) (i : Nat) (te : TEd) : TSd := fun D env => match look env i with
  | some (.f, d) => te env fun y e => r d y.2 fun z => pinned e i = false ∧ D.nx (e.set i (false, some z))
  | _ => False
theorem pip {op : Operator} {r : R2} (h : OpR X (inplaceOp op) r) : PIp X op r := fun pins s σ H x y v u Q I r1 r2 q => h pins s σ H x y v u Q I r1 r2 q
theorem ps_augd {i : Nat} {x : Str} {e : Expr} {te : TEd} {b : Bool} {op : Operator} {r : D → D → (SD → Prop) → Prop} {pos' : Pos} (hN : X.N.Nodup) (hi : X.N[i]? = some x) (hx : Loc X.env.scope x) (he : PD X e b te) (ho : OpD X (inplaceOp op) r) (hf : X.fn x = true ∨ X.env.scope.names.lookup x = some .local := by first | exact .inl rfl | exact .inr rfl | assumption) :
    PSd X (.AugAssign (.Name x pos') op e pos) (aug r i te) := by
  obtain ⟨rH, h1, h2⟩ := ho
  refine ⟨wkS (ps_aug hN hi hx he.pe (pip h1) hf) fun D σ H w => ?_⟩
  obtain ⟨C, Hf, env, fp, Dd, rl, t, k⟩ := w
  unfold aug at t
  cases e : look env i with
  | none => rw [e] at t; exact t.elim
  | some sd =>
    rw [e] at t
    obtain ⟨s, d⟩ := sd
    cases s <;> first | exact t.elim | skip
    obtain ⟨v, fv, fr, hv, rs, _, _⟩ := rl.take e
    cases rs with
    | f p =>
      refine ⟨v, hv, le_one rl t fun y env1 w H1 Hf1 fp1 e1 q1 r1 p1 hh => ?_⟩
      exact h2 C Hf1 env1 σ H1 fp1 v w d y.2 _ _ r1 (p.ext e1) p1 hh fun sd u H' Hf' fv e3 q3 r3 p3 ap3 h3 => by
        obtain ⟨fp2, r2⟩ := r3.asg h3.1 p3 ap3
        exact k.nx _ _ H' Hf' fp2 (e1.trans e3) r2 h3.2
theorem od_iadd : OpD X (inplaceOp .Add) (rJ fun i j => .int (i + j)) := od_J iop_add
theorem od_isub : OpD X (inplaceOp .Sub) rSub := od_J iop_sub
end

/-! ### o[i] = v -/
section
variable {X : Cx} {pos : Pos} {K : PySem.W.Frag} {Hf H : Hp} {C : Ct} {env : Env} {σ : Slots} {fp fv : List Addr}
def rSetG : TSet := fun o y v H Q => ∃ a H', o = .ref a ∧ DPut H a y v H' ∧ Q H'
theorem set_dict (hu : X.A.units + 1 < cLine) : PSet X rSetG := by
  intro pins s σ H o i v ov iv u Q I ro ri rv h
  obtain ⟨a, H', rfl, g, q⟩ := h
  obtain rfl : ov = Value.ref a := ro
  exact d_setItem hu I g ri rv fun s4 I4 => ⟨H', I4, q⟩
theorem PSet.or {r r' : TSet} (h : PSet X r) (h' : PSet X r') : PSet X (fun o i v H Q => r o i v H Q ∨ r' o i v H Q) := by
  intro pins s σ H o i v ov iv u Q I ro ri rv q
  rcases q with q | q
  · exact h pins s σ H o i v ov iv u Q I ro ri rv q
  · exact h' pins s σ H o i v ov iv u Q I ro ri rv q
/-- one's own list or dict changed at a place -/
def setD (d y v : D) (k : D → Prop) : Prop := match d with
  | .lst ds => match y with
    | .int i => match ixN ds.length i with
      | some j => k (.lst (ds.set j v))
      | none => False
    | _ => False
  | .dct kvs => match keyD y with
    | some key => kvs.length < sizeLine ∧ k (.dct (putKD kvs key v))
    | none => False
  | _ => False
def setS (tv : TEd) (i : Nat) (ty : TEd) : TSd := fun D env => tv env fun v e1 => (look e1 i).isSome = true ∧ ty e1 fun y e2 => match look e2 i with
  | some (.o .f, d) => setD d y.2 v.2 fun d' => D.nx (putS e2 i (some (.o .f, d')))
  | _ => False
theorem setD_ok {i : Nat} {d y v : D} {kp : D → Prop} {Q : Hp → Prop} {a w u : V} (r : Rel K C Hf env σ H fp) (e : look env i = some (.o .f, d)) (hv : σ[i]? = some (some a)) (py : Rep K Hf w y) (pv : Rep K Hf u v) (h : setD d y v kp)
    (k : ∀ d' H' fp', Rel K C Hf (putS env i (some (.o .f, d'))) σ H' fp' → kp d' → Q H') : rSetL a w u H Q ∨ rSetG a w u H Q := by
  obtain ⟨v', fv, fr, hv', rs, r1, ap⟩ := r.take e
  rw [hv] at hv'
  cases hv'
  cases rs with
  | @lst b vs _ ds f1 hl hr =>
    obtain ⟨p, rfl⟩ := hr.unflat
    cases y <;> first | exact h.elim | skip
    rename_i n
    rw [py.int_inv]
    have h : (match ixN ds.length n with
      | some j => kp (.lst (ds.set j v))
      | none => False) := h
    cases q : ixN ds.length n with
    | none => rw [q] at h; exact h.elim
    | some j =>
      rw [q] at h
      obtain ⟨fp', r3⟩ := r.putOwn e r1 (o := .lst (vs.set j u)) hv ap (.lst upd_same (RepSs.flat (p.set pv j)))
      exact .inl ⟨b, vs, n, j, rfl, rfl, hl, by rw [p.len]; exact q, k _ _ fp' r3 h⟩
  | @dk b ks _ ds f1 hl hr =>
    obtain ⟨p, rfl⟩ := hr.unflat
    have h : (match keyD y with
      | some key => ds.length < sizeLine ∧ kp (.dct (putKD ds key v))
      | none => False) := h
    cases q : keyD y with
    | none => rw [q] at h; exact h.elim
    | some key =>
      rw [q] at h
      obtain ⟨kh, e1, rfl⟩ := keyD_v q py
      obtain ⟨fp', r3⟩ := r.putOwn e r1 (o := .dK (putK ks kh u)) hv ap (.dk upd_same (RepSk.flat (p.put e1 pv)))
      exact .inr ⟨b, _, rfl, DPut.k hl (by rw [p.len]; exact h.1), k _ _ fp' r3 h.2⟩
theorem ps_setSd (hu : X.A.units + 1 < cLine) {i : Nat} {o y e : Expr} {b1 b2 : Bool} {tv ty : TEd} {pos' : Pos} (ho : PE X o (tVar i)) (hy : PD X y b1 ty) (he : PD X e b2 tv)
    (ha : ∀ v, assign (.Subscript o y pos') X.env v = (do
      let ov ← holding [v] (eval o X.env)
      let iv ← holding [v, ov] (eval y X.env)
      standAt pos'
      holding [v, ov, iv] (setItem ov iv v)
      release [v, ov, iv] []) := by intro _; rfl)
    (hs : swapsWithSole [.Subscript o y pos'] e pos.line X.env = pure false := by rfl) (hw : swappedStores [.Subscript o y pos'] e X.env = pure none := by rfl)
    (h1 : (assignEach [.Subscript o y pos'] X.env).map (·.2) = [assign (.Subscript o y pos') X.env] := by rfl) : PSd X (.Assign [.Subscript o y pos'] e pos) (setS tv i ty) := by
  refine ⟨wkS (ps_asg he.pe (pg_sub ho hy.pe (PSet.or set_list (set_dict hu)) ha) hs hw h1) fun D σ H w => ?_⟩
  obtain ⟨C, Hf, env, fp, Dd, r, t, k⟩ := w
  refine le_one (b := b2) r t fun v env1 u H1 Hf1 fp1 e1 q1 r1 p1 h1 => ?_
  obtain ⟨t0, h1⟩ := h1
  obtain ⟨a, hv⟩ := r1.at t0
  refine ⟨a, hv, le_one (b := b1) r1 h1 fun y env2 w H2 Hf2 fp2 e2 q2 r2 p2 h2 => ?_⟩
  cases e : look env2 i with
  | none => rw [e] at h2; exact h2.elim
  | some sd =>
    rw [e] at h2
    obtain ⟨s, d⟩ := sd
    cases s <;> first | exact h2.elim | skip
    rename_i s
    cases s <;> first | exact h2.elim | skip
    exact setD_ok r2 e hv p2 (p1.ext e2) h2 fun d' H' fp' r3 kk => k.nx _ σ H' Hf2 fp' (e1.trans e2) r3 kk
/-- xs[i] += v, d[k] += v -/
def rGetA (K : PySem.W.Frag) : V → V → Hp → VK → Prop := fun x y H Q => (∃ p xs i v, x = .ref p ∧ y = .int i ∧ SqL K H p xs ∧ atI xs i = some v ∧ Q v H) ∨ ∃ a v, x = .ref a ∧ DGet H a y (some v) ∧ Q v H
end

/-! ### while -/
def whl (c : TTd) (tb : TSd) : TSd := fun D env => ∃ W : Nat → Env → Prop, (∃ m, W m env) ∧ ∀ m env, W m env → c env fun b e => if b = true then tb { D with nx := fun e' => ∃ m', m' < m ∧ W m' e', ct := fun e' => ∃ m', m' < m ∧ W m' e', bk := D.nx } e else D.nx e
section
variable {X : Cx} {pos : Pos}
theorem ps_whl {c : Expr} {body : List Stmt} {tc : TTd} {tb : TSd} {b : Bool} (hp : PassesOwn (model X.prog X.w) X.A X.env X.xe) (hc : PTd X c b tc) (hb : PSsd X body tb) : PSd X (.While c body [] pos) (whl tc tb) := by
  refine ⟨wkS (ps_while hp hc.pt hb.ps) fun D σ H w => ?_⟩
  obtain ⟨C, Hf, env, fp, Dd, r, ⟨W, ⟨m0, w0⟩, turn⟩, k⟩ := w
  refine ⟨fun m σ H => ∃ Hf' env fp, Ext Hf Hf' ∧ Rel X.K C Hf' env σ H fp ∧ W m env, ⟨m0, Hf, env, fp, Ext.rfl, r, w0⟩, ?_⟩
  rintro m σ1 H1 ⟨Hf1, env1, fp1, e1, r1, w1⟩
  refine ⟨C, Hf1, env1, fp1, _, r1, turn m env1 w1, fun c env2 H2 Hf2 fp2 e2 q2 r2 h2 => ?_⟩
  cases c with
  | false => exact k.nx env2 σ1 H2 Hf2 fp2 (e1.trans e2) r2 h2
  | true =>
    refine ⟨fun σ' H' => ∃ Hf' env fp, Ext Hf Hf' ∧ Rel X.K C Hf' env σ' H' fp ∧ ∃ m', m' < m ∧ W m' env, fun σ' H' ⟨Hf3, env3, fp3, e3, r3, m', hm, w3⟩ => ⟨m', hm, Hf3, env3, fp3, e3, r3, w3⟩, ?_⟩
    refine ⟨C, Hf2, env2, fp2, _, r2, h2, ?_, ?_, ?_, ?_⟩
    · exact fun env3 σ3 H3 Hf3 fp3 e3 r3 h3 => ⟨Hf3, env3, fp3, e1.trans (e2.trans e3), r3, h3⟩
    · exact fun sd env3 σ3 H3 Hf3 fp3 v fv e3 r3 p3 ap3 h3 => k.rt sd env3 σ3 H3 Hf3 fp3 v fv (e1.trans (e2.trans e3)) r3 p3 ap3 h3
    · exact fun env3 σ3 H3 Hf3 fp3 e3 r3 h3 => k.nx env3 σ3 H3 Hf3 fp3 (e1.trans (e2.trans e3)) r3 h3
    · exact fun env3 σ3 H3 Hf3 fp3 e3 r3 h3 => ⟨Hf3, env3, fp3, e1.trans (e2.trans e3), r3, h3⟩
end

/-! ### for -/
/-- the iterator J gives the items ds -/
def ItOk (K : PySem.W.Frag) (need : Hp) (Hf : Hp) (J : It) (ds : List D) : Prop :=
  ∀ (C : Ct) (i : Nat) (Hf1 : Hp) (env : Env) (σ : Slots) (H : Hp) (fp : List Addr), Ext need C.K0 → Ext Hf Hf1 → Rel K C Hf1 env σ H fp →
    (ds.length ≤ i → J.stop i H) ∧ ∀ d, ds[i]? = some d → J.go i H ∧ ∀ x H2, J.yld i H x H2 → ∃ Hf2, Ext Hf1 Hf2 ∧ Ext H H2 ∧ Rel K C Hf2 env σ H2 fp ∧ Rep K Hf2 x d
abbrev TId := Env → (List D → Env → Prop) → Prop
def LI (K : PySem.W.Frag) (b : Bool) (t : TId) : TI := fun σ H R => ∃ (C : Ct) (Hf : Hp) (env : Env) (fp : List Addr) (S : List D → Env → Prop), Rel K C Hf env σ H fp ∧ t env S ∧
  ∀ (ds : List D) (env : Env) (H' Hf' : Hp) (fp : List Addr) (J : It), Ext Hf Hf' → Quiet b H H' → Rel K C Hf' env σ H' fp → ItOk K (fun _ => none) Hf' J ds → S ds env → R J H'
structure PId (X : Cx) (tg iter : Expr) (b : Bool) (t : TId) : Prop where
  pi : PI X tg iter (LI X.K b t)
def fr (it : TId) (g : TGd) (tb : TSd) : TSd := fun D env => it env fun ds e => ∃ W : Nat → Env → Prop, W 0 e ∧ (∀ i d e, ds[i]? = some d → W i e → g (.f, d) e fun e2 => tb { D with nx := W (i + 1), ct := W (i + 1), bk := D.nx } e2) ∧ ∀ e, W ds.length e → D.nx e
/-- over a list or tuple -/
def ils (te : TEd) : TId := fun env Q => te env fun x e => match seqOf x.2 with
  | some ds => Q ds e
  | none => False
def rangeD (a b : Int) : List D := (List.range (b - a).toNat).map fun i => .int (a + (i : Nat))
def irg1 (ta : TEd) : TId := fun env Q => ta env fun x e => match x.2 with
  | .int j => -(2 ^ 62) ≤ j ∧ j < 2 ^ 62 ∧ Q (rangeD 0 j) e
  | _ => False
def irg2 (ta tb : TEd) : TId := fun env Q => ta env fun x e1 => tb e1 fun y e => match x.2, y.2 with
  | .int i, .int j => (-(2 ^ 62) ≤ i ∧ i < 2 ^ 62 ∧ -(2 ^ 62) ≤ j ∧ j < 2 ^ 62) ∧ Q (rangeD i j) e
  | _, _ => False
section
variable {X : Cx} {pos : Pos} {tg : Expr} {K : PySem.W.Frag} {Hf H : Hp} {C : Ct} {env : Env} {σ : Slots} {fp fv : List Addr}
theorem wkI {t t' : TI} {e : Expr} (h : PI X tg e t) (w : ∀ σ H R, t' σ H R → t σ H R) : PI X tg e t' := ⟨fun pins s σ H R I q => h.run pins s σ H R I (w σ H R q)⟩
theorem Itl_ok {need : Hp} {a : Addr} {vs : List V} {ds : List D} (s : SqL K Hf a vs) (p : Reps K Hf vs ds) : ItOk K need Hf (Itl K a) ds := by
  intro C i Hf1 env σ H fp _ e r
  have s1 := SqL.fz r.fz (SqL.ext e s)
  refine ⟨fun h => ⟨vs, s1, by rw [p.len]; exact h⟩, fun d hd => ?_⟩
  obtain ⟨v, hv, pv⟩ := p.get hd
  refine ⟨⟨vs, v, s1, hv⟩, fun x H2 y => ?_⟩
  obtain ⟨rfl, y⟩ := y
  have e2 := y vs s1
  rw [hv] at e2
  cases e2
  exact ⟨Hf1, Ext.rfl, Ext.rfl, r, pv.ext e⟩
theorem Itt_ok {need : Hp} {a : Addr} {vs : List V} {ds : List D} (s : SqT K Hf a vs) (p : Reps K Hf vs ds) : ItOk K need Hf (Itt K a) ds := by
  intro C i Hf1 env σ H fp _ e r
  have s1 := SqT.fz r.fz (SqT.ext e s)
  refine ⟨fun h => ⟨vs, s1, by rw [p.len]; exact h⟩, fun d hd => ?_⟩
  obtain ⟨v, hv, pv⟩ := p.get hd
  refine ⟨⟨vs, v, s1, hv⟩, fun x H2 y => ?_⟩
  obtain ⟨rfl, y⟩ := y
  have e2 := y vs s1
  rw [hv] at e2
  cases e2
  exact ⟨Hf1, Ext.rfl, Ext.rfl, r, pv.ext e⟩
theorem Itr_ok {need : Hp} {lo hi : Int} : ItOk K need Hf (Itr lo (hi - lo).toNat) (rangeD lo hi) := by
  intro C i Hf1 env σ H fp _ e r
  have hl : (rangeD lo hi).length = (hi - lo).toNat := by unfold rangeD; simp
  refine ⟨fun h => by rw [hl] at h; exact h, fun d hd => ?_⟩
  have hi' : i < (hi - lo).toNat := by
    have := (List.getElem?_eq_some_iff.mp hd).1
    rw [hl] at this
    exact this
  have hd' : d = .int (lo + (i : Nat)) := by
    unfold rangeD at hd
    rw [List.getElem?_map, List.getElem?_range hi'] at hd
    exact (Option.some.inj hd).symm
  refine ⟨hi', fun x H2 y => ?_⟩
  obtain ⟨rfl, rfl⟩ := y
  subst hd'
  exact ⟨Hf1, Ext.rfl, Ext.rfl, r, .int _⟩
theorem pi_lsd {e : Expr} {te : TEd} {b : Bool} (he : PD X e b te) : PId X tg e b (fun env Q => te env fun x e => match lstOf x.2 with
    | some ds => Q ds e
    | none => False) := by
  refine ⟨wkI (pi_list he.pe) fun σ H R w => ?_⟩
  obtain ⟨C, Hf, env, fp, S, r, t, k⟩ := w
  refine le_one r t fun x env1 v H1 Hf1 fp1 e1 q1 r1 p1 h1 => ?_
  cases e : lstOf x.2 with
  | none => rw [e] at h1; exact h1.elim
  | some ds =>
    rw [e] at h1
    obtain ⟨s, d⟩ := x
    cases d <;> first | cases e | skip
    · obtain ⟨a, vs, rfl, s, q⟩ := p1.lst_inv
      exact ⟨a, rfl, ⟨vs, SqL.of (r1.fz.at s rfl)⟩, k _ env1 H1 Hf1 fp1 _ e1 q1 r1 (Itl_ok (SqL.of s) q) h1⟩
    · obtain ⟨a, vs, rfl, s, q⟩ := p1.ro_inv
      exact ⟨a, rfl, ⟨vs, SqL.fz r1.fz s⟩, k _ env1 H1 Hf1 fp1 _ e1 q1 r1 (Itl_ok s q) h1⟩
def ilst (te : TEd) : TId := fun env Q => te env fun x e => match lstOf x.2 with
    | some ds => Q ds e
    | none => False
def itup (te : TEd) : TId := fun env Q => te env fun x e => match x.2 with
    | .tup ds => Q ds e
    | _ => False
theorem pi_lst {e : Expr} {te : TEd} {b : Bool} (he : PD X e b te) : PId X tg e b (ilst te) := pi_lsd he
theorem pi_tupd {e : Expr} {te : TEd} {b : Bool} (he : PD X e b te) : PId X tg e b (itup te) := by
  refine ⟨wkI (pi_tup he.pe) fun σ H R w => ?_⟩
  obtain ⟨C, Hf, env, fp, S, r, t, k⟩ := w
  refine le_one r t fun x env1 v H1 Hf1 fp1 e1 q1 r1 p1 h1 => ?_
  obtain ⟨s, d⟩ := x
  cases d <;> first | exact h1.elim | skip
  obtain ⟨a, vs, rfl, s, q⟩ := p1.tup_inv
  exact ⟨a, rfl, ⟨vs, SqT.fz r1.fz s⟩, k _ env1 H1 Hf1 fp1 _ e1 q1 r1 (Itt_ok s q) h1⟩
theorem pi_rg1 {a : Expr} {p : Pos} {ta : TEd} {b : Bool} (hg : Gl X "range") (hm : X.mg "range" = none) (ha : PD X a b ta) (hs : starEach [a] X.env = [(false, eval a X.env)] := by rfl) : PId X tg (.Call (.Name "range" p) [a] [] pos) b (irg1 ta) := by
  refine ⟨wkI (pi_range1 hg hm (pa_consd ha pa_nild hs).pa hs) fun σ H R w => ?_⟩
  obtain ⟨C, Hf, env, fp, S, r, t, k⟩ := w
  refine la_of (b := b && true) r (R := fun xs e => match xs with
    | [x] => match x.2 with
      | .int j => -(2 ^ 62) ≤ j ∧ j < 2 ^ 62 ∧ S (rangeD 0 j) e
      | _ => False
    | _ => False) t fun xs env1 vs H1 Hf1 fp1 e1 q1 r1 p1 h1 => ?_
  match xs, h1, p1 with
  | [(s, d)], h1, p1 =>
    obtain ⟨v, rfl, p2⟩ := Reps.one p1
    cases d <;> first | exact h1.elim | skip
    rw [p2.int_inv]
    have z : Itr 0 (by assumption : Int).toNat = Itr 0 ((by assumption : Int) - 0).toNat := by rw [Int.sub_zero]
    exact ⟨_, rfl, h1.1, h1.2.1, by rw [z]; exact k _ env1 H1 Hf1 fp1 _ e1 (fun z => q1 (by rw [Bool.and_true]; exact z)) r1 Itr_ok h1.2.2⟩
theorem pi_rg2 {a c : Expr} {p : Pos} {ta tb : TEd} {b b2 : Bool} (hg : Gl X "range") (hm : X.mg "range" = none) (ha : PD X a b ta) (hb : PD X c b2 tb) (hs : starEach [a, c] X.env = [(false, eval a X.env), (false, eval c X.env)] := by rfl) (hs2 : starEach [c] X.env = [(false, eval c X.env)] := by rfl) :
    PId X tg (.Call (.Name "range" p) [a, c] [] pos) (b && b2) (irg2 ta tb) := by
  refine ⟨wkI (pi_range2 hg hm (pa_consd ha (pa_consd hb pa_nild hs2) (by rw [hs, hs2])).pa hs hs2) fun σ H R w => ?_⟩
  obtain ⟨C, Hf, env, fp, S, r, t, k⟩ := w
  refine la_of (b := b && (b2 && true)) r (R := fun xs e => match xs with
    | [x, y] => match x.2, y.2 with
      | .int i, .int j => (-(2 ^ 62) ≤ i ∧ i < 2 ^ 62 ∧ -(2 ^ 62) ≤ j ∧ j < 2 ^ 62) ∧ S (rangeD i j) e
      | _, _ => False
    | _ => False) t fun xs env1 vs H1 Hf1 fp1 e1 q1 r1 p1 h1 => ?_
  match xs, h1, p1 with
  | [(s, d), (s', d')], h1, p1 =>
    obtain ⟨v, w, rfl, p2, p3⟩ := Reps.two p1
    cases d <;> cases d' <;> first | exact h1.elim | skip
    rw [p2.int_inv, p3.int_inv]
    exact ⟨_, _, rfl, h1.1, k _ env1 H1 Hf1 fp1 _ e1 (fun z => q1 (by rw [Bool.and_true]; exact z)) r1 Itr_ok h1.2⟩
/-- the loop -/
theorem for_core {J : It} {need : Hp} {ds : List D} {D : Ends} {Dd : EndsD} {g : TGd} {tb : TSd} (hJ : ItOk K need Hf J ds) (hn : Ext need C.K0) (r : Rel K C Hf env σ H fp) (k : PostS K C Hf D Dd)
    (h : ∃ W : Nat → Env → Prop, W 0 env ∧ (∀ i d e, ds[i]? = some d → W i e → g (.f, d) e fun e2 => tb { Dd with nx := W (i + 1), ct := W (i + 1), bk := Dd.nx } e2) ∧ ∀ e, W ds.length e → Dd.nx e) :
    ∃ W : Nat → Nat → Slots → Hp → Prop, (∃ m, W 0 m σ H) ∧ ∀ i m σ H, W i m σ H →
      (J.stop i H ∧ D.nx σ H) ∨ (J.go i H ∧ ∃ N : Slots → Hp → Prop, (∀ σ' H', N σ' H' → ∃ m', m' < m ∧ W (i + 1) m' σ' H') ∧ ∀ x H', J.yld i H x H' → LG K g x σ H' fun σ2 H2 => LS K tb { D with nx := N, ct := N, bk := D.nx } σ2 H2) := by
  obtain ⟨W, w0, step, fin⟩ := h
  refine ⟨fun i m σ H => m = ds.length - i ∧ i ≤ ds.length ∧ ∃ Hf' env fp, Ext Hf Hf' ∧ Rel K C Hf' env σ H fp ∧ W i env, ⟨_, rfl, Nat.zero_le _, Hf, env, fp, Ext.rfl, r, w0⟩, ?_⟩
  rintro i m σ1 H1 ⟨rfl, hi, Hf1, env1, fp1, e1, r1, w1⟩
  obtain ⟨J1, J2⟩ := hJ C i Hf1 env1 σ1 H1 fp1 hn e1 r1
  by_cases hlt : i < ds.length
  · obtain ⟨d, hd⟩ : ∃ d, ds[i]? = some d := ⟨ds[i], by simp [hlt]⟩
    obtain ⟨go, yl⟩ := J2 d hd
    refine .inr ⟨go, fun σ' H' => ∃ Hf' env fp, Ext Hf Hf' ∧ Rel K C Hf' env σ' H' fp ∧ W (i + 1) env, fun σ' H' ⟨Hf2, env2, fp2, e2, r2, w2⟩ => ⟨_, by omega, rfl, hlt, Hf2, env2, fp2, e2, r2, w2⟩, fun x H2 y => ?_⟩
    obtain ⟨Hf2, e2, _, r2, p2⟩ := yl x H2 y
    refine ⟨C, Hf2, env1, fp1, [], (.f, d), _, r2, .f p2, Apart.nil, step i d env1 hd w1, fun env3 σ3 H3 Hf3 fp3 e3 _ r3 h3 => ?_⟩
    have e13 : Ext Hf Hf3 := e1.trans (e2.trans e3)
    exact ⟨C, Hf3, env3, fp3, _, r3, h3, fun env4 σ4 H4 Hf4 fp4 e4 r4 h4 => ⟨Hf4, env4, fp4, e13.trans e4, r4, h4⟩, fun sd env4 σ4 H4 Hf4 fp4 v fv e4 r4 p4 ap4 h4 => k.rt sd env4 σ4 H4 Hf4 fp4 v fv (e13.trans e4) r4 p4 ap4 h4,
      fun env4 σ4 H4 Hf4 fp4 e4 r4 h4 => k.nx env4 σ4 H4 Hf4 fp4 (e13.trans e4) r4 h4, fun env4 σ4 H4 Hf4 fp4 e4 r4 h4 => ⟨Hf4, env4, fp4, e13.trans e4, r4, h4⟩⟩
  · have e : i = ds.length := by omega
    subst e
    exact .inl ⟨J1 (Nat.le_refl _), k.nx env1 σ1 H1 Hf1 fp1 e1 r1 (fin env1 w1)⟩
theorem ps_frd {iter : Expr} {body : List Stmt} {it : TId} {g : TGd} {tb : TSd} {b : Bool} (hp : PassesOwn (model X.prog X.w) X.A X.env X.xe) (hc : X.calm = true) (hi : PId X tg iter b it) (hg : PGd X tg g) (hb : PSsd X body tb)
    (hs : ∀ x, foldedSetIterable iter X.env x = pure x := by intro _; rfl) : PSd X (.For tg iter body [] pos) (fr it g tb) := by
  refine ⟨wkS (ps_for hp hc hi.pi hg.pg hb.ps hs) fun D σ H w => ?_⟩
  obtain ⟨C, Hf, env, fp, Dd, r, t, k⟩ := w
  exact ⟨C, Hf, env, fp, _, r, t, fun ds env1 H1 Hf1 fp1 J e1 q1 r1 hJ h1 => for_core hJ (fun _ _ z => nomatch z) r1 (k.ext e1) h1⟩

/-! ### over a dict's keys, by its name -/
def keysD (kvs : List (NestedKey × D)) : List D := kvs.map fun p => kD p.1
def frk (i : Nat) (g : TGd) (tb : TSd) : TSd := fun D env => rd i env fun x e => match x.2 with
  | .dct kvs => ∃ W : Nat → Env → Prop, W 0 e ∧ (∀ n d e, (keysD kvs)[n]? = some d → W n e → g (.f, d) e fun e2 => tb { D with nx := W (n + 1), ct := W (n + 1), bk := D.nx } e2) ∧ ∀ e, W (keysD kvs).length e → D.nx e
  | _ => False
def lockC (C : Ct) (d : Addr) (o : Obj) (u : HO) : Ct := { C with K0 := fun a => if a = d then some (.frz o u) else C.K0 a }
theorem lock_need (C : Ct) (d : Addr) (o : Obj) (u : HO) : Ext (fun a => if a = d then some (.frz o u) else none) (lockC C d o u).K0 := fun a w e => by
  show (if a = d then some (HO.frz o u) else C.K0 a) = some w
  dsimp only at e
  by_cases z : a = d
  · rw [if_pos z] at e ⊢; exact e
  · rw [if_neg z] at e; cases e
theorem Rel.lock {d : Addr} {u : HO} (r : Rel K C Hf env σ H fp) (hf : Hf d = some u) (hi : isD u = true) (h : H d = some u) (o : Obj) : Rel K (lockC C d o u) Hf env σ (upd H d (.frz o u)) fp := by
  have nfp : ∀ a, a ∈ fp → a ≠ d := fun a m z => by have := (r.fr a m).2.1; rw [z, hf] at this; cases this
  refine ⟨fun a w e => ?_, fun a w e => ?_, r.gf, fun a n => ?_, r.er.to Ext.rfl fun a m => upd_ne (nfp a m), r.nd, fun a m => ⟨?_, (r.fr a m).2⟩, r.pin⟩
  · have e : (if a = d then some (HO.frz o u) else C.K0 a) = some w := e
    by_cases z : a = d
    · subst z; rw [if_pos rfl] at e; rw [upd_same]; exact e
    · rw [if_neg z] at e; rw [upd_ne z]; exact r.same a w e
  · by_cases z : a = d
    · subst z; rw [hf] at e; cases e; exact .inr ⟨hi, o, upd_same⟩
    · rw [upd_ne z]; exact r.fz a w e
  · by_cases z : a = d
    · subst z; rw [upd_same] at n; cases n
    · rw [upd_ne z] at n; exact r.gn a n
  · show (if a = d then some (HO.frz o u) else C.K0 a) = none
    rw [if_neg (nfp a m)]; exact (r.fr a m).1
theorem Rel.unlock {d : Addr} {u : HO} {o : Obj} (r : Rel K (lockC C d o u) Hf env σ H fp) (hf : Hf d = some u) (h0 : ∀ w, C.K0 d = some w → w = u) : H d = some (.frz o u) ∧ Rel K C Hf env σ (upd H d u) fp := by
  have nfp : ∀ a, a ∈ fp → a ≠ d := fun a m z => by have := (r.fr a m).2.1; rw [z, hf] at this; cases this
  have hd : H d = some (.frz o u) := r.same d _ (by show (if d = d then some (HO.frz o u) else C.K0 d) = _; rw [if_pos rfl])
  refine ⟨hd, fun a w e => ?_, fun a w e => ?_, r.gf, fun a n => ?_, r.er.to Ext.rfl fun a m => upd_ne (nfp a m), r.nd, fun a m => ⟨?_, (r.fr a m).2⟩, r.pin⟩
  · by_cases z : a = d
    · subst z; rw [h0 w e, upd_same]
    · rw [upd_ne z]; exact r.same a w (by show (if a = d then some (HO.frz o u) else C.K0 a) = some w; rw [if_neg z]; exact e)
  · by_cases z : a = d
    · subst z; rw [hf] at e; cases e; exact .inl upd_same
    · rw [upd_ne z]; exact r.fz a w e
  · by_cases z : a = d
    · subst z; rw [upd_same] at n; cases n
    · rw [upd_ne z] at n; exact r.gn a n
  · have := (r.fr a m).1
    have e : (if a = d then some (HO.frz o u) else C.K0 a) = none := this
    rw [if_neg (nfp a m)] at e
    exact e
/-- it was locked already -/
theorem Rel.lockB {d : Addr} {u : HO} {o : Obj} (r : Rel K C Hf env σ H fp) (hf : Hf d = some u) (h : H d = some (.frz o u)) : Rel K (lockC C d o u) Hf env σ H fp := by
  have nfp : ∀ a, a ∈ fp → a ≠ d := fun a m z => by have := (r.fr a m).2.1; rw [z, hf] at this; cases this
  refine ⟨fun a w e => ?_, r.fz, r.gf, r.gn, r.er, r.nd, fun a m => ⟨?_, (r.fr a m).2⟩, r.pin⟩
  · have e : (if a = d then some (HO.frz o u) else C.K0 a) = some w := e
    by_cases z : a = d
    · subst z; rw [if_pos rfl] at e; rw [h]; exact e
    · rw [if_neg z] at e; exact r.same a w e
  · show (if a = d then some (HO.frz o u) else C.K0 a) = none
    rw [if_neg (nfp a m)]; exact (r.fr a m).1
theorem Rel.unlockB {d : Addr} {u : HO} {o : Obj} (r : Rel K (lockC C d o u) Hf env σ H fp) (hf : Hf d = some u) (h0 : ∀ w, C.K0 d = some w → w = .frz o u) : Rel K C Hf env σ H fp := by
  have nfp : ∀ a, a ∈ fp → a ≠ d := fun a m z => by have := (r.fr a m).2.1; rw [z, hf] at this; cases this
  have hd : H d = some (.frz o u) := r.same d _ (by show (if d = d then some (HO.frz o u) else C.K0 d) = _; rw [if_pos rfl])
  refine ⟨fun a w e => ?_, r.fz, r.gf, r.gn, r.er, r.nd, fun a m => ⟨?_, (r.fr a m).2⟩, r.pin⟩
  · by_cases z : a = d
    · subst z; rw [h0 w e, hd]
    · exact r.same a w (by show (if a = d then some (HO.frz o u) else C.K0 a) = some w; rw [if_neg z]; exact e)
  · have e : (if a = d then some (HO.frz o u) else C.K0 a) = none := (r.fr a m).1
    rw [if_neg (nfp a m)] at e
    exact e
theorem Itk_ok {d : Addr} {o : Obj} {ks : List (Key × V)} {kvs : List (NestedKey × D)} (p : RepK K Hf ks kvs) : ItOk K (fun a => if a = d then some (.frz o (.dK ks)) else none) Hf (Itk d o ks) (keysD kvs) := by
  intro C i Hf1 env σ H fp hn e r
  have hd : H d = some (.frz o (.dK ks)) := r.same d _ (hn d _ (if_pos rfl))
  have hl : (keysD kvs).length = ks.length := by unfold keysD; rw [List.length_map, p.len]
  refine ⟨fun h => ⟨hd, by rw [← hl]; exact h⟩, fun x hx => ?_⟩
  have hi : i < ks.length := by rw [← hl]; exact (List.getElem?_eq_some_iff.mp hx).1
  refine ⟨⟨hd, hi⟩, fun v H2 y => ?_⟩
  obtain ⟨rfl, k, w, h1, rfl⟩ := y
  refine ⟨Hf1, Ext.rfl, Ext.rfl, r, ?_⟩
  have q := (RepK.keys p).getV (i := i) (v := kV k) (by rw [List.getElem?_map, h1]; rfl)
  obtain ⟨d', e1, e2⟩ := q
  have : x = d' := by
    have e3 : (keysD kvs)[i]? = some d' := e1
    rw [hx] at e3
    exact Option.some.inj e3
  subst this
  exact e2.ext e
theorem rd_inv {Q : SD → Env → Prop} {i : Nat} (r : Rel K C Hf env σ H fp) (t : rd i env Q) : ∃ v d env' Hf' fp', σ[i]? = some (some v) ∧ Ext Hf Hf' ∧ Rel K C Hf' env' σ H fp' ∧ Rep K Hf' v d ∧ Q (.f, d) env' := by
  unfold rd at t
  cases e : look env i with
  | none => rw [e] at t; exact t.elim
  | some sd =>
    rw [e] at t
    obtain ⟨s, d⟩ := sd
    obtain ⟨v, fv, fr, hv, rs, r1, ap⟩ := r.take e
    obtain ⟨r2, e2⟩ := r1.frz ap rs.there
    have p : Rep K (frzH Hf H fv) v d := rs.frz e2 fun a m => frzH_in m
    obtain ⟨fp', r3, _⟩ := r2.back e hv (.f p) Apart.nil
    cases s with
    | f => cases rs with | f p => exact ⟨v, d, env, Hf, fp, hv, Ext.rfl, r, p, t⟩
    | o s => exact ⟨v, d, _, _, fp', hv, e2, r3, p, t⟩
    | ob s => exact ⟨v, d, _, _, fp', hv, e2, r3, p, t⟩
theorem ps_or {st : Stmt} {t u : TS} (h : PS X st t) (k : PS X st u) : PS X st (fun D σ H => t D σ H ∨ u D σ H) := ⟨fun pins s σ H D I q => q.elim (h.run pins s σ H D I) (k.run pins s σ H D I)⟩
theorem frk_core {i : Nat} {g : TGd} {tb : TSd} {D : Ends} {Dd : EndsD} {d : Addr} {ks : List (Key × V)} {kvs : List (NestedKey × DL.D)} (r1 : Rel K C Hf env σ H fp) (hv : σ[i]? = some (some (.ref d))) (hf : Hf d = some (.dK ks)) (q : RepK K Hf ks kvs) (k1 : PostS K C Hf D Dd)
    (h : ∃ W : Nat → Env → Prop, W 0 env ∧ (∀ n d e, (keysD kvs)[n]? = some d → W n e → g (.f, d) e fun e2 => tb { Dd with nx := W (n + 1), ct := W (n + 1), bk := Dd.nx } e2) ∧ ∀ e, W (keysD kvs).length e → Dd.nx e) :
    tFor (iKeys (tVar i)) (LG K g) (LS K tb) D σ H ∨ tLock (tFor (iKeys (tVar i)) (LG K g) (LS K tb)) D σ H := by
  rcases r1.fz d _ hf with hd | ⟨_, o, hd⟩
  · -- not locked
    refine .inr ⟨d, .dK ks, hd, trivial, fun od => ⟨_, hv, d, od, rfl, .inl ⟨ks, upd_same, ?_⟩⟩⟩
    have h0 : ∀ w, C.K0 d = some w → w = .dK ks := fun w e => by have := r1.same d w e; rw [hd] at this; exact (Option.some.inj this).symm
    refine for_core (Itk_ok (o := od) q) (lock_need C d od _) (r1.lock hf rfl hd od) ⟨?_, ?_, ?_, ?_⟩ h
    · intro env σ H Hf' fp e r' z
      obtain ⟨a, b⟩ := r'.unlock (e _ _ hf) h0
      exact ⟨a, k1.nx env σ _ Hf' fp e b z⟩
    · intro sd env σ H Hf' fp v fv e r' ps ap z
      obtain ⟨a, b⟩ := r'.unlock (e _ _ hf) h0
      have ne : ∀ c, c ∈ fv → c ≠ d := fun c m y => by have := (ap.fr c m).2.1; rw [y, e _ _ hf] at this; cases this
      refine ⟨a, k1.rt sd env σ _ Hf' fp v fv e b (ps.to Ext.rfl fun c m => upd_ne (ne c m)) ⟨ap.nd, fun c m => ⟨?_, (ap.fr c m).2⟩, ap.ap⟩ z⟩
      have y : (if c = d then some (HO.frz od (.dK ks)) else C.K0 c) = none := (ap.fr c m).1
      rw [if_neg (ne c m)] at y
      exact y
    · intro env σ H Hf' fp e r' z
      obtain ⟨a, b⟩ := r'.unlock (e _ _ hf) h0
      exact ⟨a, k1.bk env σ _ Hf' fp e b z⟩
    · intro env σ H Hf' fp e r' z
      obtain ⟨a, b⟩ := r'.unlock (e _ _ hf) h0
      exact ⟨a, k1.ct env σ _ Hf' fp e b z⟩
  · refine .inl ⟨_, hv, d, o, rfl, .inl ⟨ks, hd, ?_⟩⟩
    have h0 : ∀ w, C.K0 d = some w → w = .frz o (.dK ks) := fun w e => by have := r1.same d w e; rw [hd] at this; exact (Option.some.inj this).symm
    refine for_core (Itk_ok (o := o) q) (lock_need C d o _) (r1.lockB hf hd) ⟨?_, ?_, ?_, ?_⟩ h
    · exact fun env σ H Hf' fp e r' z => k1.nx env σ _ Hf' fp e (r'.unlockB (e _ _ hf) h0) z
    · intro sd env σ H Hf' fp v fv e r' ps ap z
      have ne : ∀ c, c ∈ fv → c ≠ d := fun c m y => by have := (ap.fr c m).2.1; rw [y, e _ _ hf] at this; cases this
      refine k1.rt sd env σ _ Hf' fp v fv e (r'.unlockB (e _ _ hf) h0) ps ⟨ap.nd, fun c m => ⟨?_, (ap.fr c m).2⟩, ap.ap⟩ z
      have y : (if c = d then some (HO.frz o (.dK ks)) else C.K0 c) = none := (ap.fr c m).1
      rw [if_neg (ne c m)] at y
      exact y
    · exact fun env σ H Hf' fp e r' z => k1.bk env σ _ Hf' fp e (r'.unlockB (e _ _ hf) h0) z
    · exact fun env σ H Hf' fp e r' z => k1.ct env σ _ Hf' fp e (r'.unlockB (e _ _ hf) h0) z
theorem ps_frk {i : Nat} {iter : Expr} {body : List Stmt} {g : TGd} {tb : TSd} (hp : PassesOwn (model X.prog X.w) X.A X.env X.xe) (hc : X.calm = true) (hi : PE X iter (tVar i)) (hg : PGd X tg g) (hb : PSsd X body tb)
    (hs : ∀ x, foldedSetIterable iter X.env x = pure x := by intro _; rfl) : PSd X (.For tg iter body [] pos) (frk i g tb) := by
  have base := ps_for (pos := pos) hp hc (pi_keys hi) hg.pg hb.ps hs
  refine ⟨wkS (ps_or base (ps_lock base)) fun D σ H w => ?_⟩
  obtain ⟨C, Hf, env, fp, Dd, r, t, k⟩ := w
  obtain ⟨v, dd, env1, Hf1, fp1, hv, e1, r1, p, h⟩ := rd_inv r t
  cases dd <;> first | exact h.elim | skip
  obtain ⟨d, ks, rfl, hf, q⟩ := p.dct_inv
  exact frk_core r1 hv hf q (k.ext e1) h
end
end DL
set_option Elab.async false
set_option linter.all false
set_option maxRecDepth 100000
namespace DL
open PySem PySem.Spec PyProof.Rows L2

/-! ### comprehensions -/
def tru : TTd := fun env Q => Q true env
structure PTsd (X : Cx) (ifs : List Expr) (b : Bool) (t : TTd) : Prop where
  pt : PTs X ifs (LT X.K b t)
def inner (env : Env) (i : Nat) (d : D) : Env := env.set i (false, some (.f, d))
def outer (env : Env) (i : Nat) : Env := env.set i (false, none)
/-- the comprehension's name holds nothing of one's own -/
def freeS (env : Env) (i : Nat) : Bool := match env[i]? with
  | some (false, none) => true
  | some (false, some (.f, _)) => true
  | _ => false
/-- the turns: W by the turn, what is made so far, the slots -/
def lcB (i : Nat) (tt : TTd) (te : TEd) (ds : List D) (e0 : Env) (Q : SD → Env → Prop) : Prop := freeS e0 i = true ∧ ∃ W : Nat → List D → Env → Prop, W 0 [] (outer e0 i) ∧
  (∀ n d acc e, ds[n]? = some d → W n acc e → tt (inner e i d) fun b e2 => if b = true then te e2 fun y e3 => acc.length < sizeLine ∧ W (n + 1) (acc ++ [y.2]) (outer e3 i) else W (n + 1) acc (outer e2 i)) ∧
  ∀ acc e, W ds.length acc e → Q (.o .f, .lst acc) (e.set i (e0.getD i (false, none)))
def lc (it : TId) (i : Nat) (tt : TTd) (te : TEd) : TEd := fun env Q => it env fun ds e => lcB i tt te ds e Q
def lck (j i : Nat) (tt : TTd) (te : TEd) : TEd := fun env Q => rd j env fun x e => match x.2 with
  | .dct kvs => lcB i tt te (keysD kvs) e Q
  | _ => False
section
variable {X : Cx} {K : PySem.W.Frag} {Hf H : Hp} {C : Ct} {env : Env} {σ : Slots} {fp fv : List Addr} {b b1 b2 : Bool}
theorem pts_nild : PTsd X [] true tru := ⟨⟨fun pins s σ H Q I w => pts_nil.run pins s σ H Q I (by
  obtain ⟨C, Hf, env, fp, R, r, t, k⟩ := w
  exact k true env H Hf fp Ext.rfl (fun _ => Ext.rfl) r t)⟩⟩
theorem pts_oned {c : Expr} {t : TTd} (h : PTd X c b t) : PTsd X [c] b t := ⟨pts_one h.pt⟩
theorem Rel.hole {i : Nat} (r : Rel K C Hf env σ H fp) (hp : pinned env i = false) (x : Option V) : ∃ fp', Rel K C Hf (outer env i) (σ.set i x) H fp' := by
  obtain ⟨fr, r1, m, nd⟩ := r.er.drop i false
  have hl : i < env.length := by
    unfold pinned at hp
    cases e : env[i]? with
    | none => rw [e] at hp; cases hp
    | some x => exact (List.getElem?_eq_some_iff.mp e).1
  have e1 : (env.set i (false, none))[i]? = some (false, none) := List.getElem?_set_self hl
  refine ⟨fr, r.same, r.fz, r.gf, r.gn, r1.reslot x e1, nd r.nd, fun a ma => r.fr a (m a ma), fun j w q => ?_⟩
  obtain ⟨q1, y, q2⟩ := r.pin j w q
  have ne : i ≠ j := fun z => by
    subst z
    unfold pinned at hp
    rw [q2] at hp
    cases hp
  exact ⟨by rw [List.getElem?_set_ne ne]; exact q1, y, by unfold outer; rw [List.getElem?_set_ne ne]; exact q2⟩
theorem freeS_pin {i : Nat} (h : freeS env i = true) : pinned env i = false := by
  unfold freeS at h
  unfold pinned
  cases e : env[i]? with
  | none => rw [e] at h; cases h
  | some x =>
    rw [e] at h
    obtain ⟨b, o⟩ := x
    cases b with
    | false => rfl
    | true => cases h
/-- without the new list -/
def newC (C : Ct) (D : Addr) : Ct := { C with G := fun a => C.G a ∧ a ≠ D }
def accC (C : Ct) (D : Addr) (vs : List V) : Ct := { newC C D with K0 := fun a => if a = D then some (.lst vs) else C.K0 a }
theorem Rel.newC {D : Addr} {o : HO} (r : Rel K C Hf env σ H fp) (h : H D = none) : Rel K (newC C D) Hf env σ (upd H D o) fp := by
  obtain ⟨h1, h2, h3, h4⟩ := r.fresh h
  have r1 := r.alloc (o := o) h
  refine ⟨r1.same, r1.fz, fun a n => ⟨r.gf a n, fun z => n (by rw [z]; exact h2)⟩, fun a n => ⟨r1.gn a n, fun z => by rw [z, upd_same] at n; cases n⟩, r1.er, r.nd, fun a m => ⟨(r.fr a m).1, (r.fr a m).2.1, (r.fr a m).2.2, fun z => h4 (by rw [← z]; exact m)⟩, r.pin⟩
theorem Rel.toAcc {D : Addr} {vs : List V} (r : Rel K (DL.newC C D) Hf env σ H fp) (h : H D = some (.lst vs)) : Rel K (accC C D vs) Hf env σ H fp := by
  refine ⟨fun a w e => ?_, r.fz, r.gf, r.gn, r.er, r.nd, fun a m => ⟨?_, (r.fr a m).2⟩, r.pin⟩
  · have e : (if a = D then some (HO.lst vs) else C.K0 a) = some w := e
    by_cases z : a = D
    · subst z; rw [if_pos rfl] at e; rw [h]; exact e
    · rw [if_neg z] at e; exact r.same a w e
  · show (if a = D then some (HO.lst vs) else C.K0 a) = none
    rw [if_neg (r.fr a m).2.2.2]; exact (r.fr a m).1
theorem Rel.ofAcc {D : Addr} {vs ws : List V} (r : Rel K (accC C D vs) Hf env σ H fp) (h0 : C.K0 D = none) : H D = some (.lst vs) ∧ Rel K (DL.newC C D) Hf env σ (upd H D (.lst ws)) fp ∧ Rel K (DL.newC C D) Hf env σ H fp := by
  have hd : H D = some (.lst vs) := r.same D _ (by show (if D = D then some (HO.lst vs) else C.K0 D) = _; rw [if_pos rfl])
  have nfp : ∀ a, a ∈ fp → a ≠ D := fun a m => (r.fr a m).2.2.2
  have nhf : Hf D = none := by
    cases e : Hf D with
    | none => rfl
    | some u => exact absurd rfl (r.gf D (by rw [e]; exact fun z => nomatch z)).2
  have fr' : ∀ a, a ∈ fp → C.K0 a = none := fun a m => by
    have e : (if a = D then some (HO.lst vs) else C.K0 a) = none := (r.fr a m).1
    rw [if_neg (nfp a m)] at e; exact e
  have sm : ∀ a w, C.K0 a = some w → a ≠ D ∧ H a = some w := fun a w e => by
    have z : a ≠ D := fun z => by rw [z, h0] at e; cases e
    exact ⟨z, r.same a w (by show (if a = D then some (HO.lst vs) else C.K0 a) = some w; rw [if_neg z]; exact e)⟩
  refine ⟨hd, ⟨fun a w e => by rw [upd_ne (sm a w e).1]; exact (sm a w e).2, fun a w e => ?_, r.gf, fun a n => ?_, r.er.to Ext.rfl fun a m => upd_ne (nfp a m), r.nd, fun a m => ⟨fr' a m, (r.fr a m).2⟩, r.pin⟩, ⟨fun a w e => (sm a w e).2, r.fz, r.gf, r.gn, r.er, r.nd, fun a m => ⟨fr' a m, (r.fr a m).2⟩, r.pin⟩⟩
  · rw [upd_ne fun z => by rw [z, nhf] at e; cases e]; exact r.fz a w e
  · by_cases z : a = D
    · subst z; rw [upd_same] at n; cases n
    · rw [upd_ne z] at n; exact r.gn a n
theorem accNeed {need : Hp} {D : Addr} {vs : List V} (hn : Ext need C.K0) (h0 : C.K0 D = none) : Ext need (accC C D vs).K0 := fun a w e => by
  show (if a = D then some (HO.lst vs) else C.K0 a) = some w
  have := hn a w e
  rw [if_neg fun z => by rw [z, h0] at this; cases this]
  exact this
/-- the loop of a comprehension -/
theorem lc_coreD {J : It} {need : Hp} {ds : List D} {i : Nat} {tt : TTd} {te : TEd} {R : SD → Env → Prop} {Qd : V → Hp → Prop} (hJ : ItOk K need Hf J ds) (hn : Ext need C.K0) (r : Rel K C Hf env σ H fp) (h : lcB i tt te ds env R)
    (fin : ∀ acc env' H' Hf' fp' l, Ext Hf Hf' → Rel K C Hf' env' σ H' fp' → RepS K Hf' H' (.o .f) (.ref l) (.lst acc) [l] → Apart C Hf' [l] fp' → R (.o .f, .lst acc) env' → Qd (.ref l) H') :
    ∀ Da, H Da = none → ∃ W : Nat → Nat → Hp → Prop, (∃ m, W 0 m (upd H Da (.lst []))) ∧ ∀ n m H, W n m H →
      (J.stop n H ∧ Qd (.ref Da) H) ∨ (J.go n H ∧ ∃ Nx : Hp → Prop, (∀ H', Nx H' → ∃ m', m' < m ∧ W (n + 1) m' H') ∧ ∀ x H', J.yld n H x H' → gName i x (wipe σ [i]) H' fun σ2 H2 => wipe σ2 [i] = wipe σ [i] ∧ LT K b1 tt σ2 H2 fun c H3 =>
        if c = true then LE K b2 te σ2 H3 fun y H4 => ∃ acc, H4 Da = some (.lst acc) ∧ acc.length < sizeLine ∧ Nx (upd H4 Da (.lst (acc ++ [y]))) else Nx H3) := by
  intro Da hDa
  obtain ⟨hfree, W, w0, step, fi⟩ := h
  have hp := freeS_pin hfree
  obtain ⟨f1, f2, f3, f4⟩ := r.fresh hDa
  have hwipe : wipe σ [i] = σ.set i none := rfl
  have npin : ∀ v, C.pin[i]? = some (some v) → False := fun v q => by
    obtain ⟨_, y, q2⟩ := r.pin i v q
    unfold pinned at hp
    rw [q2] at hp
    cases hp
  have hil : i < env.length := by
    unfold pinned at hp
    cases e : env[i]? with
    | none => rw [e] at hp; cases hp
    | some x => exact (List.getElem?_eq_some_iff.mp e).1
  -- the name's value, for the end
  have back : ∀ {Hf' : Hp} {env' : Env} {H' : Hp} {fp' : List Addr}, Ext Hf Hf' → Rel K C Hf' (outer env' i) (σ.set i none) H' fp' → env'.length = env.length → ∃ fp2, Rel K C Hf' (env'.set i (env.getD i (false, none))) σ H' fp2 ∧ ∀ a, a ∈ fp2 → a ∈ fp' := by
    intro Hf' env' H' fp' e r' hl
    have hil' : i < env'.length := by rw [hl]; exact hil
    have ex : env.getD i (false, none) = env[i] := by simp [List.getD, List.getElem?_eq_getElem hil]
    have e1 : (outer env' i)[i]? = some (false, none) := List.getElem?_set_self hil'
    have σlen : i < σ.length := by rw [← r.er.len]; exact hil
    have r2 := r'.er.reslot (σ[i]) e1
    have e2 : (σ.set i none).set i σ[i] = σ := by rw [List.set_set]; exact List.set_getElem_self σlen
    rw [e2] at r2
    have pin2 : ∀ {o : Option SD}, ∀ (j : Nat) (v : V), C.pin[j]? = some (some v) → σ[j]? = some (some v) ∧ ∃ x, (env'.set i (false, o))[j]? = some (true, x) := fun {o} j v q => by
      obtain ⟨q1, y, q2⟩ := r'.pin j v q
      obtain ⟨p1, _⟩ := r.pin j v q
      have ne : i ≠ j := fun z => by
        subst z
        rw [e1] at q2
        cases q2
      refine ⟨p1, y, ?_⟩
      unfold outer at q2
      rw [List.getElem?_set_ne ne] at q2 ⊢
      exact q2
    unfold freeS at hfree
    rw [List.getElem?_eq_getElem hil] at hfree
    rw [ex]
    generalize hx : env[i] = x at hfree
    obtain ⟨b0, o⟩ := x
    cases b0 with
    | true => cases hfree
    | false =>
      cases o with
      | none => exact ⟨fp', ⟨r'.same, r'.fz, r'.gf, r'.gn, r2, r'.nd, r'.fr, pin2⟩, fun a m => m⟩
      | some sd =>
        obtain ⟨s, d⟩ := sd
        cases s <;> first | cases hfree | skip
        have hl0 : look env i = some (.f, d) := by unfold look; rw [List.getElem?_eq_getElem hil, hx]; rfl
        obtain ⟨v, fv, fr0, hv, rs, _, _⟩ := r.take hl0
        cases rs with
        | f p0 =>
          obtain ⟨fp2, r3, pm⟩ := r2.put (b' := false) e1 hv (.f (p0.ext e) : RepS K Hf' H' .f v d [])
          have e3 : (outer env' i).set i (false, some (.f, d)) = env'.set i (false, some (.f, d)) := by unfold outer; rw [List.set_set]
          rw [e3] at r3
          have m2 : ∀ a, a ∈ fp2 → a ∈ fp' := fun a m => by simpa using pm.mem_iff.mp m
          exact ⟨fp2, ⟨r'.same, r'.fz, r'.gf, r'.gn, r3, pm.nodup_iff.mpr (by simpa using r'.nd), fun a m => r'.fr a (m2 a m), pin2⟩, m2⟩
  refine ⟨fun n m H => m = ds.length - n ∧ n ≤ ds.length ∧ ∃ Hf' env' fp' acc vs, Ext Hf Hf' ∧ env'.length = env.length ∧ Rel K (newC C Da) Hf' (outer env' i) (σ.set i none) H fp' ∧ H Da = some (.lst vs) ∧ Reps K Hf' vs acc ∧ W n acc (outer env' i), ?_, ?_⟩
  · obtain ⟨fp1, r1⟩ := r.hole hp none
    exact ⟨_, rfl, Nat.zero_le _, Hf, env, fp1, [], [], Ext.rfl, rfl, r1.newC hDa, upd_same, .nil, w0⟩
  · rintro n m H1 ⟨rfl, hni, Hf1, env1, fp1, acc, vs, e1, l1, r1, hD, pv, w1⟩
    have ra := r1.toAcc hD
    obtain ⟨J1, J2⟩ := hJ (accC C Da vs) n Hf1 _ _ H1 fp1 (accNeed hn f1) e1 ra
    by_cases hlt : n < ds.length
    · obtain ⟨d, hd⟩ : ∃ d, ds[n]? = some d := ⟨ds[n], by simp [hlt]⟩
      obtain ⟨go, yl⟩ := J2 d hd
      refine .inr ⟨go, fun H' => ∃ Hf' env' fp' acc vs, Ext Hf Hf' ∧ env'.length = env.length ∧ Rel K (newC C Da) Hf' (outer env' i) (σ.set i none) H' fp' ∧ H' Da = some (.lst vs) ∧ Reps K Hf' vs acc ∧ W (n + 1) acc (outer env' i), fun H' q => ⟨_, by omega, rfl, hlt, q⟩, fun x H2 y => ?_⟩
      obtain ⟨Hf2, e2, _, r2, p2⟩ := yl x H2 y
      have pin1 : pinned (outer env1 i) i = false := by
        unfold pinned outer
        rw [List.getElem?_set_self (by rw [l1]; exact hil)]; rfl
      obtain ⟨fp3, r3⟩ := r2.asg pin1 (.f p2) Apart.nil
      have es : ∀ z : Option V, ((σ.set i none).set i z).set i none = σ.set i none := fun z => by rw [List.set_set, List.set_set]
      refine ⟨by rw [hwipe]; show ((σ.set i none).set i (some x)).set i none = _; exact es _, ?_⟩
      have ein : (outer env1 i).set i (false, some (.f, d)) = inner (outer env1 i) i d := rfl
      rw [ein] at r3
      have len2 : ∀ {C' : Ct} {Hf' : Hp} {e : Env} {H' : Hp} {fp' : List Addr} {x : V}, Rel K C' Hf' e ((σ.set i none).set i (some x)) H' fp' → e.length = env.length := fun {_ _ e _ _ _} q => by
        rw [q.er.len, List.length_set, List.length_set, r.er.len]
      have pinE : ∀ {C' : Ct} {Hf' : Hp} {e : Env} {H' : Hp} {fp' : List Addr} {x : V}, Rel K C' Hf' e ((σ.set i none).set i (some x)) H' fp' → C'.pin = C.pin → ∃ fp2, Rel K C' Hf' (outer e i) (σ.set i none) H' fp2 := fun {C' Hf' e H' fp' x} q hC => by
        obtain ⟨fr, q1, mm, nd⟩ := q.er.drop i false
        have hil2 : i < e.length := by rw [len2 q]; exact hil
        have e1' : (e.set i (false, none))[i]? = some (false, none) := List.getElem?_set_self hil2
        have q2 := q1.reslot none e1'
        rw [es] at q2
        refine ⟨fr, q.same, q.fz, q.gf, q.gn, q2, nd q.nd, fun a ma => q.fr a (mm a ma), fun j v qq => ?_⟩
        obtain ⟨s1, y, s2⟩ := q.pin j v qq
        by_cases z : i = j
        · subst z
          rw [hC] at qq
          exact (npin v qq).elim
        · rw [List.getElem?_set_ne z, List.getElem?_set_ne z] at s1
          exact ⟨by rw [List.getElem?_set_ne z]; exact s1, y, by unfold outer; rw [List.getElem?_set_ne z]; exact s2⟩
      refine ⟨accC C Da vs, Hf2, _, fp3, _, r3, step n d acc _ hd w1, fun c env4 H4 Hf4 fp4 e4 _ r4 h4 => ?_⟩
      cases c with
      | false =>
        obtain ⟨fp5, r5⟩ := pinE r4 rfl
        obtain ⟨hD4, _, r6⟩ := r5.ofAcc (ws := vs) f1
        exact ⟨Hf4, env4, fp5, acc, vs, e1.trans (e2.trans e4), len2 r4, r6, hD4, Reps.ext (e2.trans e4) pv, h4⟩
      | true =>
        refine le_one (b := b2) r4 h4 fun y env5 v5 H5 Hf5 fp5 e5 _ r5 p5 h5 => ?_
        obtain ⟨fp6, r6⟩ := pinE r5 rfl
        obtain ⟨hD5, r7, _⟩ := r6.ofAcc (ws := vs ++ [v5]) f1
        have pv5 := Reps.ext (e2.trans (e4.trans e5)) pv
        exact ⟨vs, hD5, by rw [pv.len]; exact h5.1, Hf5, env5, fp6, acc ++ [y.2], vs ++ [v5], e1.trans (e2.trans (e4.trans e5)), len2 r5, r7, upd_same, pv5.app (.cons p5 .nil), h5.2⟩
    · have e : n = ds.length := by omega
      subst e
      refine .inl ⟨J1 (Nat.le_refl _), ?_⟩
      have rC : Rel K C Hf1 (outer env1 i) (σ.set i none) H1 fp1 := ⟨r1.same, r1.fz, fun a n => (r1.gf a n).1, fun a n => (r1.gn a n).1, r1.er, r1.nd, fun a m => ⟨(r1.fr a m).1, (r1.fr a m).2.1, (r1.fr a m).2.2.1⟩, r1.pin⟩
      obtain ⟨fp2, r2, m2⟩ := back e1 rC l1
      have e3 : (outer env1 i).set i (env.getD i (false, none)) = env1.set i (env.getD i (false, none)) := by unfold outer; rw [List.set_set]
      refine fin acc _ H1 Hf1 fp2 Da e1 r2 (.lst hD (RepSs.flat pv)) ⟨by simp, fun a m => ?_, fun a m m' => ?_⟩ (by rw [← e3]; exact fi acc _ w1)
      · rw [List.mem_singleton.mp m]
        refine ⟨f1, ?_, f3⟩
        cases e : Hf1 Da with
        | none => rfl
        | some u => exact absurd rfl (r1.gf Da (by rw [e]; exact fun z => nomatch z)).2
      · rw [List.mem_singleton.mp m] at m'
        exact absurd rfl (r1.fr Da (m2 _ m')).2.2.2
end
section
variable {X : Cx} {K : PySem.W.Frag} {b b1 b2 : Bool}
theorem pd_lc {elt tg iter : Expr} {ifs : List Expr} {scope : Scope} {own : List (Str × Nat)} {i : Nat} {pos : Pos} {it : TId} {tt : TTd} {te : TEd} (hc : X.calm = true) (hN : X.N.Nodup) (hi : PId X tg iter b it) (ok : BlkOk X.N X.env.scope scope own) (ho : own.map (·.2) = [i])
    (hg : ∀ (s : Shared) (H : Hp) (C : Addr) (cl : List (Str × Addr)) (fp : List Addr), PG (X.blk s H scope (compEnvC scope cl C X.env) fp) tg (gName i)) (ht : ∀ (s : Shared) (H : Hp) (C : Addr) (cl : List (Str × Addr)) (fp : List Addr), PTsd (X.blk s H scope (compEnvC scope cl C X.env) fp) ifs b1 tt)
    (he : ∀ (s : Shared) (H : Hp) (C : Addr) (cl : List (Str × Addr)) (fp : List Addr), PD (X.blk s H scope (compEnvC scope cl C X.env) fp) elt b2 te) (hs : ∀ x, foldedSetIterable iter X.env x = pure x := by intro _; rfl) :
    PD X (.ListComp elt [⟨tg, iter, ifs, 0⟩] scope pos) false (lc it i tt te) := by
  have h := L2.pe_lc (pos := pos) (elt := elt) (tt := LT X.K b1 tt) (te := LE X.K b2 te) hc hN hi.pi ok hg (fun s H C cl fp => (ht s H C cl fp).pt) (fun s H C cl fp => (he s H C cl fp).pe) hs
  rw [ho] at h
  refine ⟨wkE h fun σ H Q w => ?_⟩
  obtain ⟨C, Hf, env, fp, R, r, t, k⟩ := w
  refine ⟨C, Hf, env, fp, _, r, t, fun ds env1 H1 Hf1 fp1 J e1 _ r1 hJ h1 => ?_⟩
  exact lc_coreD hJ (fun _ _ z => nomatch z) r1 h1 fun acc env' H' Hf' fp' l e r' p ap z => k (.o .f, .lst acc) env' _ H' Hf' fp' [l] (e1.trans e) (fun z => nomatch z) r' p ap z
/-- name = [..] on one line, the name a local -/
theorem ps_lc {j : Nat} {y : Str} {py : Pos} {elt tg iter : Expr} {ifs : List Expr} {scope : Scope} {own : List (Str × Nat)} {i : Nat} {pos spos : Pos} {it : TId} {tt : TTd} {te : TEd} (hc : X.calm = true) (hN : X.N.Nodup) (hy : X.N[j]? = some y) (hyl : X.env.scope.names.lookup y = some .local)
    (hsw : swapsWith (.ListComp elt [⟨tg, iter, ifs, 0⟩] scope pos) (some (.Name y py)) spos.line X.env = pure true) (hi : PId X tg iter b it) (ok : BlkOk X.N X.env.scope scope own) (ho : own.map (·.2) = [i])
    (hg : ∀ (s : Shared) (H : Hp) (C : Addr) (cl : List (Str × Addr)) (fp : List Addr), PG (X.blk s H scope (compEnvC scope cl C X.env) fp) tg (gName i)) (ht : ∀ (s : Shared) (H : Hp) (C : Addr) (cl : List (Str × Addr)) (fp : List Addr), PTsd (X.blk s H scope (compEnvC scope cl C X.env) fp) ifs b1 tt)
    (he : ∀ (s : Shared) (H : Hp) (C : Addr) (cl : List (Str × Addr)) (fp : List Addr), PD (X.blk s H scope (compEnvC scope cl C X.env) fp) elt b2 te) (hs : ∀ x, foldedSetIterable iter X.env x = pure x := by intro _; rfl) :
    PSd X (.Assign [.Name y py] (.ListComp elt [⟨tg, iter, ifs, 0⟩] scope pos) spos) (asn j (lc it i tt te)) := by
  have h := L2.ps_setLc (py := py) (pos := pos) (spos := spos) (elt := elt) (tt := LT X.K b1 tt) (te := LE X.K b2 te) hc hN hy hyl hsw hi.pi ok hg (fun s H C cl fp => (ht s H C cl fp).pt) (fun s H C cl fp => (he s H C cl fp).pe) hs
  rw [ho] at h
  refine ⟨wkS h fun D σ H w => ?_⟩
  obtain ⟨C, Hf, env, fp, Dd, r, t, k⟩ := w
  refine ⟨C, Hf, env, fp, _, r, t, fun ds env1 H1 Hf1 fp1 J e1 _ r1 hJ h1 => ?_⟩
  exact lc_coreD (Qd := fun x H1 => D.nx (σ.set j (some x)) H1) hJ (fun _ _ z => nomatch z) r1 h1 fun acc env' H' Hf' fp' l e r' p ap z => by
    obtain ⟨fp2, r2⟩ := r'.asg z.1 p ap
    exact k.nx _ _ H' Hf' fp2 (e1.trans e) r2 z.2
/-- over a dict's keys, by its name -/
theorem lck_core {j i : Nat} {D0 : VK} {tt : TTd} {te : TEd} {σ : Slots} {H : Hp} {C : Ct} {Hf Hf1 : Hp} {env1 : Env} {fp1 : List Addr} {R : SD → Env → Prop} {d : Addr} {ks : List (Key × V)} {kvs : List (NestedKey × D)}
    (hv : σ[j]? = some (some (.ref d))) (e1 : Ext Hf Hf1) (r1 : Rel K C Hf1 env1 σ H fp1) (hf : Hf1 d = some (.dK ks)) (q : RepK K Hf1 ks kvs) (h : lcB i tt te (keysD kvs) env1 R)
    (k : ∀ acc env' H' Hf' fp' l, Ext Hf Hf' → Rel K C Hf' env' σ H' fp' → RepS K Hf' H' (.o .f) (.ref l) (.lst acc) [l] → Apart C Hf' [l] fp' → R (.o .f, .lst acc) env' → D0 (.ref l) H') :
    tLc (iKeys (tVar j)) (gName i) (LT K b1 tt) (LE K b2 te) [i] σ H D0 ∨ tLockE (tLc (iKeys (tVar j)) (gName i) (LT K b1 tt) (LE K b2 te) [i]) σ H D0 := by
  rcases r1.fz d _ hf with hd | ⟨_, o, hd⟩
  · refine .inr ⟨d, .dK ks, hd, trivial, fun od => ⟨_, hv, d, od, rfl, .inl ⟨ks, upd_same, ?_⟩⟩⟩
    have h0 : ∀ w, C.K0 d = some w → w = .dK ks := fun w e => by have := r1.same d w e; rw [hd] at this; exact (Option.some.inj this).symm
    refine lc_coreD (Qd := fun v H' => H' d = some (.frz od (.dK ks)) ∧ D0 v (upd H' d (.dK ks))) (Itk_ok (o := od) q) (lock_need C d od _) (r1.lock hf rfl hd od) h fun acc env' H' Hf' fp' l e r' p ap z => ?_
    obtain ⟨a, b⟩ := r'.unlock (e _ _ hf) h0
    have ne : ∀ c, c ∈ [l] → c ≠ d := fun c m y => by have := (ap.fr c m).2.1; rw [y, e _ _ hf] at this; cases this
    refine ⟨a, k acc env' _ Hf' fp' l (e1.trans e) b (p.to Ext.rfl fun c m => upd_ne (ne c m)) ⟨ap.nd, fun c m => ⟨?_, (ap.fr c m).2⟩, ap.ap⟩ z⟩
    have y : (if c = d then some (HO.frz od (.dK ks)) else C.K0 c) = none := (ap.fr c m).1
    rw [if_neg (ne c m)] at y
    exact y
  · refine .inl ⟨_, hv, d, o, rfl, .inl ⟨ks, hd, ?_⟩⟩
    have h0 : ∀ w, C.K0 d = some w → w = .frz o (.dK ks) := fun w e => by have := r1.same d w e; rw [hd] at this; exact (Option.some.inj this).symm
    refine lc_coreD (Qd := D0) (Itk_ok (o := o) q) (lock_need C d o _) (r1.lockB hf hd) h fun acc env' H' Hf' fp' l e r' p ap z => ?_
    have ne : ∀ c, c ∈ [l] → c ≠ d := fun c m y => by have := (ap.fr c m).2.1; rw [y, e _ _ hf] at this; cases this
    refine k acc env' _ Hf' fp' l (e1.trans e) (r'.unlockB (e _ _ hf) h0) p ⟨ap.nd, fun c m => ⟨?_, (ap.fr c m).2⟩, ap.ap⟩ z
    have y : (if c = d then some (HO.frz o (.dK ks)) else C.K0 c) = none := (ap.fr c m).1
    rw [if_neg (ne c m)] at y
    exact y
theorem pe_or {e : Expr} {t u : TE} (h : PE X e t) (k : PE X e u) : PE X e (fun σ H Q => t σ H Q ∨ u σ H Q) := ⟨fun pins s σ H D I q => q.elim (h.run pins s σ H D I) (k.run pins s σ H D I)⟩
/-- over what a name holds -/
def itemsOf : D → Option (List D)
  | .lst xs => some xs
  | .ro xs => some xs
  | .tup xs => some xs
  | .dct kvs => some (keysD kvs)
  | _ => none
def lcn (j i : Nat) (tt : TTd) (te : TEd) : TEd := fun env Q => rd j env fun x e => match itemsOf x.2 with
  | some ds => lcB i tt te ds e Q
  | none => False
theorem lcn_core {j i : Nat} {D0 : VK} {tt : TTd} {te : TEd} {σ : Slots} {H : Hp} {C : Ct} {Hf : Hp} {env : Env} {fp : List Addr} {R : SD → Env → Prop} (r : Rel K C Hf env σ H fp) (t : lcn j i tt te env R)
    (k : ∀ acc env' H' Hf' fp' l, Ext Hf Hf' → Rel K C Hf' env' σ H' fp' → RepS K Hf' H' (.o .f) (.ref l) (.lst acc) [l] → Apart C Hf' [l] fp' → R (.o .f, .lst acc) env' → D0 (.ref l) H') :
    tLc (iList K (tVar j)) (gName i) (LT K b1 tt) (LE K b2 te) [i] σ H D0 ∨ tLc (iTup K (tVar j)) (gName i) (LT K b1 tt) (LE K b2 te) [i] σ H D0 ∨
    tLc (iKeys (tVar j)) (gName i) (LT K b1 tt) (LE K b2 te) [i] σ H D0 ∨ tLockE (tLc (iKeys (tVar j)) (gName i) (LT K b1 tt) (LE K b2 te) [i]) σ H D0 := by
  obtain ⟨v, dd, env1, Hf1, fp1, hv, e1, r1, p, h⟩ := rd_inv r t
  cases dd <;> first | exact h.elim | skip
  · obtain ⟨a, vs, rfl, s, q⟩ := p.tup_inv
    exact .inr (.inl ⟨_, hv, a, rfl, ⟨vs, SqT.fz r1.fz s⟩, lc_coreD (Qd := D0) (need := fun _ => none) (Itt_ok s q) (fun _ _ z => nomatch z) r1 h fun acc env' H' Hf' fp' l e r' p ap z => k acc env' H' Hf' fp' l (e1.trans e) r' p ap z⟩)
  · obtain ⟨a, vs, rfl, s, q⟩ := p.lst_inv
    exact .inl ⟨_, hv, a, rfl, ⟨vs, SqL.of (r1.fz.at s rfl)⟩, lc_coreD (Qd := D0) (need := fun _ => none) (Itl_ok (SqL.of s) q) (fun _ _ z => nomatch z) r1 h fun acc env' H' Hf' fp' l e r' p ap z => k acc env' H' Hf' fp' l (e1.trans e) r' p ap z⟩
  · obtain ⟨a, vs, rfl, s, q⟩ := p.ro_inv
    exact .inl ⟨_, hv, a, rfl, ⟨vs, SqL.fz r1.fz s⟩, lc_coreD (Qd := D0) (need := fun _ => none) (Itl_ok s q) (fun _ _ z => nomatch z) r1 h fun acc env' H' Hf' fp' l e r' p ap z => k acc env' H' Hf' fp' l (e1.trans e) r' p ap z⟩
  · obtain ⟨d, ks, rfl, hf, q⟩ := p.dct_inv
    exact .inr (.inr (lck_core hv e1 r1 hf q h k))
theorem pd_lcn {elt tg iter : Expr} {ifs : List Expr} {scope : Scope} {own : List (Str × Nat)} {j i : Nat} {pos : Pos} {tt : TTd} {te : TEd} (hc : X.calm = true) (hN : X.N.Nodup) (hi : PE X iter (tVar j)) (ok : BlkOk X.N X.env.scope scope own) (ho : own.map (·.2) = [i])
    (hg : ∀ (s : Shared) (H : Hp) (C : Addr) (cl : List (Str × Addr)) (fp : List Addr), PG (X.blk s H scope (compEnvC scope cl C X.env) fp) tg (gName i)) (ht : ∀ (s : Shared) (H : Hp) (C : Addr) (cl : List (Str × Addr)) (fp : List Addr), PTsd (X.blk s H scope (compEnvC scope cl C X.env) fp) ifs b1 tt)
    (he : ∀ (s : Shared) (H : Hp) (C : Addr) (cl : List (Str × Addr)) (fp : List Addr), PD (X.blk s H scope (compEnvC scope cl C X.env) fp) elt b2 te) (hs : ∀ x, foldedSetIterable iter X.env x = pure x := by intro _; rfl) :
    PD X (.ListComp elt [⟨tg, iter, ifs, 0⟩] scope pos) false (lcn j i tt te) := by
  have h1 := L2.pe_lc (pos := pos) (elt := elt) (tt := LT X.K b1 tt) (te := LE X.K b2 te) hc hN (pi_list hi) ok hg (fun s H C cl fp => (ht s H C cl fp).pt) (fun s H C cl fp => (he s H C cl fp).pe) hs
  have h2 := L2.pe_lc (pos := pos) (elt := elt) (tt := LT X.K b1 tt) (te := LE X.K b2 te) hc hN (pi_tup hi) ok hg (fun s H C cl fp => (ht s H C cl fp).pt) (fun s H C cl fp => (he s H C cl fp).pe) hs
  have h3 := L2.pe_lc (pos := pos) (elt := elt) (tt := LT X.K b1 tt) (te := LE X.K b2 te) hc hN (pi_keys hi) ok hg (fun s H C cl fp => (ht s H C cl fp).pt) (fun s H C cl fp => (he s H C cl fp).pe) hs
  rw [ho] at h1 h2 h3
  refine ⟨wkE (pe_or h1 (pe_or h2 (pe_or h3 (pe_lock h3)))) fun σ H Q w => ?_⟩
  obtain ⟨C, Hf, env, fp, R, r, t, k⟩ := w
  exact lcn_core r t fun acc env' H' Hf' fp' l e r' p ap z => k (.o .f, .lst acc) env' _ H' Hf' fp' [l] e (fun z => nomatch z) r' p ap z
theorem ps_lcn {n : Nat} {y : Str} {py : Pos} {elt tg iter : Expr} {ifs : List Expr} {scope : Scope} {own : List (Str × Nat)} {j i : Nat} {pos spos : Pos} {tt : TTd} {te : TEd} (hc : X.calm = true) (hN : X.N.Nodup) (hy : X.N[n]? = some y) (hyl : X.env.scope.names.lookup y = some .local)
    (hsw : swapsWith (.ListComp elt [⟨tg, iter, ifs, 0⟩] scope pos) (some (.Name y py)) spos.line X.env = pure true) (hi : PE X iter (tVar j)) (ok : BlkOk X.N X.env.scope scope own) (ho : own.map (·.2) = [i])
    (hg : ∀ (s : Shared) (H : Hp) (C : Addr) (cl : List (Str × Addr)) (fp : List Addr), PG (X.blk s H scope (compEnvC scope cl C X.env) fp) tg (gName i)) (ht : ∀ (s : Shared) (H : Hp) (C : Addr) (cl : List (Str × Addr)) (fp : List Addr), PTsd (X.blk s H scope (compEnvC scope cl C X.env) fp) ifs b1 tt)
    (he : ∀ (s : Shared) (H : Hp) (C : Addr) (cl : List (Str × Addr)) (fp : List Addr), PD (X.blk s H scope (compEnvC scope cl C X.env) fp) elt b2 te) (hs : ∀ x, foldedSetIterable iter X.env x = pure x := by intro _; rfl) :
    PSd X (.Assign [.Name y py] (.ListComp elt [⟨tg, iter, ifs, 0⟩] scope pos) spos) (asn n (lcn j i tt te)) := by
  have h1 := L2.ps_setLc (py := py) (pos := pos) (spos := spos) (elt := elt) (tt := LT X.K b1 tt) (te := LE X.K b2 te) hc hN hy hyl hsw (pi_list hi) ok hg (fun s H C cl fp => (ht s H C cl fp).pt) (fun s H C cl fp => (he s H C cl fp).pe) hs
  have h2 := L2.ps_setLc (py := py) (pos := pos) (spos := spos) (elt := elt) (tt := LT X.K b1 tt) (te := LE X.K b2 te) hc hN hy hyl hsw (pi_tup hi) ok hg (fun s H C cl fp => (ht s H C cl fp).pt) (fun s H C cl fp => (he s H C cl fp).pe) hs
  have h3 := L2.ps_setLc (py := py) (pos := pos) (spos := spos) (elt := elt) (tt := LT X.K b1 tt) (te := LE X.K b2 te) hc hN hy hyl hsw (pi_keys hi) ok hg (fun s H C cl fp => (ht s H C cl fp).pt) (fun s H C cl fp => (he s H C cl fp).pe) hs
  rw [ho] at h1 h2 h3
  refine ⟨wkS (ps_or h1 (ps_or h2 (ps_or h3 (ps_lock h3)))) fun D σ H w => ?_⟩
  obtain ⟨C, Hf, env, fp, Dd, r, t, k⟩ := w
  have z := lcn_core (D0 := fun x H1 => D.nx (σ.set n (some x)) H1) (b1 := b1) (b2 := b2) r t fun acc env' H' Hf' fp' l e r' p ap z => by
    obtain ⟨fp2, r2⟩ := r'.asg z.1 p ap
    exact k.nx _ _ H' Hf' fp2 e r2 z.2
  rcases z with z | z | z | z
  · exact .inl z
  · exact .inr (.inl z)
  · exact .inr (.inr (.inl z))
  · obtain ⟨d, u, h1, h2, h3⟩ := z
    exact .inr (.inr (.inr ⟨d, u, h1, h2, fun od => h3 od⟩))
end
end DL
set_option Elab.async false
set_option linter.all false
set_option maxRecDepth 100000
namespace DL
open PySem PySem.Spec PyProof.Rows L2

/-! ### a def's promise -/
abbrev TM := List SD → (SD → List (Option SD) → Prop) → Prop
inductive BackR (K : PySem.W.Frag) (Hf H : Hp) : List (Option SD) → List V → List Addr → Prop
  | nil : BackR K Hf H [] [] []
  | none {v bs vs fp} : BackR K Hf H bs vs fp → BackR K Hf H (none :: bs) (v :: vs) fp
  | some {s d v bs vs f1 f2} : RepS K Hf H s v d f1 → BackR K Hf H bs vs f2 → BackR K Hf H (some (s, d) :: bs) (v :: vs) (f1 ++ f2)
structure Pre (K0 Hf H : Hp) (G : Addr → Prop) (fp : List Addr) : Prop where
  same : Ext K0 H
  fz : Fz Hf H
  gf : ∀ a, Hf a ≠ none → G a
  gn : ∀ a, H a = none → G a
  nd : fp.Nodup
  fr : ∀ a, a ∈ fp → K0 a = none ∧ Hf a = none ∧ G a
def SpD (K : PySem.W.Frag) (n : Nat) (m : TM) : Sp := fun vs H Q _ => ∃ (K0 Hf : Hp) (G : Addr → Prop) (sds : List SD) (fp : List Addr) (R : SD → List (Option SD) → Prop), sds.length = n ∧ ArgsR K Hf H sds vs fp ∧ Pre K0 Hf H G fp ∧ m sds R ∧
  ∀ (sd : SD) (bs : List (Option SD)) (v : V) (H' Hf' : Hp) (fb fv : List Addr), Ext Hf Hf' → BackR K Hf' H' bs vs fb → RepS K Hf' H' sd.1 v sd.2 fv → Pre K0 Hf' H' G (fv ++ fb) → R sd bs → Q v H'
def isF : Sh → Bool
  | .f => true
  | _ => false
def startE (N : Nat) (sds : List SD) : Env := sds.map (fun sd => (!isF sd.1, some sd)) ++ List.replicate (N - sds.length) (false, none)
def backs : List SD → Env → List (Option SD)
  | [], _ => []
  | _ :: sds, [] => none :: backs sds []
  | sd :: sds, x :: e => (if isF sd.1 then none else x.2) :: backs sds e
def mOf (N : Nat) (tb : TSd) : TM := fun sds R => tb { nx := fun e => R (.f, .non) (backs sds e), rt := fun sd e => R sd (backs sds e) } (startE N sds)
theorem ArgsR.len {K : PySem.W.Frag} {Hf H : Hp} {sds : List SD} {vs : List V} {fp : List Addr} (h : ArgsR K Hf H sds vs fp) : sds.length = vs.length := by
  induction h with
  | nil => rfl
  | cons _ _ ih => simp [ih]
theorem ArgsR.env {K : PySem.W.Frag} {Hf H : Hp} {sds : List SD} {vs : List V} {fp : List Addr} (h : ArgsR K Hf H sds vs fp) (n : Nat) : EnvR K Hf H (sds.map (fun sd => (!isF sd.1, some sd)) ++ List.replicate n (false, none)) (vs.map some ++ List.replicate n none) fp := by
  induction h with
  | nil =>
    show EnvR K Hf H (List.replicate n (false, none)) (List.replicate n none) []
    induction n with
    | zero => exact .nil
    | succ n ih => rw [List.replicate_succ, List.replicate_succ]; exact .hole ih
  | cons h _ ih => exact .cons h ih
/-- the parameters that are given back -/
def pinsOf : List SD → List V → Slots
  | sd :: sds, v :: vs => (if isF sd.1 then none else some v) :: pinsOf sds vs
  | _, _ => []
theorem pinsOf_at : ∀ {sds : List SD} {vs : List V} {j : Nat} {v : V}, (pinsOf sds vs)[j]? = some (some v) → ∃ sd, sds[j]? = some sd ∧ isF sd.1 = false ∧ vs[j]? = some v
  | [], vs, j, v, h => by simp [pinsOf] at h
  | sd :: sds, [], j, v, h => by simp [pinsOf] at h
  | sd :: sds, w :: vs, 0, v, h => by
    simp only [pinsOf, List.getElem?_cons_zero, Option.some.injEq] at h
    cases e : isF sd.1 with
    | true => rw [e] at h; simp at h
    | false => rw [e] at h; simp at h; exact ⟨sd, rfl, e, by simp [h]⟩
  | sd :: sds, w :: vs, j + 1, v, h => by
    simp only [pinsOf, List.getElem?_cons_succ] at h
    obtain ⟨sd', a, b, c⟩ := pinsOf_at h
    exact ⟨sd', by simpa using a, b, by simpa using c⟩
theorem back_of {K : PySem.W.Frag} {Hf H : Hp} : ∀ {sds : List SD} {vs : List V} {env : Env} {σ : Slots} {fp : List Addr}, sds.length = vs.length → EnvR K Hf H env σ fp → (∀ (j : Nat) (v : V), (pinsOf sds vs)[j]? = some (some v) → σ[j]? = some (some v)) →
    ∃ fb, BackR K Hf H (backs sds env) vs fb ∧ (∀ a, a ∈ fb → a ∈ fp) ∧ (fp.Nodup → fb.Nodup)
  | [], [], env, σ, fp, _, r, p => by cases env <;> exact ⟨[], .nil, fun _ m => (nomatch m), fun _ => .nil⟩
  | sd :: sds, v :: vs, [], σ, fp, hl, r, p => by
    cases r
    obtain ⟨fb, h1, h2, h3⟩ := back_of (sds := sds) (vs := vs) (by simpa using hl) (EnvR.nil (K := K) (Hf := Hf) (H := H)) fun j w q => by
      have := p (j + 1) w (by simpa [pinsOf] using q)
      simp at this
    exact ⟨fb, .none h1, h2, h3⟩
  | sd :: sds, v :: vs, x :: env, σ, fp, hl, r, p => by
    cases r with
    | @hole b y _ σ' _ r =>
      obtain ⟨fb, h1, h2, h3⟩ := back_of (sds := sds) (vs := vs) (by simpa using hl) r fun j w q => by
        have := p (j + 1) w (by simpa [pinsOf] using q)
        simpa using this
      refine ⟨fb, ?_, h2, h3⟩
      show BackR K Hf H ((if isF sd.1 then none else none) :: _) _ _
      split <;> exact .none h1
    | @cons b s d w _ σ' f1 f2 h r =>
      obtain ⟨fb, h1, h2, h3⟩ := back_of (sds := sds) (vs := vs) (by simpa using hl) r fun j w q => by
        have := p (j + 1) w (by simpa [pinsOf] using q)
        simpa using this
      show ∃ fb, BackR K Hf H ((if isF sd.1 then none else some (s, d)) :: _) _ fb ∧ _
      by_cases e : isF sd.1 = true
      · rw [if_pos e]
        exact ⟨fb, .none h1, fun a m => List.mem_append_right _ (h2 a m), fun n => h3 (List.nodup_append.mp n).2.1⟩
      · rw [if_neg e]
        have ew : w = v := by
          have := p 0 v (by simp [pinsOf, e])
          simpa using this
        subst ew
        refine ⟨f1 ++ fb, .some h h1, fun a m => (List.mem_append.mp m).elim (fun m => List.mem_append_left _ m) fun m => List.mem_append_right _ (h2 a m), fun n => ?_⟩
        obtain ⟨n1, n2, n3⟩ := List.nodup_append.mp n
        exact List.nodup_append.mpr ⟨n1, h3 n2, fun a ma b mb z => n3 a ma b (h2 b mb) z⟩
section
variable {P : Program} {w : World} {K : PySem.W.Frag} {mg : Str → Option Value} {base : Heap}
/-- THE RULE for a def -/
theorem fn_ok {x qual : Str} {st : Stmt} {f : Addr} {fd : FuncData} {N ps : List Str} {k : Nat} {tb : TSd} (F : Fun K x qual st f fd) (S : FnScope N ps (defScope st))
    (hbody : ∀ (cdv : Value) (A : Around) (outer : List PySem.Env) (s : Shared) (H : Hp) (E : XK), Room k (A.deeper (envOfC qual (defScope st) s.heap.objs.size f cdv)) → PSsd (cxOf CX0 P w K mg base N qual (defScope st) f cdv A outer s H E).nox (defBody st) tb) :
    FnOk P w K mg base CX0 (k + 1) f fd ps (SpD K ps.length (mOf N.length tb)) := by
  refine F.ok S (fun vs H Q E h => ?_) (fun cdv A outer s H vs Q E hr h => ?_)
  · obtain ⟨_, _, _, sds, _, _, hl, a, _⟩ := h
    rw [← a.len]; exact hl
  · refine ⟨_, (hbody cdv A outer s H E hr).ps, ?_⟩
    obtain ⟨K0, Hf, G, sds, fp, R, hl, ar, pr, hm, k⟩ := h
    have hlen := ar.len
    have rel : Rel K ⟨K0, G, pinsOf sds vs⟩ Hf (startE N.length sds) (L2.start N vs) H fp := by
      refine ⟨pr.same, pr.fz, pr.gf, pr.gn, ?_, pr.nd, pr.fr, fun j v q => ?_⟩
      · have := ar.env (N.length - vs.length)
        unfold startE L2.start
        rw [hlen]
        exact this
      · obtain ⟨sd, q1, q2, q3⟩ := pinsOf_at q
        have hj : j < vs.length := (List.getElem?_eq_some_iff.mp q3).1
        refine ⟨?_, some sd, ?_⟩
        · unfold L2.start
          rw [List.getElem?_append_left (by simpa using hj), List.getElem?_map, q3]; rfl
        · unfold startE
          rw [List.getElem?_append_left (by rw [List.length_map]; omega), List.getElem?_map, q1]
          show some ((!isF sd.1), some sd) = _
          rw [q2]; rfl
    refine ⟨_, Hf, _, fp, _, rel, hm, ?_, ?_, fun _ _ _ _ _ _ _ z => z.elim, fun _ _ _ _ _ _ _ z => z.elim⟩
    · intro env σ H' Hf' fp' e r' z
      obtain ⟨fb, h1, h2, h3⟩ := back_of hlen r'.er fun j v q => (r'.pin j v q).1
      exact k (.f, .non) _ .non H' Hf' fb [] e h1 (.f .non) ⟨r'.same, r'.fz, r'.gf, r'.gn, h3 r'.nd, fun a m => r'.fr a (h2 a m)⟩ z
    · intro sd env σ H' Hf' fp' v fv e r' p ap z
      obtain ⟨fb, h1, h2, h3⟩ := back_of hlen r'.er fun j v q => (r'.pin j v q).1
      refine k sd _ v H' Hf' fb fv e h1 p ⟨r'.same, r'.fz, r'.gf, r'.gn, List.nodup_append.mpr ⟨ap.nd, h3 r'.nd, fun a ma b mb y => ap.ap a ma (h2 a (by rw [y]; exact mb))⟩, fun a m => ?_⟩ z
      rcases List.mem_append.mp m with m | m
      · exact ap.fr a m
      · exact r'.fr a (h2 a m)
/-- a promise in one's own words -/
theorem fn_imp {f : Addr} {fd : FuncData} {k n : Nat} {ps : List Str} {m m' : TM} (F : FnOk P w K mg base CX0 k f fd ps (SpD K n m)) (h : ∀ sds R, sds.length = n → m' sds R → m sds R) : FnOk P w K mg base CX0 k f fd ps (SpD K n m') :=
  F.imp fun vs H Q E q => by
    obtain ⟨K0, Hf, G, sds, fp, R, hl, ar, pr, hm, k⟩ := q
    exact ⟨K0, Hf, G, sds, fp, R, hl, ar, pr, h sds R hl hm, k⟩
end

/-! ### calls -/
/-- an argument: a shared value, or a name that is lent -/
abbrev CA := Sum D Nat
abbrev TCd := Env → (List CA → Env → Prop) → Prop
inductive CArgs (K : PySem.W.Frag) (Hf : Hp) (σ : Slots) : List CA → List V → Prop
  | nil : CArgs K Hf σ [] []
  | va {d v cs vs} : Rep K Hf v d → CArgs K Hf σ cs vs → CArgs K Hf σ (.inl d :: cs) (v :: vs)
  | ln {i v cs vs} : σ[i]? = some (some v) → CArgs K Hf σ cs vs → CArgs K Hf σ (.inr i :: cs) (v :: vs)
theorem CArgs.ext {K : PySem.W.Frag} {A B : Hp} {σ : Slots} {cs : List CA} {vs : List V} (e : Ext A B) (h : CArgs K A σ cs vs) : CArgs K B σ cs vs := by
  induction h with
  | nil => exact .nil
  | va p _ ih => exact .va (p.ext e) ih
  | ln p _ ih => exact .ln p ih
def LCA (K : PySem.W.Frag) (b : Bool) (t : TCd) : TA := fun σ H Q => ∃ (C : Ct) (Hf : Hp) (env : Env) (fp : List Addr) (R : List CA → Env → Prop), Rel K C Hf env σ H fp ∧ t env R ∧
  ∀ (cs : List CA) (env : Env) (vs : List V) (H' Hf' : Hp) (fp : List Addr), Ext Hf Hf' → Quiet b H H' → Rel K C Hf' env σ H' fp → CArgs K Hf' σ cs vs → R cs env → Q vs H'
structure PCd (X : Cx) (es : List Expr) (b : Bool) (t : TCd) : Prop where
  pa : PA X es (LCA X.K b t)
def cnil : TCd := fun env Q => Q [] env
def cva (te : TEd) (tr : TCd) : TCd := fun env Q => te env fun x e => tr e fun cs e2 => Q (.inl x.2 :: cs) e2
def cln (i : Nat) (tr : TCd) : TCd := fun env Q => (look env i).isSome = true ∧ tr env fun cs e2 => Q (.inr i :: cs) e2
section
variable {X : Cx} {e : Expr} {es : List Expr} {b b1 b2 : Bool} {te : TEd} {tr : TCd}
theorem pc_nil : PCd X [] true cnil := ⟨wkA pa_nil fun σ H Q w => by
  obtain ⟨C, Hf, env, fp, R, r, t, k⟩ := w
  exact k [] env [] H Hf fp Ext.rfl (fun _ => Ext.rfl) r .nil t⟩
theorem pc_va (ha : PD X e b1 te) (hr : PCd X es b2 tr) (hs : starEach (e :: es) X.env = (false, eval e X.env) :: starEach es X.env := by rfl) : PCd X (e :: es) (b1 && b2) (cva te tr) := ⟨wkA (pa_cons ha.pe hr.pa hs) fun σ H Q w => by
  obtain ⟨C, Hf, env, fp, R, r, t, k⟩ := w
  refine le_one (b := b1) r t fun x env1 v H1 Hf1 fp1 e1 q1 r1 p1 h1 => ?_
  exact ⟨C, Hf1, env1, fp1, _, r1, h1, fun cs env2 vs H2 Hf2 fp2 e2 q2 r2 p2 h2 => k (.inl x.2 :: cs) env2 (v :: vs) H2 Hf2 fp2 (e1.trans e2) (q1.trans q2) r2 (.va (p1.ext e2) p2) h2⟩⟩
theorem pc_ln {i : Nat} (ha : PE X e (tVar i)) (hr : PCd X es b2 tr) (hs : starEach (e :: es) X.env = (false, eval e X.env) :: starEach es X.env := by rfl) : PCd X (e :: es) b2 (cln i tr) := ⟨wkA (pa_cons ha hr.pa hs) fun σ H Q w => by
  obtain ⟨C, Hf, env, fp, R, r, ⟨t0, t⟩, k⟩ := w
  obtain ⟨v, hv⟩ := r.at t0
  exact ⟨v, hv, C, Hf, env, fp, _, r, t, fun cs env2 vs H2 Hf2 fp2 e2 q2 r2 p2 h2 => k (.inr i :: cs) env2 (v :: vs) H2 Hf2 fp2 e2 q2 r2 (.ln hv p2) h2⟩⟩
end
def lendA : List CA → Env → Option (List SD × Env)
  | [], e => some ([], e)
  | .inl d :: cs, e => (lendA cs e).map fun p => ((.f, d) :: p.1, p.2)
  | .inr i :: cs, e => match look e i with
    | some (.f, d) => (lendA cs e).map fun p => ((.f, d) :: p.1, p.2)
    | some sd => (lendA cs (putS e i none)).map fun p => (sd :: p.1, p.2)
    | none => none
def backA : List CA → List (Option SD) → Env → Env
  | .inr i :: cs, some sd :: bs, e => backA cs bs (putS e i (some sd))
  | _ :: cs, _ :: bs, e => backA cs bs e
  | _, _, e => e
/-- may be given back: a name that was lent, or nothing -/
def okB : List CA → List (Option SD) → Env → Bool
  | .inr i :: cs, some sd :: bs, e => (match e[i]? with | some (_, none) => true | _ => false) && okB cs bs (putS e i (some sd))
  | .inl _ :: cs, none :: bs, e => okB cs bs e
  | .inr _ :: cs, none :: bs, e => okB cs bs e
  | [], [], _ => true
  | _, _, _ => false
def cl (m : TM) (tr : TCd) : TEd := fun env Q => tr env fun cs e => match lendA cs e with
  | some (sds, e2) => m sds fun sd bs => okB cs bs e2 = true ∧ Q sd (backA cs bs e2)
  | none => False
section
variable {K : PySem.W.Frag} {Hf H : Hp} {σ : Slots}
theorem lend_ok : ∀ {C : Ct} {cs : List CA} {vs : List V} {env : Env} {fp : List Addr} {sds : List SD} {e2 : Env}, Rel K C Hf env σ H fp → CArgs K Hf σ cs vs → lendA cs env = some (sds, e2) →
    ∃ fa f2, ArgsR K Hf H sds vs fa ∧ Rel K C Hf e2 σ H f2 ∧ Apart C Hf fa f2
  | C, [], _, env, fp, sds, e2, r, c, h => by
    cases c
    simp only [lendA, Option.some.injEq, Prod.mk.injEq] at h
    obtain ⟨rfl, rfl⟩ := h
    exact ⟨[], fp, .nil, r, Apart.nil⟩
  | C, .inl d :: cs, _, env, fp, sds, e2, r, c, h => by
    cases c with
    | va p c =>
      simp only [lendA, Option.map_eq_some_iff] at h
      obtain ⟨q, h1, h2⟩ := h
      obtain ⟨s1, s2⟩ := q
      cases h2
      obtain ⟨fa, f2, a, b, ap⟩ := lend_ok r c h1
      exact ⟨fa, f2, .cons (f1 := []) (.f p) a, b, ap⟩
  | C, .inr i :: cs, _, env, fp, sds, e2, r, c, h => by
    cases c with
    | ln hv c =>
      simp only [lendA] at h
      cases e : look env i with
      | none => rw [e] at h; simp at h
      | some sd =>
        rw [e] at h
        obtain ⟨s, d⟩ := sd
        obtain ⟨v', fv, fr, hv', rs, r1, ap1⟩ := r.take e
        rw [hv] at hv'
        cases hv'
        by_cases hs : s = .f
        · subst hs
          simp only [Option.map_eq_some_iff] at h
          obtain ⟨q, h1, h2⟩ := h
          obtain ⟨s1, s2⟩ := q
          cases h2
          obtain ⟨fa, f2, a, b, ap⟩ := lend_ok r c h1
          cases rs with
          | f p => exact ⟨fa, f2, .cons (f1 := []) (.f p) a, b, ap⟩
        · have h : (lendA cs (putS env i none)).map (fun p => ((s, d) :: p.1, p.2)) = some (sds, e2) := by
            cases s with
            | f => exact absurd rfl hs
            | o s => exact h
            | ob s => exact h
          simp only [Option.map_eq_some_iff] at h
          obtain ⟨q, h1, h2⟩ := h
          obtain ⟨s1, s2⟩ := q
          cases h2
          -- what is taken is held apart
          have rh : Rel K { C with G := fun a => C.G a ∧ a ∉ fv } Hf (putS env i none) σ H fr := ⟨r1.same, r1.fz, fun a n => ⟨r1.gf a n, fun m => n (ap1.fr a m).2.1⟩, fun a n => ⟨r1.gn a n, fun m => rs.there a m n⟩, r1.er, r1.nd, fun a m => ⟨(r1.fr a m).1, (r1.fr a m).2.1, (r1.fr a m).2.2, fun m' => ap1.ap a m' m⟩, r1.pin⟩
          obtain ⟨fa, f2, a, b, ap⟩ := lend_ok rh c h1
          refine ⟨fv ++ fa, f2, .cons rs a, ⟨b.same, b.fz, fun a n => (b.gf a n).1, fun a n => (b.gn a n).1, b.er, b.nd, fun a m => ⟨(b.fr a m).1, (b.fr a m).2.1, (b.fr a m).2.2.1⟩, b.pin⟩, List.nodup_append.mpr ⟨ap1.nd, ap.nd, fun a ma b mb z => (ap.fr b mb).2.2.2 (by rw [← z]; exact ma)⟩, fun a m => ?_, fun a m m' => ?_⟩
          · rcases List.mem_append.mp m with m | m
            · exact ap1.fr a m
            · exact ⟨(ap.fr a m).1, (ap.fr a m).2.1, (ap.fr a m).2.2.1⟩
          · rcases List.mem_append.mp m with m | m
            · exact (b.fr a m').2.2.2 m
            · exact ap.ap a m m'
theorem back_ok {C : Ct} : ∀ {cs : List CA} {vs : List V} {bs : List (Option SD)} {env : Env} {fp fb : List Addr}, Rel K C Hf env σ H fp → CArgs K Hf σ cs vs → BackR K Hf H bs vs fb → okB cs bs env = true → Apart C Hf fb fp →
    ∃ f2, Rel K C Hf (backA cs bs env) σ H f2 ∧ ∀ a, a ∈ f2 → a ∈ fb ∨ a ∈ fp
  | [], _, bs, env, fp, fb, r, c, b, o, ap => by
    cases c
    cases b
    exact ⟨fp, r, fun a m => .inr m⟩
  | .inl d :: cs, _, bs, env, fp, fb, r, c, b, o, ap => by
    cases c with
    | va p c =>
      cases b with
      | none b =>
        obtain ⟨f2, h1, h2⟩ := back_ok r c b (by simpa [okB] using o) ap
        exact ⟨f2, h1, h2⟩
      | some q b => simp [okB] at o
  | .inr i :: cs, _, bs, env, fp, fb, r, c, b, o, ap => by
    cases c with
    | ln hv c =>
      cases b with
      | none b =>
        obtain ⟨f2, h1, h2⟩ := back_ok r c b (by simpa [okB] using o) ap
        exact ⟨f2, h1, h2⟩
      | @some s d v bs vs f1 f2 q b =>
        simp only [okB, Bool.and_eq_true] at o
        obtain ⟨o1, o2⟩ := o
        have e : env[i]? = some (pinned env i, none) := by
          unfold pinned
          cases e : env[i]? with
          | none => rw [e] at o1; cases o1
          | some x =>
            rw [e] at o1
            obtain ⟨b0, y⟩ := x
            cases y with
            | none => rfl
            | some _ => cases o1
        obtain ⟨g1, g2, g3⟩ := List.nodup_append.mp ap.nd
        obtain ⟨fp', h1, h2⟩ := r.er.put (b' := pinned env i) e hv q
        have rel : Rel K C Hf (putS env i (some (s, d))) σ H fp' := by
          refine ⟨r.same, r.fz, r.gf, r.gn, h1, h2.nodup_iff.mpr (List.nodup_append.mpr ⟨g1, r.nd, fun a ma b mb z => ap.ap a (List.mem_append_left _ ma) (by rw [z]; exact mb)⟩), fun a m => ?_, fun j w qq => ?_⟩
          · rcases List.mem_append.mp (h2.mem_iff.mp m) with m | m
            · exact ap.fr a (List.mem_append_left _ m)
            · exact r.fr a m
          · obtain ⟨q1, x, q2⟩ := r.pin j w qq
            exact ⟨q1, pinned_putS q2⟩
        have ap2 : Apart C Hf f2 fp' := ⟨g2, fun a m => ap.fr a (List.mem_append_right _ m), fun a m m' => by
          rcases List.mem_append.mp (h2.mem_iff.mp m') with m' | m'
          · exact g3 a m' a m rfl
          · exact ap.ap a (List.mem_append_right _ m) m'⟩
        obtain ⟨f3, h3, h4⟩ := back_ok rel c b o2 ap2
        refine ⟨f3, h3, fun a m => ?_⟩
        rcases h4 a m with m | m
        · exact .inl (List.mem_append_right _ m)
        · rcases List.mem_append.mp (h2.mem_iff.mp m) with m | m
          · exact .inl (List.mem_append_left _ m)
          · exact .inr m
end
section
variable {X : Cx} {k : Nat} {f : Addr} {fd : FuncData} {ps : List Str} {x : Str} {p pos : Pos} {e : Expr} {es : List Expr} {b : Bool} {m : TM} {tr : TCd}
theorem le_cl {n : Nat} {σ : Slots} {H : Hp} {Q : VK} {E : XK} (hm : ∀ sds R, m sds R → sds.length = n) (w : LE X.K false (cl m tr) σ H Q) : LCA X.K b tr σ H fun vs H1 => SpD X.K n m (vs ++ []) H1 Q E := by
  obtain ⟨C, Hf, env, fp, R, r, t, k⟩ := w
  refine ⟨C, Hf, env, fp, _, r, t, fun cs env1 vs H1 Hf1 fp1 e1 q1 r1 c1 h1 => ?_⟩
  show SpD X.K n m (vs ++ []) H1 Q E
  rw [List.append_nil]
  cases hl : lendA cs env1 with
  | none => rw [hl] at h1; exact h1.elim
  | some z =>
    obtain ⟨sds, e2⟩ := z
    rw [hl] at h1
    obtain ⟨fa, f2, ar, r2, ap⟩ := lend_ok r1 c1 hl
    have arth : ∀ a, a ∈ fa → H1 a ≠ none := by
      clear hl h1 ap c1
      induction ar with
      | nil => exact fun _ m => nomatch m
      | cons h _ ih => exact fun a m => (List.mem_append.mp m).elim (h.there a) (ih a)
    refine ⟨fun a => if a ∈ fa then none else H1 a, Hf1, fun a => C.G a ∧ a ∉ f2, sds, fa, _, hm _ _ h1, ar, ⟨fun a u ea => ?_, r2.fz, fun a n => ⟨r2.gf a n, fun m => n (r2.fr a m).2.1⟩, fun a n => ⟨r2.gn a n, fun m => r2.tr a m n⟩, ap.nd, fun a m => ⟨if_pos m, (ap.fr a m).2.1, (ap.fr a m).2.2, ap.ap a m⟩⟩, h1, ?_⟩
    · by_cases m : a ∈ fa
      · rw [if_pos m] at ea; cases ea
      · rw [if_neg m] at ea; exact ea
    · intro sd bs v H' Hf' fb fv ex bk rs pr hR
      have kept : ∀ a u, a ∉ fa → H1 a = some u → H' a = some u := fun a u m q => pr.same a u (by show (if a ∈ fa then none else H1 a) = _; rw [if_neg m]; exact q)
      have k0 : ∀ a u, C.K0 a = some u → a ∉ fa ∧ H1 a = some u := fun a u q => ⟨fun m => (by rw [(ap.fr a m).1] at q; cases q), r2.same a u q⟩
      have rel : Rel X.K C Hf' e2 σ H' f2 := by
        refine ⟨fun a u q => kept a u (k0 a u q).1 (k0 a u q).2, pr.fz, fun a n => (pr.gf a n).1, fun a n => (pr.gn a n).1, r2.er.to ex fun a m => ?_, r2.nd, fun a m => ⟨(r2.fr a m).1, ?_, (r2.fr a m).2.2⟩, r2.pin⟩
        · cases q : H1 a with
          | none => exact absurd q (r2.tr a m)
          | some u => exact kept a u (fun m' => ap.ap a m' m) q
        · cases q : Hf' a with
          | none => rfl
          | some u => exact absurd m (pr.gf a (by rw [q]; exact fun z => nomatch z)).2
      have k0n : ∀ a, (if a ∈ fa then none else H1 a) = none → C.K0 a = none := fun a q => by
        cases z : C.K0 a with
        | none => rfl
        | some u =>
          obtain ⟨m, h⟩ := k0 a u z
          rw [if_neg m, h] at q; cases q
      obtain ⟨g1, g2, g3⟩ := List.nodup_append.mp pr.nd
      have apb : Apart C Hf' fb f2 := ⟨g2, fun a m => by
        obtain ⟨u1, u2, u3, _⟩ := pr.fr a (List.mem_append_right _ m)
        exact ⟨k0n a u1, u2, u3⟩, fun a m => (pr.fr a (List.mem_append_right _ m)).2.2.2⟩
      obtain ⟨f3, r3, m3⟩ := back_ok rel (c1.ext ex) bk hR.1 apb
      refine k sd _ v H' Hf' f3 fv (e1.trans ex) (fun z => nomatch z) r3 rs ⟨g1, fun a m => ?_, fun a m m' => ?_⟩ hR.2
      · obtain ⟨u1, u2, u3, _⟩ := pr.fr a (List.mem_append_left _ m)
        exact ⟨k0n a u1, u2, u3⟩
      · rcases m3 a m' with m' | m'
        · exact g3 a m a m' rfl
        · exact (pr.fr a (List.mem_append_left _ m)).2.2.2 m'
theorem pd_cl {n : Nat} (F : FnOk X.prog X.w X.K X.mg X.base CX0 k f fd ps (SpD X.K n m)) (hmn : ∀ sds R, m sds R → sds.length = n) (hr : Room k X.A) (hg : Gl X x) (hm : X.mg x = some (.ref f)) (hk : PySem.W.keepIn X.K (.ref f) = true) (hb : Binds X.K fd ps [])
    (ha : PCd X (e :: es) b tr) (hdb : (x == ("__debug__" : Str)) = false := by decide) (he : starEach (e :: es) X.env = (false, eval e X.env) :: starEach es X.env := by rfl) (hpl : (backTo pos (starEach es X.env)).any (·.1) = false := by rfl) :
    PD X (.Call (.Name x p) (e :: es) [] pos) false (cl m tr) :=
  ⟨wkE (pe_call F hr hg hm hk hb .nil pass0 ha.pa hdb he hpl) fun σ H Q w => le_cl hmn w⟩
theorem pd_cl0 {n : Nat} (F : FnOk X.prog X.w X.K X.mg X.base CX0 k f fd ps (SpD X.K n m)) (hmn : ∀ sds R, m sds R → sds.length = n) (hr : Room k X.A) (hg : Gl X x) (hm : X.mg x = some (.ref f)) (hk : PySem.W.keepIn X.K (.ref f) = true) (hb : Binds X.K fd ps [])
    (hdb : (x == ("__debug__" : Str)) = false := by decide) : PD X (.Call (.Name x p) [] [] pos) false (cl m cnil) :=
  ⟨wkE (pe_call0 F hr hg hm hk hb .nil pass0 hdb) fun σ H Q w => by
    obtain ⟨vs, h⟩ : ∃ _ : Unit, True := ⟨(), trivial⟩
    have z := le_cl (b := true) (E := E0) hmn w
    obtain ⟨C, Hf, env, fp, R, r, t, kk⟩ := z
    exact kk [] env [] H Hf fp Ext.rfl (fun _ => Ext.rfl) r .nil t⟩
end
end DL
set_option Elab.async false
set_option linter.all false
set_option maxRecDepth 100000
namespace DL
open PySem PySem.Spec PyProof.Rows L2

/-! ### a for over what a name holds: a list, a tuple, a dict's keys -/
def frB (ds : List D) (g : TGd) (tb : TSd) (D : EndsD) (e : Env) : Prop := ∃ W : Nat → Env → Prop, W 0 e ∧ (∀ n d e, ds[n]? = some d → W n e → g (.f, d) e fun e2 => tb { D with nx := W (n + 1), ct := W (n + 1), bk := D.nx } e2) ∧ ∀ e, W ds.length e → D.nx e
def frn (i : Nat) (g : TGd) (tb : TSd) : TSd := fun D env => rd i env fun x e => match itemsOf x.2 with
  | some ds => frB ds g tb D e
  | none => False
section
variable {X : Cx} {pos : Pos} {tg : Expr} {K : PySem.W.Frag} {b1 b2 : Bool}
theorem ps_frn {i : Nat} {iter : Expr} {body : List Stmt} {g : TGd} {tb : TSd} (hp : PassesOwn (model X.prog X.w) X.A X.env X.xe) (hc : X.calm = true) (hi : PE X iter (tVar i)) (hg : PGd X tg g) (hb : PSsd X body tb)
    (hs : ∀ x, foldedSetIterable iter X.env x = pure x := by intro _; rfl) : PSd X (.For tg iter body [] pos) (frn i g tb) := by
  have bL := ps_for (pos := pos) hp hc (pi_list hi) hg.pg hb.ps hs
  have bT := ps_for (pos := pos) hp hc (pi_tup hi) hg.pg hb.ps hs
  have bK := ps_for (pos := pos) hp hc (pi_keys hi) hg.pg hb.ps hs
  refine ⟨wkS (ps_or bL (ps_or bT (ps_or bK (ps_lock bK)))) fun D σ H w => ?_⟩
  obtain ⟨C, Hf, env, fp, Dd, r, t, k⟩ := w
  obtain ⟨v, dd, env1, Hf1, fp1, hv, e1, r1, p, h⟩ := rd_inv r t
  have k1 := k.ext e1
  cases dd <;> first | exact h.elim | skip
  · obtain ⟨a, vs, rfl, s, q⟩ := p.tup_inv
    exact .inr (.inl ⟨_, hv, a, rfl, ⟨vs, SqT.fz r1.fz s⟩, for_core (need := fun _ => none) (Itt_ok s q) (fun _ _ z => nomatch z) r1 k1 h⟩)
  · obtain ⟨a, vs, rfl, s, q⟩ := p.lst_inv
    exact .inl ⟨_, hv, a, rfl, ⟨vs, SqL.of (r1.fz.at s rfl)⟩, for_core (need := fun _ => none) (Itl_ok (SqL.of s) q) (fun _ _ z => nomatch z) r1 k1 h⟩
  · obtain ⟨a, vs, rfl, s, q⟩ := p.ro_inv
    exact .inl ⟨_, hv, a, rfl, ⟨vs, SqL.fz r1.fz s⟩, for_core (need := fun _ => none) (Itl_ok s q) (fun _ _ z => nomatch z) r1 k1 h⟩
  · obtain ⟨d, ks, rfl, hf, q⟩ := p.dct_inv
    exact .inr (.inr (frk_core r1 hv hf q k1 h))
end

/-! ### a display of one pair -/
def dc1 (tk tv : TEd) : TEd := fun env Q => tk env fun x e1 => tv e1 fun y e2 => match keyD x.2 with
  | some k => Q (.o .f, .dct [(k, y.2)]) e2
  | none => False
section
variable {X : Cx} {pos : Pos} {K : PySem.W.Frag} {b b1 b2 : Bool}
theorem pd_dc1 {k v : Expr} {tk tv : TEd} (hk : PD X k b1 tk) (hv : PD X v b2 tv) (h1 : ([some k] : List (Option Expr)) ≠ [] := by simp) : PD X (.Dict [some k] [v] pos) false (dc1 tk tv) := by
  refine ⟨wkE (pe_disp (pps_cons hk.pe hv.pe pps_nil) rfl rfl h1 (show 1 ≤ 15 by decide)) fun σ H Q w => ?_⟩
  obtain ⟨C, Hf, env, fp, R, r, t, kk⟩ := w
  intro p hp
  obtain ⟨f1, f2, f3, f4⟩ := r.fresh hp
  -- the new dict stands aside meanwhile
  have r0 : Rel X.K { C with K0 := fun a => if a = p then some (.dK []) else C.K0 a, G := fun a => C.G a ∧ a ≠ p } Hf env σ (upd H p (.dK [])) fp := by
    have ra := r.alloc (o := .dK []) hp
    refine ⟨fun a u e => ?_, ra.fz, fun a n => ⟨r.gf a n, fun z => n (by rw [z]; exact f2)⟩, fun a n => ⟨ra.gn a n, fun z => by rw [z, upd_same] at n; cases n⟩, ra.er, r.nd, fun a m => ⟨?_, (r.fr a m).2.1, (r.fr a m).2.2, fun z => f4 (by rw [← z]; exact m)⟩, r.pin⟩
    · have e : (if a = p then some (HO.dK []) else C.K0 a) = some u := e
      by_cases z : a = p
      · subst z; rw [if_pos rfl] at e; rw [upd_same]; exact e
      · rw [if_neg z] at e; exact ra.same a u e
    · show (if a = p then some (HO.dK []) else C.K0 a) = none
      rw [if_neg fun z => f4 (by rw [← z]; exact m)]; exact (r.fr a m).1
  refine le_one (b := b1) r0 t fun x env1 v1 H1 Hf1 fp1 e1 _ r1 p1 h1 => ?_
  refine le_one (b := b2) r1 h1 fun y env2 v2 H2 Hf2 fp2 e2 _ r2 p2 h2 => ?_
  cases e : keyD x.2 with
  | none => rw [e] at h2; exact h2.elim
  | some key =>
    rw [e] at h2
    obtain ⟨kh, ek, rfl⟩ := keyD_v e (p1.ext e2)
    have hd : H2 p = some (.dK []) := r2.same p _ (by show (if p = p then some (HO.dK []) else C.K0 p) = _; rw [if_pos rfl])
    refine ⟨hd, [(kh, v2)], rfl, by show 1 ≤ 15; decide, ?_⟩
    have em : mergeK [] [(kh, v2)] = [(kh, v2)] := rfl
    rw [em]
    have nfp : ∀ a, a ∈ fp2 → a ≠ p := fun a m => (r2.fr a m).2.2.2
    have nhf : Hf2 p = none := by
      cases q : Hf2 p with
      | none => rfl
      | some u => exact absurd rfl (r2.gf p (by rw [q]; exact fun z => nomatch z)).2
    have rel : Rel X.K C Hf2 env2 σ (upd H2 p (.dK [(kh, v2)])) fp2 := by
      refine ⟨fun a u q => ?_, fun a u q => ?_, fun a n => (r2.gf a n).1, fun a n => ?_, r2.er.to Ext.rfl fun a m => upd_ne (nfp a m), r2.nd, fun a m => ⟨?_, (r2.fr a m).2.1, (r2.fr a m).2.2.1⟩, r2.pin⟩
      · have z : a ≠ p := fun z => by rw [z, f1] at q; cases q
        rw [upd_ne z]
        exact r2.same a u (by show (if a = p then some (HO.dK []) else C.K0 a) = some u; rw [if_neg z]; exact q)
      · rw [upd_ne fun z => by rw [z, nhf] at q; cases q]; exact r2.fz a u q
      · by_cases z : a = p
        · subst z; rw [upd_same] at n; cases n
        · rw [upd_ne z] at n; exact (r2.gn a n).1
      · have q : (if a = p then some (HO.dK []) else C.K0 a) = none := (r2.fr a m).1
        rw [if_neg (nfp a m)] at q; exact q
    have rk : RepK X.K Hf2 [(kh, v2)] [(key, y.2)] := by
      cases key <;> cases ek
      · exact .num p2 .nil
      · exact .text p2 .nil
    exact kk (.o .f, .dct [(key, y.2)]) env2 _ _ Hf2 fp2 [p] (e1.trans e2) (fun z => nomatch z) rel (.dk upd_same (RepSk.flat rk)) ⟨by simp, fun a m => by rw [List.mem_singleton.mp m]; exact ⟨f1, nhf, f3⟩, fun a m m' => nfp a m' (List.mem_singleton.mp m)⟩ h2

/-! ### isinstance with a built-in class -/
def isB (T : String) : D → Option Bool
  | .non => some false
  | .bl _ => some (T == "bool" || T == "int")
  | .int _ => some (T == "int")
  | .str _ => some (T == "str")
  | .tup _ => some (T == "tuple")
  | .lst _ => some (T == "list")
  | .ro _ => some (T == "list")
  | .dct _ => some (T == "dict")
  | _ => none
def isi (T : String) (te : TEd) : TEd := fun env Q => te env fun x e => match isB T x.2 with
  | some c => Q (.f, .bl c) e
  | none => False
def kitT (T : String) : Prop := kitB "NoneType" T = some false ∧ kitB "bool" T = some (T == "bool" || T == "int") ∧ kitB "int" T = some (T == "int") ∧ kitB "str" T = some (T == "str") ∧ kitB "tuple" T = some (T == "tuple") ∧ kitB "list" T = some (T == "list") ∧ kitB "dict" T = some (T == "dict")
theorem kit_bool : kitT "bool" := by unfold kitT; decide +kernel
theorem kit_int : kitT "int" := by unfold kitT; decide +kernel
theorem kit_str : kitT "str" := by unfold kitT; decide +kernel
theorem kit_tuple : kitT "tuple" := by unfold kitT; decide +kernel
theorem kit_list : kitT "list" := by unfold kitT; decide +kernel
theorem kit_dict : kitT "dict" := by unfold kitT; decide +kernel
theorem tyX_lst {H : Hp} {a : Addr} {vs : List V} (s : SqL K H a vs) : TyX K H (.ref a) (.type "list") := by
  rcases s with (s | ⟨o, s⟩) | ⟨o, _, _, h1, h2, _⟩
  · exact .base (.lst s)
  · exact .base (.frz s)
  · exact .kList h1 h2
theorem tyX_tup {H : Hp} {a : Addr} {vs : List V} (s : SqT K H a vs) : TyX K H (.ref a) (.type "tuple") := by
  rcases s with (s | ⟨o, s⟩) | ⟨o, _, _, h1, h2, _⟩
  · exact .base (.tup s)
  · exact .fTuple s
  · exact .kTuple h1 h2
theorem pd_isi {T : String} {x : Str} {e : Expr} {p p2 : Pos} {te : TEd} (kt : kitT T) (he : PD X e b te) (hg : Gl X "isinstance") (hm : X.mg "isinstance" = none) (hg2 : Gl X x) (hm2 : X.mg x = none) (hv2 : bootBuiltins x = some (.type T)) (hn2 : x ≠ "__name__" := by decide) (hd2 : (x == ("__debug__" : Str)) = false := by decide)
    (hs : starEach [e, .Name x p2] X.env = (false, eval e X.env) :: starEach [.Name x p2] X.env := by rfl) (hs2 : starEach [.Name x p2] X.env = (false, eval (.Name x p2) X.env) :: starEach [] X.env := by rfl)
    (hpl : (backTo pos (starEach [.Name x p2] X.env)).any (·.1) = false := by rfl) (hv : bootBuiltins "isinstance" = some (.builtin "isinstance") := by decide +kernel) : PD X (.Call (.Name "isinstance" p) [e, .Name x p2] [] pos) b (isi T te) := by
  refine ⟨wkE (pe_callB call_isi hg hm hv (pa_cons he.pe (pa_cons (pe_bltn (v := .ty T) hg2 hm2 hv2 rfl hn2 hd2) pa_nil hs2) hs) (by decide) (by decide) hs hpl) fun σ H Q w => ?_⟩
  obtain ⟨C, Hf, env, fp, R, r, t, k⟩ := w
  refine le_one r t fun y env1 v H1 Hf1 fp1 e1 q1 r1 p1 h1 => ?_
  obtain ⟨s, d⟩ := y
  obtain ⟨k1, k2, k3, k4, k5, k6, k7⟩ := kt
  have fin : ∀ {c : Bool} {t : String}, isB T d = some c → kitB t T = some c → TyX X.K H1 v (.type t) → rIsi X.K [v, .ty T] H1 Q := fun {c t} h hk ty => by
    have h1 : (match isB T d with
      | some c => R (.f, .bl c) env1
      | none => False) := h1
    rw [h] at h1
    exact ⟨v, .ty T, .type t, .type T, c, rfl, .ty T, ty, kit_ty hk, k (.f, .bl c) env1 _ H1 Hf1 fp1 [] e1 q1 r1 (.f (.bl c)) Apart.nil h1⟩
  cases d <;> first | exact h1.elim | skip
  · rw [p1.non_inv] at fin ⊢; exact fin rfl k1 (.base .non)
  · rw [p1.bl_inv] at fin ⊢; exact fin rfl k2 (.base (.bl _))
  · rw [p1.int_inv] at fin ⊢; exact fin rfl k3 (.base (.int _))
  · rw [p1.str_inv] at fin ⊢; exact fin rfl k4 (.base (.str _))
  · obtain ⟨a, vs, rfl, s, q⟩ := p1.tup_inv; exact fin rfl k5 (tyX_tup (SqT.fz r1.fz s))
  · obtain ⟨a, vs, rfl, s, q⟩ := p1.lst_inv; exact fin rfl k6 (tyX_lst (SqL.of (r1.fz.at s rfl)))
  · obtain ⟨a, vs, rfl, s, q⟩ := p1.ro_inv; exact fin rfl k6 (tyX_lst (SqL.fz r1.fz s))
  · obtain ⟨a, ks, rfl, s, q⟩ := p1.dct_inv
    rcases r1.fz a _ s with z | ⟨_, o, z⟩
    · exact fin rfl k7 (.base (.dK z))
    · exact fin rfl k7 (.fDict z)

/-! ### a written table of numbers: T[name] -/
def WTab (K : PySem.W.Frag) (w : World) (a : Addr) (tab : List (Str × Int)) : Prop := ∀ s n, tab.lookup s = some n → KDct K w a s (.int n)
def wix (tab : List (Str × Int)) (te : TEd) : TEd := fun env Q => te env fun x e => match x.2 with
  | .str s => match tab.lookup s with
    | some n => Q (.f, .int n) e
    | none => False
  | _ => False
theorem pd_wix {x : Str} {a : Addr} {tab : List (Str × Int)} {p : Pos} {c : Expr} {te : TEd} (hg : Gl X x) (hm : X.mg x = some (.ref a)) (ht : WTab X.K X.w a tab) (he : PD X c b te) (hd : (x == ("__debug__" : Str)) = false := by decide) (hs : PlainIx c := by intro _ _; rfl) : PD X (.Subscript (.Name x p) c pos) b (wix tab te) := by
  refine ⟨wkE (pe_ix ix_kdict (pe_glob (v := .ref a) hg hm rfl hd) he.pe hs) fun σ H Q w => ?_⟩
  obtain ⟨C, Hf, env, fp, R, r, t, k⟩ := w
  refine le_one r t fun y env1 v H1 Hf1 fp1 e1 q1 r1 p1 h1 => ?_
  obtain ⟨s, d⟩ := y
  cases d <;> first | exact h1.elim | skip
  rename_i z
  have h1 : (match tab.lookup z with
    | some n => R (.f, .int n) env1
    | none => False) := h1
  cases q : tab.lookup z with
  | none => rw [q] at h1; exact h1.elim
  | some n =>
    rw [q] at h1
    exact ⟨a, z, .int n, rfl, p1.str_inv, ht z n q, k (.f, .int n) env1 _ H1 Hf1 fp1 [] e1 q1 r1 (.f (.int n)) Apart.nil h1⟩
end

/-! ### xs[i] op= v, d[k] op= v, of one's own -/
def rGetG (K : PySem.W.Frag) : V → V → Hp → VK → Prop := fun x y H Q => (∃ p xs i v, x = .ref p ∧ y = .int i ∧ SqL K H p xs ∧ atI xs i = some v ∧ Q v H) ∨ ∃ a v, x = .ref a ∧ DGet H a y (some v) ∧ Q v H
section
variable {X : Cx} {pos : Pos} {K : PySem.W.Frag} {Hf H : Hp} {C : Ct} {env : Env} {σ : Slots} {fp fv : List Addr} {b b1 b2 : Bool}
theorem get_any (hu : X.A.units + 1 < cLine) : PGet X (rGetG X.K) := by
  intro pins s σ H o i ov iv Q I ro ri h
  rcases h with ⟨p, xs, k, z, rfl, rfl, hq, he, q⟩ | ⟨a, v, rfl, g, q⟩
  · cases ro
    obtain ⟨t, rfl⟩ := ri
    obtain ⟨its, r, pl, hz⟩ := I.list hq
    obtain ⟨j, h1, h2, h3, h4, h5⟩ := atI_get he
    obtain ⟨w, ew, rw'⟩ := r.get h2
    have hl := r.length
    have hn := line63
    have fin : EP X pins σ Q w s := ⟨z, H, I, rw', q⟩
    by_cases h0 : 0 ≤ k
    · have hj : k.toNat = j := by
        rw [seqIndex_of h0 h5] at h1
        exact Option.some.inj h1
      exact wpAny_getItem_list pl.isList h0 (by omega) (by rw [hj]; simpa using ew) fin
    · have hj : (k + (its.toArray.size : Int)).toNat = j := by
        rw [seqIndex_neg (by omega) h4] at h1
        rw [List.size_toArray, ← hl]
        exact Option.some.inj h1
      exact wpAny_getItem_list_neg pl.isList (by omega) (by rw [List.size_toArray] <;> omega) (by omega) (by rw [hj]; simpa using ew) fin
  · obtain rfl : ov = Value.ref a := ro
    exact d_getItem hu I g ri fun w' s3 I3 rw' => ⟨v, H, I3, rw', q⟩
def augS (r : D → D → (SD → Prop) → Prop) (i : Nat) (ty tv : TEd) : TSd := fun D env => (look env i).isSome = true ∧ ty env fun y e1 => match look e1 i with
  | some (.o .f, d) => ixD d y.2 fun old => tv e1 fun v e2 => r old.2 v.2 fun z => match look e2 i with
    | some (.o .f, d2) => setD d2 y.2 z.2 fun d' => D.nx (putS e2 i (some (.o .f, d')))
    | _ => False
  | _ => False
theorem ixD_get {v w : V} {x y : D} {fv : List Addr} {kp : SD → Prop} {Q : VK} (px : RepS K Hf H (.o .f) v x fv) (py : Rep K Hf w y) (h : ixD x y kp) (k : ∀ d u, Rep K Hf u d → kp (.f, d) → Q u H) : rGetG K v w H Q := by
  cases px with
  | @lst a vs _ ds f1 hl hr =>
    obtain ⟨p, _⟩ := hr.unflat
    cases y <;> first | exact h.elim | skip
    rename_i i
    rw [py.int_inv]
    have h : (match atI ds i with
      | some x => kp (.f, x)
      | none => False) := h
    cases q : atI ds i with
    | none => rw [q] at h; exact h.elim
    | some d =>
      rw [q] at h
      obtain ⟨u, h1, h2⟩ := atI_rep p q
      exact .inl ⟨a, vs, i, u, rfl, rfl, SqL.of hl, h1, k d u h2 h⟩
  | @dk a ks _ ds f1 hl hr =>
    obtain ⟨p, _⟩ := hr.unflat
    have h : (match keyD y with
      | some key => match lookK ds key with
        | some x => kp (.f, x)
        | none => False
      | none => False) := h
    cases e : keyD y with
    | none => rw [e] at h; exact h.elim
    | some key =>
      rw [e] at h
      dsimp only at h
      have g := p.dget (H := H) e py (.inl hl)
      cases q : lookK ds key with
      | none => rw [q] at h; exact h.elim
      | some d =>
        rw [q] at h g
        obtain ⟨u, g1, g2⟩ := g
        exact .inr ⟨a, u, rfl, g1, k d u g2 h⟩
theorem ps_augSd (hu : X.A.units + 1 < cLine) {i : Nat} {o y e : Expr} {tpos : Pos} {tv ty : TEd} {op : Operator} {r : D → D → (SD → Prop) → Prop} (ho : PE X o (tVar i)) (hy : PD X y b1 ty) (he : PD X e b2 tv) (hp : OpD X (inplaceOp op) r)
    (ha : ∀ ov iv new, augStore y ov iv new = (do holding [new, ov, iv] (setItem ov iv new); release [new, ov, iv] []; pure .next) := by intros; rfl) : PSd X (.AugAssign (.Subscript o y tpos) op e pos) (augS r i ty tv) := by
  obtain ⟨rH, h1, h2⟩ := hp
  refine ⟨wkS (ps_augS ho hy.pe (get_any hu) he.pe (pip h1) (PSet.or set_list (set_dict hu)) ha) fun D σ H w => ?_⟩
  obtain ⟨C, Hf, env, fp, Dd, rl, ⟨t0, t⟩, k⟩ := w
  obtain ⟨a, hv⟩ := rl.at t0
  refine ⟨a, hv, le_one (b := b1) rl t fun y env1 w H1 Hf1 fp1 e1 q1 r1 p1 h => ?_⟩
  cases e : look env1 i with
  | none => rw [e] at h; exact h.elim
  | some sd =>
    rw [e] at h
    obtain ⟨s, d⟩ := sd
    cases s <;> first | exact h.elim | skip
    rename_i s
    cases s <;> first | exact h.elim | skip
    obtain ⟨fv, rs⟩ := r1.peek e hv
    refine ixD_get rs p1 h fun old u po h => ?_
    refine le_one (b := b2) r1 h fun v env2 w2 H2 Hf2 fp2 e2 q2 r2 p2 h => ?_
    refine h2 C Hf2 env2 σ H2 fp2 u w2 old v.2 _ _ r2 (po.ext e2) p2 h fun z u3 H3 Hf3 fv3 e3 q3 r3 p3 ap3 h => ?_
    obtain ⟨r4, e4⟩ := r3.frz ap3 p3.there
    have p4 := p3.frz e4 fun a m => frzH_in m
    cases e5 : look env2 i with
    | none => rw [e5] at h; exact h.elim
    | some sd =>
      rw [e5] at h
      obtain ⟨s, d2⟩ := sd
      cases s <;> first | exact h.elim | skip
      rename_i s
      cases s <;> first | exact h.elim | skip
      exact setD_ok r4 e5 hv (p1.ext (e2.trans (e3.trans e4))) p4 h fun d' H' fp' r5 kk => k.nx _ σ H' _ fp' (e1.trans (e2.trans (e3.trans e4))) r5 kk
end

/-! ### a def with its promise, in one -/
structure DefOk (P : Program) (w : World) (K : PySem.W.Frag) (mg : Str → Option Value) (base : Heap) (x : Str) (k n : Nat) (m : TM) : Prop where
  ex : ∃ (f : Addr) (fd : FuncData) (ps : List Str), FnOk P w K mg base CX0 k f fd ps (SpD K n m) ∧ mg x = some (.ref f) ∧ PySem.W.keepIn K (.ref f) = true ∧ Binds K fd ps []
  len : ∀ sds R, m sds R → sds.length = n
/-- a def that stands behind the top -/
structure Df (K : PySem.W.Frag) (mg : Str → Option Value) (x : Str) (st : Stmt) (ps : List Str) (f : Addr) (fd : FuncData) : Prop where
  F : Fun K x x st f fd
  mg : mg x = some (.ref f)
  b : Binds K fd ps []
/-- the promise of a body -/
def mkM (n N : Nat) (tb : TSd) : TM := fun sds R => sds.length = n ∧ mOf N tb sds R
section
variable {P : Program} {w : World} {K : PySem.W.Frag} {mg : Str → Option Value} {base : Heap}
theorem Df.fok {x : Str} {st : Stmt} {N ps : List Str} {f : Addr} {fd : FuncData} {k n m : Nat} {tb : TSd} (D : Df K mg x st ps f fd) (S : FnScope N ps (defScope st)) (hn : ps.length = n) (hN : N.length = m)
    (hbody : ∀ (cdv : Value) (A : Around) (outer : List PySem.Env) (s : Shared) (H : Hp) (E : XK), Room k (A.deeper (envOfC x (defScope st) s.heap.objs.size f cdv)) → PSsd (cxOf CX0 P w K mg base N x (defScope st) f cdv A outer s H E).nox (defBody st) tb) :
    FnOk P w K mg base CX0 (k + 1) f fd ps (SpD K n (mkM n m tb)) := by
  subst hn hN
  exact fn_imp (fn_ok D.F S hbody) fun sds R _ h => h.2
theorem Df.ok {x : Str} {st : Stmt} {N ps : List Str} {f : Addr} {fd : FuncData} {k n m : Nat} {tb : TSd} (D : Df K mg x st ps f fd) (S : FnScope N ps (defScope st)) (hn : ps.length = n) (hN : N.length = m)
    (hbody : ∀ (cdv : Value) (A : Around) (outer : List PySem.Env) (s : Shared) (H : Hp) (E : XK), Room k (A.deeper (envOfC x (defScope st) s.heap.objs.size f cdv)) → PSsd (cxOf CX0 P w K mg base N x (defScope st) f cdv A outer s H E).nox (defBody st) tb) :
    DefOk P w K mg base x (k + 1) n (mkM n m tb) := ⟨⟨f, fd, ps, D.fok S hn hN hbody, D.mg, D.F.kp, D.b⟩, fun sds R h => h.1⟩
theorem Df.none {x : Str} {st : Stmt} {ps : List Str} {f : Addr} {fd : FuncData} {k n : Nat} (D : Df K mg x st ps f fd) : DefOk P w K mg base x k n (fun _ _ => False) :=
  ⟨⟨f, fd, ps, ⟨fun vs H Q E h => by obtain ⟨_, _, _, _, _, _, _, _, _, h, _⟩ := h; exact h.elim, fun A o s H as us vs Q E _ _ _ _ h => by obtain ⟨_, _, _, _, _, _, _, _, _, h, _⟩ := h; exact h.elim⟩, D.mg, D.F.kp, D.b⟩, fun _ _ h => h.elim⟩
theorem df_of {h : Heap} {x : Str} {st : Stmt} {ps : List Str} {f : Addr} {oc : Value} {od an : Option Addr} {osl : Array (Option Value)} {kV doc pm cdv ct : Value} (X : K.In h) (G : h.Ns mainGlobals mg)
    (a : PySem.W.nsIn K mainGlobals x = some (some (.ref f))) (l : K.lookup f = some ⟨oc, od, .func (PySem.W.fnOf x x (defArgs st) (defBody st) (defScope st) .none kV doc pm an cdv ct), osl⟩) (c : PySem.W.codeIn K cdv x = true) (k : PySem.W.keepIn K (.ref f) = true)
    (hb : ∀ (kV doc pm : Value) (an : Option Addr) (cdv ct : Value) (us : List Value), us.length = ps.length → bindArgs (PySem.W.fnOf x x (defArgs st) (defBody st) (defScope st) .none kV doc pm an cdv ct) ⟨us, []⟩ = pure (ps.zip us)) :
    Df K mg x st ps f (PySem.W.fnOf x x (defArgs st) (defBody st) (defScope st) .none kV doc pm an cdv ct) :=
  ⟨fun_mk l c k, PySem.W.mg_of X G a, (fun_mk l c k).binds hb⟩
theorem DefOk.up {x : Str} {k k' n : Nat} {m : TM} (h : DefOk P w K mg base x k n m) (l : k ≤ k') : DefOk P w K mg base x k' n m := by
  obtain ⟨⟨f, fd, ps, a, b⟩, c⟩ := h
  exact ⟨⟨f, fd, ps, a.mono l, b⟩, c⟩
theorem DefOk.imp {x : Str} {k n : Nat} {m m' : TM} (h : DefOk P w K mg base x k n m) (l : ∀ sds R, sds.length = n → m' sds R → m sds R) (c : ∀ sds R, m' sds R → sds.length = n) : DefOk P w K mg base x k n m' := by
  obtain ⟨⟨f, fd, ps, a, b⟩, _⟩ := h
  exact ⟨⟨f, fd, ps, fn_imp a l, b⟩, c⟩
end
section
variable {X : Cx} {x : Str} {k n : Nat} {m : TM} {p pos : Pos} {e : Expr} {es : List Expr} {b : Bool} {tr : TCd}
theorem pd_call (F : DefOk X.prog X.w X.K X.mg X.base x k n m) (hr : Room k X.A) (hg : Gl X x) (ha : PCd X (e :: es) b tr) (hdb : (x == ("__debug__" : Str)) = false := by decide)
    (he : starEach (e :: es) X.env = (false, eval e X.env) :: starEach es X.env := by rfl) (hpl : (backTo pos (starEach es X.env)).any (·.1) = false := by rfl) : PD X (.Call (.Name x p) (e :: es) [] pos) false (cl m tr) := by
  obtain ⟨⟨f, fd, ps, G, hm, hk, hb⟩, hl⟩ := F
  exact pd_cl G hl hr hg hm hk hb ha hdb he hpl
theorem pd_call0 (F : DefOk X.prog X.w X.K X.mg X.base x k n m) (hr : Room k X.A) (hg : Gl X x) (hdb : (x == ("__debug__" : Str)) = false := by decide) : PD X (.Call (.Name x p) [] [] pos) false (cl m cnil) := by
  obtain ⟨⟨f, fd, ps, G, hm, hk, hb⟩, hl⟩ := F
  exact pd_cl0 G hl hr hg hm hk hb hdb
end

/-! ### the end -/
inductive TabOk (K : PySem.W.Frag) (a : Addr) : List (Str × Int) → Prop
  | nil : TabOk K a []
  | cons {s n t tab} : PySem.W.nsIn K a s = some (some (.int n t)) → TabOk K a tab → TabOk K a ((s, n) :: tab)
theorem wtab_of {K : PySem.W.Frag} {w : World} {a : Addr} {es : Array DictEntry} {n : Nat} {tab : List (Str × Int)} (h2 : K.lookup a = some ⟨.type "dict", none, .dict es n, #[]⟩) (h3 : PySem.W.KeysLit w.params es.toList) (h : TabOk K a tab) : WTab K w a tab := by
  intro s m e
  induction h with
  | nil => cases e
  | @cons s' n' t tab q r ih =>
    rw [List.lookup_cons] at e
    cases b : s == s' with
    | true =>
      rw [b] at e
      cases e
      have : s = s' := by simpa using b
      subst this
      exact ⟨es, n, _, h2, h3, q, ⟨t, rfl⟩⟩
    | false =>
      rw [b] at e
      exact ih e
theorem sp_law {K : PySem.W.Frag} {m : TM} {H : Hp} {a : Addr} {ns : List Int} {E : XK} (hs : SqL K H a (ns.map V.int)) (h : m [(.f, .ro (ns.map .int))] fun sd _ => sd.2 = .bl true) : SpD K 1 m [.ref a] H (fun v _ => v = .bl true) E := by
  refine ⟨H, H, fun _ => True, [(.f, .ro (ns.map .int))], [], _, rfl, .cons (f1 := []) (f2 := []) (.f (.ro hs (Reps.ofInts ns))) .nil, ⟨Ext.rfl, fun a u e => .inl e, fun _ _ => trivial, fun _ _ => trivial, .nil, fun _ m => nomatch m⟩, h, ?_⟩
  intro sd bs v H' Hf' fb fv _ _ rs _ e
  obtain ⟨s, d⟩ := sd
  have e : d = .bl true := e
  subst e
  cases rs with
  | f p => exact p.bl_inv
end DL
set_option Elab.async false
set_option linter.all false
set_option maxRecDepth 100000
namespace DL
open PySem PySem.Spec PyProof.Rows L2

/-! ### one step: what a reading is -/
section
variable {t u : TSd} {D : EndsD} {env : Env} {Q : SD → Env → Prop} {ta tb tc te : TEd} {i j : Nat} {r r' : DL.D → DL.D → (SD → Prop) → Prop}
theorem x_sq : sq t u D env = t ⟨u D, D.rt, D.bk, D.ct⟩ env := rfl
theorem x_skp : skp D env = D.nx env := rfl
theorem x_brk : brk D env = D.bk env := rfl
theorem x_cnt : cnt D env = D.ct env := rfl
theorem x_nvr : nvr D env = False := rfl
theorem x_drp : drp te D env = te env fun _ e => D.nx e := rfl
theorem x_ret : ret te D env = te env D.rt := rfl
theorem x_retN : retN D env = D.rt (.f, .non) env := rfl
theorem x_iff {c : TTd} : iff c t u D env = c env fun b e => if b = true then t D e else u D e := rfl
theorem x_asn : asn i te D env = te env fun x e => pinned e i = false ∧ D.nx (e.set i (false, some x)) := rfl
theorem x_asg {g : TGd} : asg te g D env = te env fun x e => g x e D.nx := rfl
theorem x_gn {sd : SD} {q : Env → Prop} : gn i sd env q = (pinned env i = false ∧ q (env.set i (false, some sd))) := rfl
theorem x_gt {n : Nat} {g : TGsd} {s : Sh} {ds : List DL.D} {q : Env → Prop} : gt n g (s, .tup ds) env q = (ds.length = n ∧ g ds env q) := rfl
theorem x_gsnil {ds : List DL.D} {q : Env → Prop} : gsnil ds env q = (ds = [] ∧ q env) := rfl
theorem x_gscons {g : TGd} {gs : TGsd} {d : DL.D} {ds : List DL.D} {q : Env → Prop} : gscons g gs (d :: ds) env q = g (.f, d) env fun e => gs ds e q := rfl
theorem x_aug : aug r i te D env = (match look env i with
  | some (.f, d) => te env fun y e => r d y.2 fun z => pinned e i = false ∧ D.nx (e.set i (false, some z))
  | _ => False) := rfl
theorem x_setS {tv ty : TEd} : setS tv i ty D env = tv env fun v e1 => (look e1 i).isSome = true ∧ ty e1 fun y e2 => match look e2 i with
  | some (.o .f, d) => setD d y.2 v.2 fun d' => D.nx (putS e2 i (some (.o .f, d')))
  | _ => False := rfl
theorem x_augS {tv ty : TEd} : augS r i ty tv D env = ((look env i).isSome = true ∧ ty env fun y e1 => match look e1 i with
  | some (.o .f, d) => ixD d y.2 fun old => tv e1 fun v e2 => r old.2 v.2 fun z => match look e2 i with
    | some (.o .f, d2) => setD d2 y.2 z.2 fun d' => D.nx (putS e2 i (some (.o .f, d')))
    | _ => False
  | _ => False) := rfl
theorem x_cst {d : DL.D} : cst d env Q = Q (.f, d) env := rfl
theorem x_rd : rd i env Q = (match look env i with
  | some (.f, d) => Q (.f, d) env
  | some (_, d) => Q (.f, d) (putS env i (some (.f, d)))
  | none => False) := rfl
theorem x_mv : mv i env Q = (match look env i with
  | some sd => pinned env i = false ∧ Q sd (putS env i none)
  | none => False) := rfl
theorem x_bi : bi r ta tb env Q = ta env fun x e1 => tb e1 fun y e2 => r x.2 y.2 fun z => Q z e2 := rfl
theorem x_tst {q : Bool → Env → Prop} : tst te env q = te env fun x e => match x.2 with
  | .bl c => q c e
  | _ => False := rfl
theorem x_tnot {c : TTd} {q : Bool → Env → Prop} : tnot c env q = c env fun b e => q (!b) e := rfl
theorem x_tand {c d : TTd} {q : Bool → Env → Prop} : tand c d env q = c env fun b e => if b = true then d e q else q false e := rfl
theorem x_tor {c d : TTd} {q : Bool → Env → Prop} : tor c d env q = c env fun b e => if b = true then q true e else d e q := rfl
theorem x_tru {q : Bool → Env → Prop} : tru env q = q true env := rfl
theorem x_vand : vand ta tb env Q = ta env fun x e => match x.2 with
  | .bl true => tb e Q
  | .bl false => Q (.f, .bl false) e
  | _ => False := rfl
theorem x_vor : vor ta tb env Q = ta env fun x e => match x.2 with
  | .bl false => tb e Q
  | .bl true => Q (.f, .bl true) e
  | _ => False := rfl
theorem x_vnot : vnot ta env Q = ta env fun x e => match x.2 with
  | .bl c => Q (.f, .bl (!c)) e
  | _ => False := rfl
theorem x_neg : neg ta env Q = ta env fun x e => match x.2 with
  | .int i => Q (.f, .int (-i)) e
  | _ => False := rfl
theorem x_cnd {c : TTd} : cnd c ta tb env Q = c env fun b e => if b = true then ta e Q else tb e Q := rfl
theorem x_chn : chn r r' ta tb tc env Q = ta env fun x e1 => tb e1 fun y e2 => r x.2 y.2 fun z => match z with
  | (.f, .bl true) => tc e2 fun w e3 => r' y.2 w.2 fun z => Q z e3
  | (.f, .bl false) => Q (.f, .bl false) e2
  | _ => False := rfl
theorem x_ixS : ixS i tb env Q = ((look env i).isSome = true ∧ tb env fun y e => match look e i with
  | some (s, d) => peek s = true ∧ ixD d y.2 fun z => Q z e
  | none => False) := rfl
theorem x_ix : ix ta tb env Q = ta env fun x e1 => tb e1 fun y e2 => ixD x.2 y.2 fun z => Q z e2 := rfl
theorem x_lenS : lenS i env Q = (match look env i with
  | some (s, d) => peek s = true ∧ match lenD d with
    | some n => Q (.f, .int n) env
    | none => False
  | none => False) := rfl
theorem x_inS {neg : Bool} : inS neg tb i env Q = tb env fun y e => match look e i with
  | some (s, d) => peek s = true ∧ inD neg y.2 d fun z => Q z e
  | none => False := rfl
theorem x_anil {q : List SD → Env → Prop} : anil env q = q [] env := rfl
theorem x_acons {ts : TAd} {q : List SD → Env → Prop} : acons ta ts env q = ta env fun x e => ts e fun xs e2 => q (x :: xs) e2 := rfl
theorem x_bc {f : List DL.D → (SD → Prop) → Prop} {ts : TAd} : bc f ts env Q = ts env fun xs e => f (xs.map (·.2)) fun z => Q z e := rfl
theorem x_tupE {ts : TAd} : tupE ts env Q = ts env fun xs e => xs.length ≤ sizeLine ∧ Q (.f, .tup (xs.map (·.2))) e := rfl
theorem x_lstE {ts : TAd} : lstE ts env Q = ts env fun xs e => xs.length ≤ sizeLine ∧ Q (.o .f, .lst (xs.map (·.2))) e := rfl
theorem x_dctE : dctE env Q = Q (.o .f, .dct []) env := rfl
theorem x_dc1 : dc1 ta tb env Q = ta env fun x e1 => tb e1 fun y e2 => match keyD x.2 with
  | some k => Q (.o .f, .dct [(k, y.2)]) e2
  | none => False := rfl
theorem x_mt {m : List DL.D → List DL.D → (DL.D → List DL.D → Prop) → Prop} {ts : TAd} : mt m i ts env Q = ((∃ ds, look env i = some (.o .f, .lst ds)) ∧ ts env fun es e => match look e i with
  | some (.o .f, .lst ds) => m ds (es.map (·.2)) fun d ds' => Q (.f, d) (putS e i (some (.o .f, .lst ds')))
  | _ => False) := rfl
theorem x_cntS {ts : TAd} : cntS i ts env Q = ((∃ s ds, look env i = some (s, .lst ds) ∧ peek s = true) ∧ ts env fun (es : List SD) (e : Env) => match look e i with
  | some (s, .lst ds) => peek s = true ∧ ds.all isInt = true ∧ match (es.map (·.2) : List DL.D) with
    | [.int n] => Q (.f, .int ((ds.map toInt).count n)) e
    | _ => False
  | _ => False) := rfl
theorem x_isi {T : String} : isi T te env Q = te env fun x e => match isB T x.2 with
  | some c => Q (.f, .bl c) e
  | none => False := rfl
theorem x_wix {tab : List (Str × Int)} : wix tab te env Q = te env fun x e => match x.2 with
  | .str s => match tab.lookup s with
    | some n => Q (.f, .int n) e
    | none => False
  | _ => False := rfl
theorem x_cnil {q : List CA → Env → Prop} : cnil env q = q [] env := rfl
theorem x_cva {ts : TCd} {q : List CA → Env → Prop} : cva te ts env q = te env fun x e => ts e fun cs e2 => q (.inl x.2 :: cs) e2 := rfl
theorem x_cln {ts : TCd} {q : List CA → Env → Prop} : cln i ts env q = ((look env i).isSome = true ∧ ts env fun cs e2 => q (.inr i :: cs) e2) := rfl
theorem x_cl {m : TM} {ts : TCd} : cl m ts env Q = ts env fun cs e => match lendA cs e with
  | some (sds, e2) => m sds fun sd bs => okB cs bs e2 = true ∧ Q sd (backA cs bs e2)
  | none => False := rfl
theorem x_sl {tl th : TOd} : sl te tl th env Q = te env fun x e1 => tl e1 fun l e2 => th e2 fun u e3 => slD x.2 l u fun z => Q z e3 := rfl
theorem x_onil {q : Option Int → Env → Prop} : onil env q = q none env := rfl
theorem x_osm {q : Option Int → Env → Prop} : osm te env q = te env fun x e => match x.2 with
  | .int i => q (some i) e
  | _ => False := rfl
theorem x_fr {it : TId} {g : TGd} {tb : TSd} : fr it g tb D env = it env fun ds e => frB ds g tb D e := rfl
theorem x_frn {g : TGd} {tb : TSd} : frn i g tb D env = rd i env fun x e => match itemsOf x.2 with
  | some ds => frB ds g tb D e
  | none => False := rfl
theorem x_ilst {q : List DL.D → Env → Prop} : ilst te env q = te env fun x e => match lstOf x.2 with
    | some ds => q ds e
    | none => False := rfl
theorem x_irg1 {q : List DL.D → Env → Prop} : irg1 ta env q = ta env fun x e => match x.2 with
  | .int j => -(2 ^ 62) ≤ j ∧ j < 2 ^ 62 ∧ q (rangeD 0 j) e
  | _ => False := rfl
theorem x_irg2 {q : List DL.D → Env → Prop} : irg2 ta tb env q = ta env fun x e1 => tb e1 fun y e => match x.2, y.2 with
  | .int i, .int j => (-(2 ^ 62) ≤ i ∧ i < 2 ^ 62 ∧ -(2 ^ 62) ≤ j ∧ j < 2 ^ 62) ∧ q (rangeD i j) e
  | _, _ => False := rfl
theorem x_lc {it : TId} {tt : TTd} : lc it i tt te env Q = it env fun ds e => lcB i tt te ds e Q := rfl
theorem x_lcn {tt : TTd} : lcn j i tt te env Q = rd j env fun x e => match itemsOf x.2 with
  | some ds => lcB i tt te ds e Q
  | none => False := rfl
end
/-! ### slots -/
theorem look0 {b : Bool} {o : Option SD} {e : Env} : look ((b, o) :: e) 0 = o := rfl
theorem lookS {x : Bool × Option SD} {e : Env} {n : Nat} : look (x :: e) (n + 1) = look e n := rfl
theorem pin0 {b : Bool} {o : Option SD} {e : Env} : pinned ((b, o) :: e) 0 = b := rfl
theorem pinS {x : Bool × Option SD} {e : Env} {n : Nat} : pinned (x :: e) (n + 1) = pinned e n := rfl
theorem put0 {b : Bool} {o x : Option SD} {e : Env} : putS ((b, o) :: e) 0 x = (b, x) :: e := rfl
theorem putSS {y : Bool × Option SD} {x : Option SD} {e : Env} {n : Nat} : putS (y :: e) (n + 1) x = y :: putS e n x := rfl
theorem set0 {x y : Bool × Option SD} {e : Env} : List.set (x :: e) 0 y = y :: e := rfl
theorem setSu {x y : Bool × Option SD} {e : Env} {n : Nat} : List.set (x :: e) (n + 1) y = x :: List.set e n y := rfl
/-! ### values -/
section
variable {k : SD → Prop} {i j : Int} {a b : List D}
theorem v_add : rAdd (.int i) (.int j) k = k (.f, .int (i + j)) := rfl
theorem v_addL : rAdd (.lst a) (.lst b) k = (a.length + b.length ≤ sizeLine ∧ k (.o .f, .lst (a ++ b))) := rfl
theorem v_addT : rAdd (.tup a) (.tup b) k = (a.length + b.length ≤ sizeLine ∧ k (.f, .tup (a ++ b))) := rfl
theorem v_mul : rMul (.int i) (.int j) k = (CMul i j ∧ k (.f, .int (i * j))) := rfl
theorem v_mulL : rMul (.lst a) (.int j) k = (-(2 ^ 63) ≤ j ∧ j < 2 ^ 63 ∧ a.length * j.toNat ≤ sizeLine ∧ k (.o .f, .lst (repD j.toNat a))) := rfl
theorem v_J {g : Int → Int → D} : rJ g (.int i) (.int j) k = k (.f, g i j) := rfl
theorem v_I {C : Int → Int → Prop} {g : Int → Int → D} : rI C g (.int i) (.int j) k = (C i j ∧ k (.f, g i j)) := rfl
theorem v_eq {x y : D} : rEq x y k = (flat 60 x = true ∧ flat 60 y = true ∧ k (.f, .bl (eqD x y))) := rfl
theorem v_ne {x y : D} : rNe x y k = (flat 60 x = true ∧ flat 60 y = true ∧ k (.f, .bl (!eqD x y))) := rfl
theorem v_is {x : D} : rIs x .non k = k (.f, .bl (isNon x)) := by cases x <;> rfl
theorem v_isN {x : D} : rIsN x .non k = k (.f, .bl (!isNon x)) := by cases x <;> rfl
theorem v_isi {i : Int} : isNon (.int i) = false := rfl
theorem v_isn : isNon .non = true := rfl
theorem e_int : eqD (.int i) (.int j) = decide (i = j) := by
  show (i == j) = decide (i = j)
  by_cases h : i = j
  · subst h; simp
  · simp [h]
theorem e_ni : eqD .non (.int i) = false := rfl
theorem e_in : eqD (.int i) .non = false := rfl
theorem e_nn : eqD .non .non = true := rfl
theorem f_int {n : Nat} : flat n (.int i) = true := by simp [flat]
theorem f_non {n : Nat} : flat n .non = true := by simp [flat]
theorem f_bl {n : Nat} {c : Bool} : flat n (.bl c) = true := by simp [flat]
end
/-! ### control -/
theorem sq_of {t u : TSd} {D : EndsD} {env : Env} (h : ∀ nx : Env → Prop, (∀ e, u D e → nx e) → t ⟨nx, D.rt, D.bk, D.ct⟩ env) : sq t u D env := h (u D) fun _ x => x
theorem frB_of {ds : List D} {g : TGd} {tb : TSd} {Dd : EndsD} {e : Env} (W : Nat → Env → Prop) (h0 : W 0 e) (hs : ∀ n d e (nx : Env → Prop), ds[n]? = some d → W n e → (∀ e, W (n + 1) e → nx e) → g (.f, d) e fun e2 => tb ⟨nx, Dd.rt, Dd.nx, nx⟩ e2) (hd : ∀ e, W ds.length e → Dd.nx e) : frB ds g tb Dd e :=
  ⟨W, h0, fun n d e h w => hs n d e (W (n + 1)) h w fun _ x => x, hd⟩
theorem lcB_of {i : Nat} {tt : TTd} {te : TEd} {ds : List D} {e0 : Env} {Q : SD → Env → Prop} (hf : freeS e0 i = true) (W : Nat → List D → Env → Prop) (h0 : W 0 [] (outer e0 i))
    (hs : ∀ n d acc e, ds[n]? = some d → W n acc e → tt (inner e i d) fun b e2 => if b = true then te e2 fun y e3 => acc.length < sizeLine ∧ W (n + 1) (acc ++ [y.2]) (outer e3 i) else W (n + 1) acc (outer e2 i))
    (hd : ∀ acc e, W ds.length acc e → Q (.o .f, .lst acc) (e.set i (e0.getD i (false, none)))) : lcB i tt te ds e0 Q := ⟨hf, W, h0, hs, hd⟩
/-- a comprehension that is a map of a filter -/
theorem lcB_map {i : Nat} {tt : TTd} {te : TEd} {ds : List D} {e0 : Env} {Q : SD → Env → Prop} (hf : freeS e0 i = true) (p : D → Bool) (f : D → D) (hl : ds.length ≤ sizeLine)
    (ht : ∀ d q, d ∈ ds → q (p d) (inner (outer e0 i) i d) → tt (inner (outer e0 i) i d) q) (he : ∀ d (q : SD → Env → Prop), d ∈ ds → p d = true → q (.f, f d) (inner (outer e0 i) i d) → te (inner (outer e0 i) i d) q)
    (hd : Q (.o .f, .lst ((ds.filter p).map f)) e0) : lcB i tt te ds e0 Q := by
  have hlt : i < e0.length := by
    unfold freeS at hf
    cases e : e0[i]? with
    | none => rw [e] at hf; cases hf
    | some x => exact (List.getElem?_eq_some_iff.mp e).1
  have oo : ∀ d, outer (inner (outer e0 i) i d) i = outer e0 i := fun d => by unfold outer inner; rw [List.set_set, List.set_set]
  refine lcB_of hf (fun n acc e => acc = ((ds.take n).filter p).map f ∧ e = outer e0 i) ⟨by simp, rfl⟩ ?_ ?_
  · rintro n d acc e hn ⟨rfl, rfl⟩
    have hm : d ∈ ds := List.mem_of_getElem? hn
    have tk : ds.take (n + 1) = ds.take n ++ [d] := by rw [List.take_add_one, hn]; rfl
    refine ht d _ hm ?_
    cases hp : p d with
    | true =>
      rw [if_pos rfl]
      refine he d _ hm hp ⟨?_, ?_, oo d⟩
      · have h1 : (((ds.take n).filter p).map f).length ≤ n := by
          rw [List.length_map]
          exact Nat.le_trans (List.length_filter_le _ _) (by rw [List.length_take]; omega)
        have h2 : n < ds.length := (List.getElem?_eq_some_iff.mp hn).1
        omega
      · rw [tk, List.filter_append, List.map_append]
        simp [hp]
    | false =>
      rw [if_neg (by simp)]
      exact ⟨by rw [tk, List.filter_append]; simp [hp], oo d⟩
  · rintro acc e ⟨rfl, rfl⟩
    rw [List.take_length]
    have : (outer e0 i).set i (e0.getD i (false, none)) = e0 := by
      unfold outer
      rw [List.set_set]
      have : e0.getD i (false, none) = e0[i] := by simp [List.getD, List.getElem?_eq_getElem hlt]
      rw [this]
      exact List.set_getElem_self hlt
    rw [this]
    exact hd
end DL
set_option Elab.async false
set_option linter.all false
set_option maxRecDepth 100000
namespace DL
open PySem PySem.Spec PyProof.Rows L2

/-! ## running a transformer at given values: what the kernel computes is what it says -/
class XE (t : TEd) where
  x : Env → Option (SD × Env)
  ok : ∀ env sd e (Q : SD → Env → Prop), x env = some (sd, e) → Q sd e → t env Q
class XT (t : TTd) where
  x : Env → Option (Bool × Env)
  ok : ∀ env b e (Q : Bool → Env → Prop), x env = some (b, e) → Q b e → t env Q
class XA (t : TAd) where
  x : Env → Option (List SD × Env)
  ok : ∀ env b e (Q : List SD → Env → Prop), x env = some (b, e) → Q b e → t env Q
class XC (t : TCd) where
  x : Env → Option (List CA × Env)
  ok : ∀ env b e (Q : List CA → Env → Prop), x env = some (b, e) → Q b e → t env Q
class XI (t : TId) where
  x : Env → Option (List D × Env)
  ok : ∀ env b e (Q : List D → Env → Prop), x env = some (b, e) → Q b e → t env Q
class XG (t : TGd) where
  x : SD → Env → Option Env
  ok : ∀ sd env e (Q : Env → Prop), x sd env = some e → Q e → t sd env Q
class XR (r : D → D → (SD → Prop) → Prop) where
  x : D → D → Option SD
  ok : ∀ a b z (k : SD → Prop), x a b = some z → k z → r a b k
class XB (r : List D → (SD → Prop) → Prop) where
  x : List D → Option SD
  ok : ∀ ds z (k : SD → Prop), x ds = some z → k z → r ds k
class XM (m : TM) where
  x : List SD → Option (SD × List (Option SD))
  ok : ∀ sds sd bs (R : SD → List (Option SD) → Prop), x sds = some (sd, bs) → R sd bs → m sds R
inductive XO where
  | nx (e : Env)
  | rt (sd : SD) (e : Env)
  | bk (e : Env)
  | ct (e : Env)
def XO.holds (D : EndsD) : XO → Prop
  | .nx e => D.nx e
  | .rt sd e => D.rt sd e
  | .bk e => D.bk e
  | .ct e => D.ct e
class XS (t : TSd) where
  x : Env → Option XO
  ok : ∀ env o (D : EndsD), x env = some o → o.holds D → t D env

section
variable {ta tb tc : TEd} {c c1 c2 : TTd} {ts : TAd} {r : D → D → (SD → Prop) → Prop} {i j : Nat}
instance {d : D} : XE (cst d) := ⟨fun env => some ((.f, d), env), by rintro env sd e Q h q; cases h; exact q⟩
instance : XE (rd i) := ⟨fun env => match look env i with
  | some (.f, d) => some ((.f, d), env)
  | some (_, d) => some ((.f, d), putS env i (some (.f, d)))
  | none => none, by
  intro env sd e Q h q
  rw [x_rd]
  split at h
  · rename_i e1; (try rw [e1]); cases h; exact q
  · rename_i s d hs e1
    (try rw [e1])
    cases h
    cases s with
    | f => exact (hs rfl).elim
    | o s => exact q
    | ob s => exact q
  · cases h⟩
instance : XE (mv i) := ⟨fun env => match look env i with
  | some sd => if pinned env i then none else some (sd, putS env i none)
  | none => none, by
  intro env sd e Q h q
  rw [x_mv]
  split at h
  · rename_i s e1
    (try rw [e1])
    cases hp : pinned env i with
    | true => rw [hp] at h; cases h
    | false => rw [hp] at h; cases h; exact ⟨rfl, q⟩
  · cases h⟩
def xbi (r : D → D → Option SD) (a b : Env → Option (SD × Env)) : Env → Option (SD × Env) := fun env => match a env with
  | none => none
  | some (x, e1) => match b e1 with
    | none => none
    | some (y, e2) => match r x.2 y.2 with
      | none => none
      | some z => some (z, e2)
theorem xbi_ok [A : XE ta] [B : XE tb] [R : XR r] : ∀ env sd e (Q : SD → Env → Prop), xbi R.x A.x B.x env = some (sd, e) → Q sd e → bi r ta tb env Q := by
  intro env sd e Q h q
  unfold xbi at h
  split at h
  · cases h
  · rename_i x e1 h1
    refine A.ok _ _ _ _ h1 ?_
    split at h
    · cases h
    · rename_i y e2 h2
      refine B.ok _ _ _ _ h2 ?_
      split at h
      · cases h
      · rename_i z h3
        cases h
        exact R.ok _ _ _ _ h3 q
instance [A : XE ta] [B : XE tb] [R : XR r] : XE (bi r ta tb) := ⟨xbi R.x A.x B.x, xbi_ok⟩
instance {g : Int → Int → D} : XR (rJ g) := ⟨fun a b => match a, b with
  | .int i, .int j => some (.f, g i j)
  | _, _ => none, by
  intro a b z k h q
  split at h
  · cases h; exact q
  · cases h⟩
instance {C : Int → Int → Prop} [dc : ∀ i j, Decidable (C i j)] {g : Int → Int → D} : XR (rI C g) := ⟨fun a b => match a, b with
  | .int i, .int j => if C i j then some (.f, g i j) else none
  | _, _ => none, by
  intro a b z k h q
  split at h
  · rename_i i j
    split at h
    · cases h; exact ⟨by assumption, q⟩
    · cases h
  · cases h⟩
instance (i j : Int) : Decidable (CDivN i j) := by unfold CDivN; infer_instance
instance (i j : Int) : Decidable (CPow i j) := by unfold CPow; infer_instance
instance (i j : Int) : Decidable (CMul i j) := by unfold CMul; infer_instance
instance : XR rAdd := ⟨fun a b => match a, b with
  | .int i, .int j => some (.f, .int (i + j))
  | .lst a, .lst b => if a.length + b.length ≤ sizeLine then some (.o .f, .lst (a ++ b)) else none
  | .tup a, .tup b => if a.length + b.length ≤ sizeLine then some (.f, .tup (a ++ b)) else none
  | _, _ => none, by
  intro a b z k h q
  split at h
  · cases h; exact q
  · split at h
    · cases h; exact ⟨by assumption, q⟩
    · cases h
  · split at h
    · cases h; exact ⟨by assumption, q⟩
    · cases h
  · cases h⟩
instance : XR rMul := ⟨fun a b => match a, b with
  | .int i, .int j => if CMul i j then some (.f, .int (i * j)) else none
  | .lst a, .int j => if -(2 ^ 63) ≤ j ∧ j < 2 ^ 63 ∧ a.length * j.toNat ≤ sizeLine then some (.o .f, .lst (repD j.toNat a)) else none
  | _, _ => none, by
  intro a b z k h q
  split at h
  · split at h
    · cases h; exact ⟨by assumption, q⟩
    · cases h
  · split at h
    · rename_i p; cases h; exact ⟨p.1, p.2.1, p.2.2, q⟩
    · cases h
  · cases h⟩
def eqX (neg : Bool) : D → D → Option SD
  | .int i, .int j => some (.f, .bl (neg != decide (i = j)))
  | _, _ => none
instance : XR rEq := ⟨eqX false, by
  intro a b z k h q
  unfold eqX at h
  split at h
  · cases h
    rw [v_eq, e_int]
    exact ⟨f_int, f_int, by simpa using q⟩
  · cases h⟩
instance : XR rNe := ⟨eqX true, by
  intro a b z k h q
  unfold eqX at h
  split at h
  · cases h
    rw [v_ne, e_int]
    exact ⟨f_int, f_int, by simpa using q⟩
  · cases h⟩
instance : XR rIs := ⟨fun a b => match b with
  | .non => some (.f, .bl (isNon a))
  | _ => none, by
  intro a b z k h q
  split at h
  · cases h; rw [v_is]; exact q
  · cases h⟩
instance : XR rIsN := ⟨fun a b => match b with
  | .non => some (.f, .bl (!isNon a))
  | _ => none, by
  intro a b z k h q
  split at h
  · cases h; rw [v_isN]; exact q
  · cases h⟩
def lookI (i : Int) : List (NestedKey × D) → Option D
  | [] => none
  | (.num j, x) :: kvs => if j = i then some x else lookI i kvs
  | _ :: kvs => lookI i kvs
theorem lookI_eq {i : Int} : ∀ kvs, lookI i kvs = lookK kvs (.num i)
  | [] => rfl
  | (k, x) :: kvs => by
    have ih := lookI_eq (i := i) kvs
    unfold lookK at ih ⊢
    cases k with
    | num j =>
      unfold lookI
      rw [List.find?_cons]
      by_cases h : j = i
      · rw [if_pos h]; subst h; simp
      · rw [if_neg h, ih]
        have : decide ((NestedKey.num j) = .num i) = false := by simp [h]
        simp only [this]
    | _ =>
      rw [List.find?_cons]
      simp only [lookI, ih]
      simp
def putI (i : Int) (v : D) : List (NestedKey × D) → List (NestedKey × D)
  | [] => [(.num i, v)]
  | (.num j, x) :: kvs => if j = i then (.num j, v) :: kvs else (.num j, x) :: putI i v kvs
  | p :: kvs => p :: putI i v kvs
/-- all keys are numbers, each once -/
def keysI : List (NestedKey × D) → List Int
  | [] => []
  | (.num j, _) :: kvs => j :: keysI kvs
  | _ :: kvs => keysI kvs
def onceI (i : Int) : List (NestedKey × D) → Bool
  | [] => true
  | (.num j, _) :: kvs => if j = i then !(kvs.any fun p => match p.1 with | .num n => decide (n = i) | _ => false) else onceI i kvs
  | _ :: kvs => onceI i kvs
theorem putI_eq {i : Int} {v : D} : ∀ kvs, onceI i kvs = true → putI i v kvs = putKD kvs (.num i) v
  | [], _ => rfl
  | (k, x) :: kvs, ho => by
    cases k with
    | num j =>
      unfold putI
      unfold onceI at ho
      by_cases h : j = i
      · rw [if_pos h] at ho ⊢
        subst h
        unfold putKD
        rw [if_pos (by simp)]
        rw [List.map_cons, if_pos rfl]
        refine congrArg _ ?_
        have : ∀ p ∈ kvs, p.1 ≠ .num j := by
          intro p hp e
          simp only [Bool.not_eq_true', List.any_eq_false] at ho
          have := ho p hp
          rw [e] at this
          simp at this
        refine (List.map_id _).symm.trans (List.map_congr_left fun p hp => ?_)
        rw [if_neg (this p hp)]; rfl
      · rw [if_neg h] at ho ⊢
        have ih := putI_eq (v := v) kvs ho
        rw [ih]
        unfold putKD
        have ne : ¬ (NestedKey.num j) = .num i := by simp [h]
        rw [List.any_cons]
        have : decide ((NestedKey.num j) = .num i) = false := by simp [h]
        rw [this, Bool.false_or]
        split
        · rw [List.map_cons, if_neg ne]
        · rfl
    | _ =>
      unfold onceI at ho
      have ih := putI_eq (v := v) kvs ho
      unfold putI
      rw [ih]
      unfold putKD
      rw [List.any_cons]
      simp only [reduceCtorEq, decide_false, Bool.false_or]
      split
      · rw [List.map_cons, if_neg (by simp)]
      · rfl
def ixX : D → D → Option SD
  | .dct kvs, .int i => (lookI i kvs).map fun x => (.f, x)
  | .lst xs, .int i => (atI xs i).map fun x => (.f, x)
  | .ro xs, .int i => (atI xs i).map fun x => (.f, x)
  | .tup xs, .int i => (atI xs i).map fun x => (.f, x)
  | _, _ => none
theorem ixX_ok : ∀ a b z (k : SD → Prop), ixX a b = some z → k z → ixD a b k := by
  intro a b z k h q
  unfold ixX at h
  split at h
  · rw [lookI_eq] at h
    show (match lookK _ (NestedKey.num _) with | some x => k (.f, x) | none => False)
    split
    · rename_i e; rw [e] at h; cases h; exact q
    · rename_i e; rw [e] at h; cases h
  all_goals try (show (match atI _ _ with | some x => k (.f, x) | none => False)
                 split
                 · rename_i e; rw [e] at h; cases h; exact q
                 · rename_i e; rw [e] at h; cases h)
  cases h
instance : XR ixD := ⟨ixX, ixX_ok⟩
instance [A : XE ta] [B : XE tb] : XE (ix ta tb) := ⟨xbi ixX A.x B.x, xbi_ok (r := ixD)⟩
instance [A : XE ta] : XE (ixS i ta) := ⟨fun env => if (look env i).isSome then match A.x env with
  | none => none
  | some (y, e) => match look e i with
    | some (s, d) => if peek s then match ixX d y.2 with
      | some z => some (z, e)
      | none => none
      else none
    | none => none
  else none, by
  intro env sd e Q h q
  rw [x_ixS]
  split at h
  · refine ⟨by assumption, ?_⟩
    split at h
    · cases h
    · rename_i y e1 h1
      refine A.ok _ _ _ _ h1 ?_
      split at h
      · rename_i s d h2
        (try rw [h2])
        split at h
        · refine ⟨by assumption, ?_⟩
          split at h
          · rename_i z h3; cases h; exact ixX_ok _ _ _ _ h3 q
          · cases h
        · cases h
      · cases h
  · cases h⟩
instance : XE (lenS i) := ⟨fun env => match look env i with
  | some (s, d) => if peek s then match lenD d with
    | some n => some ((.f, .int n), env)
    | none => none
    else none
  | none => none, by
  intro env sd e Q h q
  rw [x_lenS]
  split at h
  · rename_i s d h1
    (try rw [h1])
    split at h
    · refine ⟨by assumption, ?_⟩
      split at h
      · rename_i n h2; (try rw [h2]); cases h; exact q
      · cases h
    · cases h
  · cases h⟩
instance {neg : Bool} [A : XE ta] : XE (inS neg ta i) := ⟨fun env => match A.x env with
  | none => none
  | some (y, e) => match look e i with
    | some (s, .dct kvs) => if peek s then match y.2 with
      | .int n => some ((.f, .bl (neg != (lookI n kvs).isSome)), e)
      | _ => none
      else none
    | _ => none, by
  intro env sd e Q h q
  rw [x_inS]
  split at h
  · cases h
  · rename_i y e1 h1
    refine A.ok _ _ _ _ h1 ?_
    split at h
    · rename_i s kvs h2
      (try rw [h2])
      split at h
      · refine ⟨by assumption, ?_⟩
        split at h
        · rename_i n h3
          cases h
          rw [lookI_eq] at q
          show inD neg y.2 _ _
          (try rw [h3])
          exact q
        · cases h
      · cases h
    · cases h⟩
instance [A : XE ta] : XE (neg ta) := ⟨fun env => match A.x env with
  | some ((_, .int i), e) => some ((.f, .int (-i)), e)
  | _ => none, by
  intro env sd e Q h q
  rw [x_neg]
  split at h
  · rename_i h1; cases h; exact A.ok _ _ _ _ h1 q
  · cases h⟩
instance [A : XE ta] : XT (tst ta) := ⟨fun env => match A.x env with
  | some ((_, .bl b), e) => some (b, e)
  | _ => none, by
  intro env sd e Q h q
  rw [x_tst]
  split at h
  · rename_i h1; cases h; exact A.ok _ _ _ _ h1 q
  · cases h⟩
instance [A : XT c] : XT (tnot c) := ⟨fun env => match A.x env with
  | some (b, e) => some (!b, e)
  | none => none, by
  intro env sd e Q h q
  rw [x_tnot]
  split at h
  · rename_i h1; cases h; exact A.ok _ _ _ _ h1 q
  · cases h⟩
instance [A : XT c1] [B : XT c2] : XT (tand c1 c2) := ⟨fun env => match A.x env with
  | some (true, e) => B.x e
  | some (false, e) => some (false, e)
  | none => none, by
  intro env sd e Q h q
  rw [x_tand]
  split at h
  · rename_i h1; exact A.ok _ _ _ _ h1 (by rw [if_pos rfl]; exact B.ok _ _ _ _ h q)
  · rename_i h1; cases h; exact A.ok _ _ _ _ h1 (by rw [if_neg (by simp)]; exact q)
  · cases h⟩
instance [A : XT c1] [B : XT c2] : XT (tor c1 c2) := ⟨fun env => match A.x env with
  | some (false, e) => B.x e
  | some (true, e) => some (true, e)
  | none => none, by
  intro env sd e Q h q
  rw [x_tor]
  split at h
  · rename_i h1; exact A.ok _ _ _ _ h1 (by rw [if_neg (by simp)]; exact B.ok _ _ _ _ h q)
  · rename_i h1; cases h; exact A.ok _ _ _ _ h1 (by rw [if_pos rfl]; exact q)
  · cases h⟩
instance : XT tru := ⟨fun env => some (true, env), by intro env sd e Q h q; cases h; exact q⟩
instance [C : XT c] [A : XE ta] [B : XE tb] : XE (cnd c ta tb) := ⟨fun env => match C.x env with
  | some (true, e) => A.x e
  | some (false, e) => B.x e
  | none => none, by
  intro env sd e Q h q
  rw [x_cnd]
  split at h
  · rename_i h1; exact C.ok _ _ _ _ h1 (by rw [if_pos rfl]; exact A.ok _ _ _ _ h q)
  · rename_i h1; exact C.ok _ _ _ _ h1 (by rw [if_neg (by simp)]; exact B.ok _ _ _ _ h q)
  · cases h⟩
instance : XA anil := ⟨fun env => some ([], env), by intro env sd e Q h q; cases h; exact q⟩
instance [A : XE ta] [B : XA ts] : XA (acons ta ts) := ⟨fun env => match A.x env with
  | none => none
  | some (x, e) => match B.x e with
    | some (xs, e2) => some (x :: xs, e2)
    | none => none, by
  intro env sd e Q h q
  rw [x_acons]
  split at h
  · cases h
  · rename_i h1
    refine A.ok _ _ _ _ h1 ?_
    split at h
    · rename_i h2; cases h; exact B.ok _ _ _ _ h2 q
    · cases h⟩
instance [A : XA ts] : XE (lstE ts) := ⟨fun env => match A.x env with
  | some (xs, e) => if xs.length ≤ sizeLine then some ((.o .f, .lst (xs.map (·.2))), e) else none
  | none => none, by
  intro env sd e Q h q
  rw [x_lstE]
  split at h
  · rename_i h1
    split at h
    · rename_i h2; cases h; exact A.ok _ _ _ _ h1 ⟨h2, q⟩
    · cases h
  · cases h⟩
instance [A : XA ts] : XE (tupE ts) := ⟨fun env => match A.x env with
  | some (xs, e) => if xs.length ≤ sizeLine then some ((.f, .tup (xs.map (·.2))), e) else none
  | none => none, by
  intro env sd e Q h q
  rw [x_tupE]
  split at h
  · rename_i h1
    split at h
    · rename_i h2; cases h; exact A.ok _ _ _ _ h1 ⟨h2, q⟩
    · cases h
  · cases h⟩
instance : XE dctE := ⟨fun env => some ((.o .f, .dct []), env), by intro env sd e Q h q; cases h; exact q⟩
instance [A : XE ta] [B : XE tb] : XE (dc1 ta tb) := ⟨fun env => match A.x env with
  | some ((_, .int i), e) => match B.x e with
    | some (y, e2) => some ((.o .f, .dct [(.num i, y.2)]), e2)
    | none => none
  | _ => none, by
  intro env sd e Q h q
  rw [x_dc1]
  split at h
  · rename_i h1
    refine A.ok _ _ _ _ h1 ?_
    split at h
    · rename_i h2; cases h; exact B.ok _ _ _ _ h2 q
    · cases h
  · cases h⟩
instance {f : List D → (SD → Prop) → Prop} [B : XB f] [A : XA ts] : XE (bc f ts) := ⟨fun env => match A.x env with
  | some (xs, e) => match B.x (xs.map (·.2)) with
    | some z => some (z, e)
    | none => none
  | none => none, by
  intro env sd e Q h q
  rw [x_bc]
  split at h
  · rename_i h1
    refine A.ok _ _ _ _ h1 ?_
    split at h
    · rename_i h2; cases h; exact B.ok _ _ _ h2 q
    · cases h
  · cases h⟩
def minX : List Int → Int → Int
  | [], m => m
  | y :: ys, m => minX ys (if y < m then y else m)
theorem minX_le : ∀ ys m, minX ys m ≤ m ∧ (∀ y ∈ ys, minX ys m ≤ y) ∧ (minX ys m = m ∨ minX ys m ∈ ys)
  | [], m => ⟨Int.le_refl _, by simp, .inl rfl⟩
  | y :: ys, m => by
    unfold minX
    obtain ⟨a, b, c⟩ := minX_le ys (if y < m then y else m)
    have h1 : (if y < m then y else m) ≤ m := by split <;> omega
    have h2 : (if y < m then y else m) ≤ y := by split <;> omega
    refine ⟨Int.le_trans a h1, fun z hz => ?_, ?_⟩
    · rcases List.mem_cons.mp hz with rfl | hz
      · exact Int.le_trans a h2
      · exact b z hz
    · rcases c with c | c
      · rw [c]
        split
        · exact .inr (List.mem_cons_self ..)
        · exact .inl rfl
      · exact .inr (List.mem_cons_of_mem _ c)
instance : XB rMin := ⟨fun ds => match ds with
  | [d] => match lstOf d with
    | some (y :: ys) => if (y :: ys).all isInt then some (.f, .int (minX (ys.map toInt) (toInt y))) else none
    | _ => none
  | _ => none, by
  intro ds z k h q
  split at h
  · rename_i d
    split at h
    · rename_i y ys h1
      split at h
      · rename_i h2
        cases h
        have : rMin [d] k = (match lstOf d with
          | some ds => ds.all isInt = true ∧ ds ≠ [] ∧ ∀ m, m ∈ ds.map toInt → (∀ y, y ∈ ds.map toInt → m ≤ y) → k (.f, .int m)
          | none => False) := by cases d <;> rfl
        rw [this, h1]
        refine ⟨h2, by simp, fun m hm hl => ?_⟩
        obtain ⟨a, b, c⟩ := minX_le (ys.map toInt) (toInt y)
        have e : m = minX (ys.map toInt) (toInt y) := by
          have h3 : m ≤ minX (ys.map toInt) (toInt y) := by
            rcases c with c | c
            · rw [c]; exact hl _ (by simp)
            · exact hl _ (by rw [List.map_cons]; exact List.mem_cons_of_mem _ c)
          have h4 : minX (ys.map toInt) (toInt y) ≤ m := by
            rw [List.map_cons] at hm
            rcases List.mem_cons.mp hm with rfl | hm
            · exact a
            · exact b _ hm
          omega
        rw [e]; exact q
      · cases h
    · cases h
  · cases h⟩
instance : XC cnil := ⟨fun env => some ([], env), by intro env sd e Q h q; cases h; exact q⟩
instance {tr : TCd} [A : XE ta] [B : XC tr] : XC (cva ta tr) := ⟨fun env => match A.x env with
  | none => none
  | some (x, e) => match B.x e with
    | some (xs, e2) => some (.inl x.2 :: xs, e2)
    | none => none, by
  intro env sd e Q h q
  rw [x_cva]
  split at h
  · cases h
  · rename_i h1
    refine A.ok _ _ _ _ h1 ?_
    split at h
    · rename_i h2; cases h; exact B.ok _ _ _ _ h2 q
    · cases h⟩
instance {tr : TCd} [B : XC tr] : XC (cln i tr) := ⟨fun env => if (look env i).isSome then match B.x env with
    | some (xs, e2) => some (.inr i :: xs, e2)
    | none => none
  else none, by
  intro env sd e Q h q
  rw [x_cln]
  split at h
  · refine ⟨by assumption, ?_⟩
    split at h
    · rename_i h2; cases h; exact B.ok _ _ _ _ h2 q
    · cases h
  · cases h⟩
instance {m : TM} {tr : TCd} [M : XM m] [A : XC tr] : XE (cl m tr) := ⟨fun env => match A.x env with
  | none => none
  | some (cs, e) => match lendA cs e with
    | none => none
    | some (sds, e2) => match M.x sds with
      | none => none
      | some (sd, bs) => if okB cs bs e2 then some (sd, backA cs bs e2) else none, by
  intro env sd e Q h q
  rw [x_cl]
  split at h
  · cases h
  · rename_i h1
    refine A.ok _ _ _ _ h1 ?_
    split at h
    · cases h
    · rename_i h2
      (try rw [h2])
      split at h
      · cases h
      · rename_i h3
        split at h
        · rename_i h4; cases h; exact M.ok _ _ _ _ h3 ⟨h4, q⟩
        · cases h⟩
end
section
variable {ta tb tc : TEd} {c c1 c2 : TTd} {ts : TAd} {r : D → D → (SD → Prop) → Prop} {i j n N : Nat} {t u : TSd} {g : TGd}
instance [A : XE ta] : XI (ilst ta) := ⟨fun env => match A.x env with
  | some (x, e) => match lstOf x.2 with
    | some ds => some (ds, e)
    | none => none
  | none => none, by
  intro env sd e Q h q
  rw [x_ilst]
  split at h
  · rename_i h1
    refine A.ok _ _ _ _ h1 ?_
    split at h
    · rename_i h2; (try rw [h2]); cases h; exact q
    · cases h
  · cases h⟩
instance [A : XE ta] : XI (irg1 ta) := ⟨fun env => match A.x env with
  | some ((_, .int j), e) => if -(2 ^ 62) ≤ j ∧ j < 2 ^ 62 then some (rangeD 0 j, e) else none
  | _ => none, by
  intro env sd e Q h q
  rw [x_irg1]
  split at h
  · rename_i h1
    refine A.ok _ _ _ _ h1 ?_
    split at h
    · rename_i h2; cases h; exact ⟨h2.1, h2.2, q⟩
    · cases h
  · cases h⟩
instance [A : XE ta] [B : XE tb] : XI (irg2 ta tb) := ⟨fun env => match A.x env with
  | some ((_, .int i), e) => match B.x e with
    | some ((_, .int j), e2) => if -(2 ^ 62) ≤ i ∧ i < 2 ^ 62 ∧ -(2 ^ 62) ≤ j ∧ j < 2 ^ 62 then some (rangeD i j, e2) else none
    | _ => none
  | _ => none, by
  intro env sd e Q h q
  rw [x_irg2]
  split at h
  · rename_i h1
    refine A.ok _ _ _ _ h1 ?_
    split at h
    · rename_i h3
      refine B.ok _ _ _ _ h3 ?_
      split at h
      · rename_i h2; cases h; exact ⟨h2, q⟩
      · cases h
    · cases h
  · cases h⟩
instance : XG (gn i) := ⟨fun sd env => if pinned env i then none else some (env.set i (false, some sd)), by
  intro sd env e Q h q
  split at h
  · cases h
  · rename_i hp; cases h; exact ⟨by simpa using hp, q⟩⟩
instance : XS skp := ⟨fun env => some (.nx env), by intro env o D h q; cases h; exact q⟩
instance : XS brk := ⟨fun env => some (.bk env), by intro env o D h q; cases h; exact q⟩
instance : XS cnt := ⟨fun env => some (.ct env), by intro env o D h q; cases h; exact q⟩
instance : XS nvr := ⟨fun env => none, by intro env o D h q; cases h⟩
instance : XS retN := ⟨fun env => some (.rt (.f, .non) env), by intro env o D h q; cases h; exact q⟩
instance [A : XS t] [B : XS u] : XS (sq t u) := ⟨fun env => match A.x env with
  | some (.nx e) => B.x e
  | some o => some o
  | none => none, by
  intro env o D h q
  rw [x_sq]
  split at h
  · rename_i h1; exact A.ok _ _ _ h1 (B.ok _ _ _ h q)
  · rename_i o2 hn h1
    cases h
    refine A.ok _ _ _ h1 ?_
    cases o with
    | nx e => exact (hn e rfl).elim
    | rt sd e => exact q
    | bk e => exact q
    | ct e => exact q
  · cases h⟩
instance [A : XE ta] : XS (drp ta) := ⟨fun env => match A.x env with
  | some (_, e) => some (.nx e)
  | none => none, by
  intro env o D h q
  rw [x_drp]
  split at h
  · rename_i h1; cases h; exact A.ok _ _ _ _ h1 q
  · cases h⟩
instance [A : XE ta] : XS (ret ta) := ⟨fun env => match A.x env with
  | some (sd, e) => some (.rt sd e)
  | none => none, by
  intro env o D h q
  rw [x_ret]
  split at h
  · rename_i h1; cases h; exact A.ok _ _ _ _ h1 q
  · cases h⟩
instance [C : XT c] [A : XS t] [B : XS u] : XS (iff c t u) := ⟨fun env => match C.x env with
  | some (true, e) => A.x e
  | some (false, e) => B.x e
  | none => none, by
  intro env o D h q
  rw [x_iff]
  split at h
  · rename_i h1; exact C.ok _ _ _ _ h1 (by rw [if_pos rfl]; exact A.ok _ _ _ h q)
  · rename_i h1; exact C.ok _ _ _ _ h1 (by rw [if_neg (by simp)]; exact B.ok _ _ _ h q)
  · cases h⟩
instance [A : XE ta] : XS (asn i ta) := ⟨fun env => match A.x env with
  | some (sd, e) => if pinned e i then none else some (.nx (e.set i (false, some sd)))
  | none => none, by
  intro env o D h q
  rw [x_asn]
  split at h
  · rename_i h1
    split at h
    · cases h
    · rename_i hp; cases h; exact A.ok _ _ _ _ h1 ⟨by simpa using hp, q⟩
  · cases h⟩
instance [A : XE ta] [R : XR r] : XS (aug r i ta) := ⟨fun env => match look env i with
  | some (.f, d) => match A.x env with
    | some (y, e) => match R.x d y.2 with
      | some z => if pinned e i then none else some (.nx (e.set i (false, some z)))
      | none => none
    | none => none
  | _ => none, by
  intro env o D h q
  rw [x_aug]
  split at h
  · rename_i h1
    (try rw [h1])
    split at h
    · rename_i h2
      refine A.ok _ _ _ _ h2 ?_
      split at h
      · rename_i h3
        split at h
        · cases h
        · rename_i hp; cases h; exact R.ok _ _ _ _ h3 ⟨by simpa using hp, q⟩
      · cases h
    · cases h
  · cases h⟩
def setX : D → D → D → Option D
  | .lst ds, .int i, v => match ixN ds.length i with
    | some j => some (.lst (ds.set j v))
    | none => none
  | .dct kvs, .int i, v => if kvs.length < sizeLine then if onceI i kvs then some (.dct (putI i v kvs)) else none else none
  | _, _, _ => none
theorem setX_ok {d y v d' : D} {k : D → Prop} (h : setX d y v = some d') (q : k d') : setD d y v k := by
  unfold setX at h
  split at h
  · rename_i ds n v
    split at h
    · rename_i j hj
      cases h
      simp only [setD, hj]
      exact q
    · cases h
  · rename_i kvs n v
    split at h
    · rename_i hl
      split at h
      · rename_i ho
        cases h
        rw [putI_eq _ ho] at q
        exact ⟨hl, q⟩
      · cases h
    · cases h
  · cases h
instance [A : XE ta] [B : XE tb] : XS (setS ta i tb) := ⟨fun env => match A.x env with
  | none => none
  | some (v, e1) => if (look e1 i).isSome then match B.x e1 with
    | none => none
    | some (y, e2) => match look e2 i with
      | some (.o .f, d) => match setX d y.2 v.2 with
        | some d' => some (.nx (putS e2 i (some (.o .f, d'))))
        | none => none
      | _ => none
    else none, by
  intro env o D h q
  rw [x_setS]
  split at h
  · cases h
  · rename_i h1
    refine A.ok _ _ _ _ h1 ?_
    split at h
    · refine ⟨by assumption, ?_⟩
      split at h
      · cases h
      · rename_i h2
        refine B.ok _ _ _ _ h2 ?_
        split at h
        · rename_i h3
          (try rw [h3])
          split at h
          · rename_i h4; cases h; exact setX_ok h4 q
          · cases h
        · cases h
    · cases h⟩
def runF (g : SD → Env → Option Env) (t : Env → Option XO) : List D → Env → Option XO
  | [], e => some (.nx e)
  | d :: ds, e => match g (.f, d) e with
    | none => none
    | some e1 => match t e1 with
      | some (.nx e2) => runF g t ds e2
      | some (.ct e2) => runF g t ds e2
      | some (.bk e2) => some (.nx e2)
      | some (.rt sd e2) => some (.rt sd e2)
      | none => none
theorem runF_ok [G : XG g] [T : XS t] {D : EndsD} {ds : List DL.D} {e : Env} {o : XO} (h : runF G.x T.x ds e = some o) (q : o.holds D) : frB ds g t D e := by
  refine frB_of (fun n e => runF G.x T.x (ds.drop n) e = some o) h ?_ ?_
  · intro n d e nx hn hw k
    obtain ⟨hlt, he⟩ := List.getElem?_eq_some_iff.mp hn
    rw [List.drop_eq_getElem_cons hlt, he] at hw
    unfold runF at hw
    split at hw
    · cases hw
    · rename_i e1 h1
      refine G.ok _ _ _ _ h1 ?_
      split at hw
      · rename_i e2 h2; exact T.ok _ _ _ h2 (k _ hw)
      · rename_i e2 h2; exact T.ok _ _ _ h2 (k _ hw)
      · rename_i e2 h2; cases hw; exact T.ok _ _ _ h2 q
      · rename_i e2 h2; cases hw; exact T.ok _ _ _ h2 q
      · cases hw
  · intro e hw
    rw [List.drop_length] at hw
    cases hw
    exact q
instance {it : TId} [I : XI it] [G : XG g] [T : XS t] : XS (fr it g t) := ⟨fun env => match I.x env with
  | some (ds, e) => runF G.x T.x ds e
  | none => none, by
  intro env o D h q
  rw [x_fr]
  split at h
  · rename_i h1; exact I.ok _ _ _ _ h1 (runF_ok h q)
  · cases h⟩
instance [G : XG g] [T : XS t] : XS (frn i g t) := ⟨fun env => match XE.x (rd i) env with
  | some (x, e) => match itemsOf x.2 with
    | some ds => runF G.x T.x ds e
    | none => none
  | none => none, by
  intro env o D h q
  rw [x_frn]
  split at h
  · rename_i h1
    refine XE.ok _ _ _ _ h1 ?_
    split at h
    · rename_i h2; (try rw [h2]); exact runF_ok h q
    · cases h
  · cases h⟩
def runW (c : Env → Option (Bool × Env)) (t : Env → Option XO) : Nat → Env → Option XO
  | 0, _ => none
  | n + 1, e => match c e with
    | some (true, e1) => match t e1 with
      | some (.nx e2) => runW c t n e2
      | some (.ct e2) => runW c t n e2
      | some (.bk e2) => some (.nx e2)
      | some (.rt sd e2) => some (.rt sd e2)
      | none => none
    | some (false, e1) => some (.nx e1)
    | none => none
instance [C : XT c] [T : XS t] : XS (whl c t) := ⟨fun env => runW C.x T.x 1000 env, by
  intro env o D h q
  refine ⟨fun n e => runW C.x T.x n e = some o, ⟨1000, h⟩, fun n e hw => ?_⟩
  cases n with
  | zero => cases hw
  | succ n =>
    unfold runW at hw
    split at hw
    · rename_i e1 h1
      refine C.ok _ _ _ _ h1 ?_
      rw [if_pos rfl]
      split at hw
      · rename_i e2 h2; exact T.ok _ _ _ h2 ⟨n, by omega, hw⟩
      · rename_i e2 h2; exact T.ok _ _ _ h2 ⟨n, by omega, hw⟩
      · rename_i e2 h2; cases hw; exact T.ok _ _ _ h2 q
      · rename_i e2 h2; cases hw; exact T.ok _ _ _ h2 q
      · cases hw
    · rename_i e1 h1
      cases hw
      refine C.ok _ _ _ _ h1 ?_
      rw [if_neg (by simp)]
      exact q
    · cases hw⟩
def runL (i : Nat) (c : Env → Option (Bool × Env)) (te : Env → Option (SD × Env)) : List D → List D → Env → Option (List D × Env)
  | [], acc, e => some (acc, e)
  | d :: ds, acc, e => match c (inner e i d) with
    | some (true, e1) => match te e1 with
      | some (y, e2) => if acc.length < sizeLine then runL i c te ds (acc ++ [y.2]) (outer e2 i) else none
      | none => none
    | some (false, e1) => runL i c te ds acc (outer e1 i)
    | none => none
theorem runL_ok [C : XT c] [A : XE ta] {ds acc : List D} {e0 e1 : Env} {Q : SD → Env → Prop} (hf : freeS e0 i = true) (h : runL i C.x A.x ds [] (outer e0 i) = some (acc, e1)) (q : Q (.o .f, .lst acc) (e1.set i (e0.getD i (false, none)))) : lcB i c ta ds e0 Q := by
  refine lcB_of hf (fun n a e => runL i C.x A.x (ds.drop n) a e = some (acc, e1)) h ?_ ?_
  · intro n d a e hn hw
    obtain ⟨hlt, he⟩ := List.getElem?_eq_some_iff.mp hn
    rw [List.drop_eq_getElem_cons hlt, he] at hw
    unfold runL at hw
    split at hw
    · rename_i h1
      refine C.ok _ _ _ _ h1 ?_
      rw [if_pos rfl]
      split at hw
      · rename_i h2
        refine A.ok _ _ _ _ h2 ?_
        split at hw
        · exact ⟨by assumption, hw⟩
        · cases hw
      · cases hw
    · rename_i h1
      refine C.ok _ _ _ _ h1 ?_
      rw [if_neg (by simp)]
      exact hw
    · cases hw
  · intro a e hw
    rw [List.drop_length] at hw
    cases hw
    exact q
def xlc (i : Nat) (c : Env → Option (Bool × Env)) (te : Env → Option (SD × Env)) (ds : List D) (e0 : Env) : Option (SD × Env) := if freeS e0 i then match runL i c te ds [] (outer e0 i) with
  | some (acc, e1) => some ((.o .f, .lst acc), e1.set i (e0.getD i (false, none)))
  | none => none
  else none
theorem xlc_ok [C : XT c] [A : XE ta] {ds : List D} {e0 e : Env} {sd : SD} {Q : SD → Env → Prop} (h : xlc i C.x A.x ds e0 = some (sd, e)) (q : Q sd e) : lcB i c ta ds e0 Q := by
  unfold xlc at h
  split at h
  · rename_i hf
    split at h
    · rename_i h1; cases h; exact runL_ok hf h1 q
    · cases h
  · cases h
instance {it : TId} [I : XI it] [C : XT c] [A : XE ta] : XE (lc it i c ta) := ⟨fun env => match I.x env with
  | some (ds, e) => xlc i C.x A.x ds e
  | none => none, by
  intro env sd e Q h q
  rw [x_lc]
  split at h
  · rename_i h1; exact I.ok _ _ _ _ h1 (xlc_ok h q)
  · cases h⟩
instance [C : XT c] [A : XE ta] : XE (lcn j i c ta) := ⟨fun env => match XE.x (rd j) env with
  | some (x, e) => match itemsOf x.2 with
    | some ds => xlc i C.x A.x ds e
    | none => none
  | none => none, by
  intro env sd e Q h q
  rw [x_lcn]
  split at h
  · rename_i h1
    refine XE.ok _ _ _ _ h1 ?_
    split at h
    · rename_i h2; (try rw [h2]); exact xlc_ok h q
    · cases h
  · cases h⟩
class XMt (m : List D → List D → (D → List D → Prop) → Prop) where
  x : List D → List D → Option (D × List D)
  ok : ∀ ds es d ds' (k : D → List D → Prop), x ds es = some (d, ds') → k d ds' → m ds es k
instance {m : List D → List D → (D → List D → Prop) → Prop} [M : XMt m] [A : XA ts] : XE (mt m i ts) := ⟨fun env => match look env i with
  | some (.o .f, .lst _) => match A.x env with
    | some (es, e) => match look e i with
      | some (.o .f, .lst ds) => match M.x ds (es.map (·.2)) with
        | some (d, ds') => some ((.f, d), putS e i (some (.o .f, .lst ds')))
        | none => none
      | _ => none
    | none => none
  | _ => none, by
  intro env sd e Q h q
  rw [x_mt]
  split at h
  · rename_i ds h1
    refine ⟨⟨ds, h1⟩, ?_⟩
    split at h
    · rename_i h2
      refine A.ok _ _ _ _ h2 ?_
      split at h
      · rename_i h3
        (try rw [h3])
        split at h
        · rename_i h4; cases h; exact M.ok _ _ _ _ _ h4 q
        · cases h
      · cases h
    · cases h
  · cases h⟩
end
instance {n N : Nat} {t : TSd} [T : XS t] : XM (mkM n N t) := ⟨fun sds => if sds.length = n then match T.x (startE N sds) with
  | some (.nx e) => some ((.f, .non), backs sds e)
  | some (.rt sd e) => some (sd, backs sds e)
  | _ => none
  else none, by
  intro sds sd bs R h q
  split at h
  · refine ⟨by assumption, ?_⟩
    unfold mOf
    split at h
    · rename_i h1; cases h; exact T.ok _ _ _ h1 q
    · rename_i h1; cases h; exact T.ok _ _ _ h1 q
    · cases h
  · cases h⟩
instance : XMt rApp := ⟨fun ds es => match es with
  | [y] => if ds.length < sizeLine then some (.non, ds ++ [y]) else none
  | _ => none, by
  intro ds es d ds' k h q
  split at h
  · split at h
    · cases h; exact ⟨by assumption, q⟩
    · cases h
  · cases h⟩
/-- the numbers of a list -/
def intsX : List D → Option (List Int)
  | [] => some []
  | .int i :: ds => (intsX ds).map (i :: ·)
  | _ => none
theorem intsX_eq : ∀ {ds ns}, intsX ds = some ns → ds = ns.map .int
  | [], ns, h => by cases h; rfl
  | d :: ds, ns, h => by
    cases d with
    | int i =>
      simp only [intsX, Option.map_eq_some_iff] at h
      obtain ⟨ms, h1, rfl⟩ := h
      rw [intsX_eq h1]; rfl
    | _ => cases h
/-- an own list of numbers comes back, and the given names stay shared -/
def ckI (o : Option (SD × List (Option SD))) (ns : List Int) (bs : Nat) : Bool := match o with
  | some ((.o .f, .lst ds), b) => decide (intsX ds = some ns) && (b.length == bs) && b.all (·.isNone)
  | _ => false
theorem ckI_eq {o : Option (SD × List (Option SD))} {ns : List Int} {bs : Nat} (h : ckI o ns bs = true) : o = some ((.o .f, .lst (ns.map .int)), List.replicate bs none) := by
  unfold ckI at h
  split at h
  · rename_i ds b
    simp only [Bool.and_eq_true, decide_eq_true_eq, beq_iff_eq, List.all_eq_true] at h
    obtain ⟨⟨h1, h2⟩, h3⟩ := h
    have : b = List.replicate bs none := by
      refine List.eq_replicate_iff.mpr ⟨h2, fun x hx => ?_⟩
      have := h3 x hx
      cases x with
      | none => rfl
      | some _ => cases this
    rw [intsX_eq h1, this]
  · cases h
end DL
set_option Elab.async false
set_option linter.all false
set_option maxRecDepth 100000
set_option maxHeartbeats 4000000
namespace DL.K82
open PySem PySem.Spec PyProof.Rows L2
def top (i : Nat) : Stmt := PySem.Challenge.pw_neverlifted_k82_whole_alike_evenings_for.main.body.getD i (.Pass ⟨0, 0, 0, 0⟩)
abbrev rIAdd : D → D → (SD → Prop) → Prop := rJ fun i j => .int (i + j)

def tab_LIMITS : List (Str × Int) := [("pots", 60), ("dishes", 60), ("purse", 2400), ("servings", 12)]
structure Gs (K : PySem.W.Frag) (w : World) (mg : Str → Option Value) where
  n_abs : mg "abs" = none
  n_bool : mg "bool" = none
  n_dict : mg "dict" = none
  n_int : mg "int" = none
  n_isinstance : mg "isinstance" = none
  n_len : mg "len" = none
  n_list : mg "list" = none
  n_max : mg "max" = none
  n_min : mg "min" = none
  n_range : mg "range" = none
  n_sorted : mg "sorted" = none
  n_str : mg "str" = none
  n_sum : mg "sum" = none
  n_tuple : mg "tuple" = none
  a_LIMITS : Addr
  g_LIMITS : mg "LIMITS" = some (.ref a_LIMITS)
  w_LIMITS : WTab K w a_LIMITS tab_LIMITS
section
variable {P : Program} {w : World} {K : PySem.W.Frag} {mg : Str → Option Value} {base : Heap}
/-! check -/
abbrev s_check : Stmt := (top 6)
abbrev N_check : List Str := ["what", "number"]
theorem sc_check : FnScope N_check ["what", "number"] (defScope s_check) := ⟨rfl, rfl, rfl, by decide +kernel, rfl, by decide +kernel, by decide +kernel⟩
def t_check : TSd :=
  (iff (tst (bi rGt (rd 1) (wix tab_LIMITS (rd 0)))) nvr skp)
def m_check : TM := mkM 2 2 t_check
theorem ok_check {f : Addr} {fd : FuncData} (D : Df K mg "check" s_check ["what", "number"] f fd) (T : Gs K w mg)  : DefOk P w K mg base "check" 1 2 m_check := by
  refine D.ok sc_check rfl rfl fun cdv A outer s H E hr => ?_
  exact (pss_oned (ps_ifd (pt_cmpd od_gt (pd_rd (pv 1)) (pd_wix rfl T.g_LIMITS T.w_LIMITS (pd_rd (pv 0))) (nomark _)) (pss_oned ps_nvr) pss_nild))
/-! check_each -/
abbrev s_check_each : Stmt := (top 7)
abbrev N_check_each : List Str := ["what", "numbers", "number"]
theorem sc_check_each : FnScope N_check_each ["what", "numbers"] (defScope s_check_each) := ⟨rfl, rfl, rfl, by decide +kernel, rfl, by decide +kernel, by decide +kernel⟩
def t_check_each : TSd :=
  (frn 1 (gn 2) (drp (cl m_check (cln 0 (cln 2 cnil)))))
def m_check_each : TM := mkM 2 3 t_check_each
theorem ok_check_each {f : Addr} {fd : FuncData} (D : Df K mg "check_each" s_check_each ["what", "numbers"] f fd) (T : Gs K w mg) (h_check : DefOk P w K mg base "check" 1 2 m_check) : DefOk P w K mg base "check_each" 2 2 m_check_each := by
  refine D.ok sc_check_each rfl rfl fun cdv A outer s H E hr => ?_
  exact (pss_oned (ps_frn PassesOwn.never rfl (pv 1) (pg_n (pg_name (i := 2) sc_check_each.nd rfl (Or.inl rfl))) (pss_oned (ps_drp (pd_call h_check (hr.mono (by decide)) rfl (pc_ln (pv 0) (pc_ln (pv 2) pc_nil)))))))
/-! sums_behind -/
abbrev s_sums_behind : Stmt := (top 9)
abbrev N_sums_behind : List Str := ["sums", "pots", "lack", "later", "undone", "spoilt", "held", "total"]
theorem sc_sums_behind : FnScope N_sums_behind ["sums", "pots", "lack"] (defScope s_sums_behind) := ⟨rfl, rfl, rfl, by decide +kernel, rfl, by decide +kernel, by decide +kernel⟩
def t_sums_behind : TSd :=
  (sq (asn 3 dctE)
  (sq (frn 0 (gn 4) (sq (asn 5 (cst (.int 0)))
  (fr (irg2 (cst (.int 1)) (bi rAdd (rd 4) (cst (.int 1)))) (gn 6) (sq (aug rIAdd 5 (bi rDiv (bi rSub (bi rAdd (rd 1) (rd 6)) (cst (.int 1))) (rd 4)))
  (iff (tst (bi rGt (rd 6) (rd 2))) (sq (asn 7 (bi rAdd (ixS 0 (rd 4)) (rd 5)))
  (iff (tor (tst (inS true (rd 6) 3)) (tst (bi rLt (rd 7) (ixS 3 (rd 6))))) (setS (rd 7) 3 (rd 6)) skp)) skp)))))
  (ret (mv 3))))
def m_sums_behind : TM := mkM 3 8 t_sums_behind
theorem ok_sums_behind {f : Addr} {fd : FuncData} (D : Df K mg "sums_behind" s_sums_behind ["sums", "pots", "lack"] f fd) (T : Gs K w mg)  : DefOk P w K mg base "sums_behind" 1 3 m_sums_behind := by
  refine D.ok sc_sums_behind rfl rfl fun cdv A outer s H E hr => ?_
  exact (pss_consd (ps_asnd (i := 3) sc_sums_behind.nd rfl (Or.inl rfl) pd_dct)
    (pss_consd (ps_frn PassesOwn.never rfl (pv 0) (pg_n (pg_name (i := 4) sc_sums_behind.nd rfl (Or.inl rfl))) (pss_consd (ps_asnd (i := 5) sc_sums_behind.nd rfl (Or.inl rfl) pd_int)
    (pss_oned (ps_frd PassesOwn.never rfl (pi_rg2 rfl T.n_range pd_int (pd_bin od_add (pd_rd (pv 4)) pd_int)) (pg_n (pg_name (i := 6) sc_sums_behind.nd rfl (Or.inl rfl))) (pss_consd (ps_augd (i := 5) sc_sums_behind.nd rfl (Or.inl rfl) (pd_bin od_div (pd_bin od_sub (pd_bin od_add (pd_rd (pv 1)) (pd_rd (pv 6))) pd_int) (pd_rd (pv 4))) od_iadd)
    (pss_oned (ps_ifd (pt_cmpd od_gt (pd_rd (pv 6)) (pd_rd (pv 2)) (nomark _)) (pss_consd (ps_asnd (i := 7) sc_sums_behind.nd rfl (Or.inl rfl) (pd_bin od_add (pd_ixS (hu_of hr) (pv 0) (pd_rd (pv 4))) (pd_rd (pv 5))))
    (pss_oned (ps_ifd (PWd.pt (pw_or (pt_notInS (hu_of hr) (pd_rd (pv 6)) (pv 3)) (pw_or1 (pt_cmpd od_lt (pd_rd (pv 7)) (pd_ixS (hu_of hr) (pv 3) (pd_rd (pv 6))) (nomark _))))) (pss_oned (ps_setSd (hu_of hr) (pv 3) (pd_rd (pv 6)) (pd_rd (pv 7)))) pss_nild))) pss_nild)))))))
    (pss_oned (ps_retd (pd_mv (pv 3))))))
/-! rises_of -/
abbrev s_rises_of : Stmt := (top 10)
abbrev N_rises_of : List Str := ["pots", "dishes", "sums", "rises", "before", "least", "undone"]
theorem sc_rises_of : FnScope N_rises_of ["pots", "dishes"] (defScope s_rises_of) := ⟨rfl, rfl, rfl, by decide +kernel, rfl, by decide +kernel, by decide +kernel⟩
def t_rises_of : TSd :=
  (sq (asn 2 (dc1 (rd 1) (cst (.int 0))))
  (sq (asn 3 (lstE anil))
  (sq (asn 4 (cst (.int 0)))
  (sq (whl (tor (tst (bi rEq (lenS 3) (cst (.int 0)))) (tst (bi rNe (ixS 3 (neg (cst (.int 1)))) (rd 0)))) (sq (asn 2 (cl m_sums_behind (cln 2 (cln 0 (cva (cst (.int 0)) cnil)))))
  (sq (asn 5 (bc rMin (acons (lcn 2 6 tru (ixS 2 (rd 6))) anil)))
  (sq (drp (mt rApp 3 (acons (bi rSub (rd 5) (rd 4)) anil)))
  (asn 4 (rd 5))))))
  (ret (mv 3))))))
def m_rises_of : TM := mkM 2 7 t_rises_of
theorem ok_rises_of {f : Addr} {fd : FuncData} (D : Df K mg "rises_of" s_rises_of ["pots", "dishes"] f fd) (T : Gs K w mg) (h_sums_behind : DefOk P w K mg base "sums_behind" 1 3 m_sums_behind) : DefOk P w K mg base "rises_of" 2 2 m_rises_of := by
  refine D.ok sc_rises_of rfl rfl fun cdv A outer s H E hr => ?_
  exact (pss_consd (ps_asnd (i := 2) sc_rises_of.nd rfl (Or.inr rfl) (pd_dc1 (pd_rd (pv 1)) pd_int))
    (pss_consd (ps_asnd (i := 3) sc_rises_of.nd rfl (Or.inl rfl) (pd_lst pa_nild))
    (pss_consd (ps_asnd (i := 4) sc_rises_of.nd rfl (Or.inl rfl) pd_int)
    (pss_consd (ps_whl PassesOwn.never (PWd.pt (pw_or (pt_cmpd (od_eq hr.units) (pd_lenS T.n_len rfl (pv 3)) pd_int (nomark _)) (pw_or1 (pt_cmpd (od_ne hr.units) (pd_ixS (hu_of hr) (pv 3) (pd_neg pd_int)) (pd_rd (pv 0)) (nomark _))))) (pss_consd (ps_asnd (i := 2) sc_rises_of.nd rfl (Or.inr rfl) (pd_call h_sums_behind (hr.mono (by decide)) rfl (pc_ln (pv 2) (pc_ln (pv 0) (pc_va pd_int pc_nil)))))
    (pss_consd (ps_asnd (i := 5) sc_rises_of.nd rfl (Or.inl rfl) (pd_bc (cd_min rfl) rfl T.n_min (by decide +kernel) (pa_consd (pd_lcn rfl sc_rises_of.nd (pv 2) (blkOk_by (own := [("undone", 6)]) (N := N_rises_of) (sc := defScope s_rises_of) (by decide +kernel)) rfl (fun _ _ _ _ _ => pg_name (i := 6) sc_rises_of.nd rfl (Or.inl rfl)) (fun _ _ _ _ _ => pts_nild) (fun _ _ _ _ _ => (pd_ixS (hu_of hr) (pv 2) (pd_rd (pv 6))))) pa_nild)))
    (pss_consd (ps_drp (pd_mt PySem.F.plainAttrs_list PySem.F.slot_list_append PySem.F.type_list_append md_append (pv 3) (pa_consd (pd_bin od_sub (pd_rd (pv 5)) (pd_rd (pv 4))) pa_nild)))
    (pss_oned (ps_asnd (i := 4) sc_rises_of.nd rfl (Or.inl rfl) (pd_rd (pv 5))))))))
    (pss_oned (ps_retd (pd_mv (pv 3))))))))
/-! check_servings -/
abbrev s_check_servings : Stmt := (top 12)
abbrev N_check_servings : List Str := ["servings", "dishes"]
theorem sc_check_servings : FnScope N_check_servings ["servings"] (defScope s_check_servings) := ⟨rfl, rfl, rfl, by decide +kernel, rfl, by decide +kernel, by decide +kernel⟩
def t_check_servings : TSd :=
  (sq (iff (tst (bi rEq (lenS 0) (cst (.int 0)))) nvr skp)
  (frn 0 (gn 1) (iff (tst (bi rLt (rd 1) (cst (.int 1)))) nvr skp)))
def m_check_servings : TM := mkM 1 2 t_check_servings
theorem ok_check_servings {f : Addr} {fd : FuncData} (D : Df K mg "check_servings" s_check_servings ["servings"] f fd) (T : Gs K w mg)  : DefOk P w K mg base "check_servings" 1 1 m_check_servings := by
  refine D.ok sc_check_servings rfl rfl fun cdv A outer s H E hr => ?_
  exact (pss_consd (ps_ifd (pt_cmpd (od_eq hr.units) (pd_lenS T.n_len rfl (pv 0)) pd_int (nomark _)) (pss_oned ps_nvr) pss_nild)
    (pss_oned (ps_frn PassesOwn.never rfl (pv 0) (pg_n (pg_name (i := 1) sc_check_servings.nd rfl (Or.inl rfl))) (pss_oned (ps_ifd (pt_cmpd od_lt (pd_rd (pv 1)) pd_int (nomark _)) (pss_oned ps_nvr) pss_nild)))))
/-! all_rises -/
abbrev s_all_rises : Stmt := (top 13)
abbrev N_all_rises : List Str := ["pots", "servings", "by_dishes", "rises", "dishes", "rise"]
theorem sc_all_rises : FnScope N_all_rises ["pots", "servings"] (defScope s_all_rises) := ⟨rfl, rfl, rfl, by decide +kernel, rfl, by decide +kernel, by decide +kernel⟩
def t_all_rises : TSd :=
  (sq (asn 2 dctE)
  (sq (asn 3 (lstE anil))
  (sq (frn 1 (gn 4) (sq (iff (tst (inS true (rd 4) 2)) (setS (cl m_rises_of (cln 0 (cln 4 cnil))) 2 (rd 4)) skp)
  (drp (mt rExt 3 (acons (ixS 2 (rd 4)) anil)))))
  (ret (bc rSorted (acons (lcn 3 5 (tst (bi rLt (rd 5) (rd 0))) (rd 5)) anil))))))
def m_all_rises : TM := mkM 2 6 t_all_rises
theorem ok_all_rises {f : Addr} {fd : FuncData} (D : Df K mg "all_rises" s_all_rises ["pots", "servings"] f fd) (T : Gs K w mg) (h_rises_of : DefOk P w K mg base "rises_of" 2 2 m_rises_of) : DefOk P w K mg base "all_rises" 3 2 m_all_rises := by
  refine D.ok sc_all_rises rfl rfl fun cdv A outer s H E hr => ?_
  exact (pss_consd (ps_asnd (i := 2) sc_all_rises.nd rfl (Or.inl rfl) pd_dct)
    (pss_consd (ps_asnd (i := 3) sc_all_rises.nd rfl (Or.inl rfl) (pd_lst pa_nild))
    (pss_consd (ps_frn PassesOwn.never rfl (pv 1) (pg_n (pg_name (i := 4) sc_all_rises.nd rfl (Or.inl rfl))) (pss_consd (ps_ifd (pt_notInS (hu_of hr) (pd_rd (pv 4)) (pv 2)) (pss_oned (ps_setSd (hu_of hr) (pv 2) (pd_rd (pv 4)) (pd_call h_rises_of (hr.mono (by decide)) rfl (pc_ln (pv 0) (pc_ln (pv 4) pc_nil))))) pss_nild)
    (pss_oned (ps_drp (pd_mt PySem.F.plainAttrs_list PySem.F.slot_list_extend PySem.F.type_list_extend md_extend (pv 3) (pa_consd (pd_ixS (hu_of hr) (pv 2) (pd_rd (pv 4))) pa_nild))))))
    (pss_oned (ps_retd (pd_bc (cd_sorted rfl) rfl T.n_sorted (by decide +kernel) (pa_consd (pd_lcn rfl sc_all_rises.nd (pv 3) (blkOk_by (own := [("rise", 5)]) (N := N_all_rises) (sc := defScope s_all_rises) (by decide +kernel)) rfl (fun _ _ _ _ _ => pg_name (i := 5) sc_all_rises.nd rfl (Or.inl rfl)) (fun _ _ _ _ _ => (pts_oned (pt_cmpd od_lt (pd_rd (pv 5)) (pd_rd (pv 0)) (nomark _)))) (fun _ _ _ _ _ => (pd_rd (pv 5)))) pa_nild)))))))
/-! longest_evening -/
abbrev s_longest_evening : Stmt := (top 14)
abbrev N_longest_evening : List Str := ["pots", "servings", "purse", "rounds", "left", "rise"]
theorem sc_longest_evening : FnScope N_longest_evening ["pots", "servings", "purse"] (defScope s_longest_evening) := ⟨rfl, rfl, rfl, by decide +kernel, rfl, by decide +kernel, by decide +kernel⟩
def t_longest_evening : TSd :=
  (sq (drp (cl m_check (cva (cst (.str "pots")) (cln 0 cnil))))
  (sq (drp (cl m_check_each (cva (cst (.str "dishes")) (cln 1 cnil))))
  (sq (drp (cl m_check (cva (cst (.str "purse")) (cln 2 cnil))))
  (sq (drp (cl m_check (cva (cst (.str "servings")) (cva (lenS 1) cnil))))
  (sq (iff (tst (bi rLt (rd 0) (cst (.int 1)))) nvr skp)
  (sq (iff (tst (bi rLt (rd 2) (cst (.int 0)))) nvr skp)
  (sq (drp (cl m_check_servings (cln 1 cnil)))
  (sq (asn 3 (lenS 1))
  (sq (asn 4 (rd 2))
  (sq (fr (ilst (cl m_all_rises (cln 0 (cln 1 cnil)))) (gn 5) (sq (iff (tst (bi rGt (rd 5) (rd 4))) (ret (mv 3)) skp)
  (sq (asn 4 (bi rSub (rd 4) (rd 5)))
  (aug rIAdd 3 (cst (.int 1))))))
  (ret (bi rAdd (rd 3) (bi rDiv (rd 4) (rd 0))))))))))))))
def m_longest_evening : TM := mkM 3 6 t_longest_evening
theorem ok_longest_evening {f : Addr} {fd : FuncData} (D : Df K mg "longest_evening" s_longest_evening ["pots", "servings", "purse"] f fd) (T : Gs K w mg) (h_all_rises : DefOk P w K mg base "all_rises" 3 2 m_all_rises) (h_check : DefOk P w K mg base "check" 1 2 m_check) (h_check_each : DefOk P w K mg base "check_each" 2 2 m_check_each) (h_check_servings : DefOk P w K mg base "check_servings" 1 1 m_check_servings) : DefOk P w K mg base "longest_evening" 4 3 m_longest_evening := by
  refine D.ok sc_longest_evening rfl rfl fun cdv A outer s H E hr => ?_
  exact (pss_consd (ps_drp (pd_call h_check (hr.mono (by decide)) rfl (pc_va pd_str (pc_ln (pv 0) pc_nil))))
    (pss_consd (ps_drp (pd_call h_check_each (hr.mono (by decide)) rfl (pc_va pd_str (pc_ln (pv 1) pc_nil))))
    (pss_consd (ps_drp (pd_call h_check (hr.mono (by decide)) rfl (pc_va pd_str (pc_ln (pv 2) pc_nil))))
    (pss_consd (ps_drp (pd_call h_check (hr.mono (by decide)) rfl (pc_va pd_str (pc_va (pd_lenS T.n_len rfl (pv 1)) pc_nil))))
    (pss_consd (ps_ifd (pt_cmpd od_lt (pd_rd (pv 0)) pd_int (nomark _)) (pss_oned ps_nvr) pss_nild)
    (pss_consd (ps_ifd (pt_cmpd od_lt (pd_rd (pv 2)) pd_int (nomark _)) (pss_oned ps_nvr) pss_nild)
    (pss_consd (ps_drp (pd_call h_check_servings (hr.mono (by decide)) rfl (pc_ln (pv 1) pc_nil)))
    (pss_consd (ps_asnd (i := 3) sc_longest_evening.nd rfl (Or.inl rfl) (pd_lenS T.n_len rfl (pv 1)))
    (pss_consd (ps_asnd (i := 4) sc_longest_evening.nd rfl (Or.inl rfl) (pd_rd (pv 2)))
    (pss_consd (ps_frd PassesOwn.never rfl (pi_lst (pd_call h_all_rises (hr.mono (by decide)) rfl (pc_ln (pv 0) (pc_ln (pv 1) pc_nil)))) (pg_n (pg_name (i := 5) sc_longest_evening.nd rfl (Or.inl rfl))) (pss_consd (ps_ifd (pt_cmpd od_gt (pd_rd (pv 5)) (pd_rd (pv 4)) (nomark _)) (pss_oned (ps_retd (pd_mv (pv 3)))) pss_nild)
    (pss_consd (ps_asnd (i := 4) sc_longest_evening.nd rfl (Or.inl rfl) (pd_bin od_sub (pd_rd (pv 4)) (pd_rd (pv 5))))
    (pss_oned (ps_augd (i := 3) sc_longest_evening.nd rfl (Or.inl rfl) pd_int od_iadd)))))
    (pss_oned (ps_retd (pd_bin od_add (pd_rd (pv 3)) (pd_bin od_div (pd_rd (pv 4)) (pd_rd (pv 0))))))))))))))))
/-! parting_purse -/
abbrev s_parting_purse : Stmt := (top 15)
abbrev N_parting_purse : List Str := ["pots", "servings", "others", "one", "two", "purse", "place", "first", "second", "rise"]
theorem sc_parting_purse : FnScope N_parting_purse ["pots", "servings", "others"] (defScope s_parting_purse) := ⟨rfl, rfl, rfl, by decide +kernel, rfl, by decide +kernel, by decide +kernel⟩
def t_parting_purse : TSd :=
  (sq (drp (cl m_check (cva (cst (.str "pots")) (cln 0 cnil))))
  (sq (drp (cl m_check_each (cva (cst (.str "dishes")) (cln 1 cnil))))
  (sq (drp (cl m_check_each (cva (cst (.str "dishes")) (cln 2 cnil))))
  (sq (drp (cl m_check (cva (cst (.str "servings")) (cva (lenS 1) cnil))))
  (sq (drp (cl m_check (cva (cst (.str "servings")) (cva (lenS 2) cnil))))
  (sq (iff (tst (bi rLt (rd 0) (cst (.int 1)))) nvr skp)
  (sq (drp (cl m_check_servings (cln 1 cnil)))
  (sq (drp (cl m_check_servings (cln 2 cnil)))
  (sq (asn 3 (cl m_all_rises (cln 0 (cln 1 cnil))))
  (sq (asn 4 (cl m_all_rises (cln 0 (cln 2 cnil))))
  (sq (iff (tst (bi rNe (bi rAdd (lenS 1) (cntS 3 (acons (cst (.int 0)) anil))) (bi rAdd (lenS 2) (cntS 4 (acons (cst (.int 0)) anil))))) (ret (cst (.int 0))) skp)
  (sq (asn 3 (lcn 3 9 (tst (bi rGt (rd 9) (cst (.int 0)))) (rd 9)))
  (sq (asn 4 (lcn 4 9 (tst (bi rGt (rd 9) (cst (.int 0)))) (rd 9)))
  (sq (asn 5 (cst (.int 0)))
  (sq (fr (irg1 (bc rMax (acons (lenS 3) (acons (lenS 4) anil)))) (gn 6) (sq (asn 7 (cnd (tst (bi rLt (rd 6) (lenS 3))) (ixS 3 (rd 6)) (rd 0)))
  (sq (asn 8 (cnd (tst (bi rLt (rd 6) (lenS 4))) (ixS 4 (rd 6)) (rd 0)))
  (sq (aug rIAdd 5 (bc rMin (acons (rd 7) (acons (rd 8) anil))))
  (iff (tst (bi rNe (rd 7) (rd 8))) (ret (mv 5)) skp)))))
  (ret (cst .non)))))))))))))))))
def m_parting_purse : TM := mkM 3 10 t_parting_purse
theorem ok_parting_purse {f : Addr} {fd : FuncData} (D : Df K mg "parting_purse" s_parting_purse ["pots", "servings", "others"] f fd) (T : Gs K w mg) (h_all_rises : DefOk P w K mg base "all_rises" 3 2 m_all_rises) (h_check : DefOk P w K mg base "check" 1 2 m_check) (h_check_each : DefOk P w K mg base "check_each" 2 2 m_check_each) (h_check_servings : DefOk P w K mg base "check_servings" 1 1 m_check_servings) : DefOk P w K mg base "parting_purse" 4 3 m_parting_purse := by
  refine D.ok sc_parting_purse rfl rfl fun cdv A outer s H E hr => ?_
  exact (pss_consd (ps_drp (pd_call h_check (hr.mono (by decide)) rfl (pc_va pd_str (pc_ln (pv 0) pc_nil))))
    (pss_consd (ps_drp (pd_call h_check_each (hr.mono (by decide)) rfl (pc_va pd_str (pc_ln (pv 1) pc_nil))))
    (pss_consd (ps_drp (pd_call h_check_each (hr.mono (by decide)) rfl (pc_va pd_str (pc_ln (pv 2) pc_nil))))
    (pss_consd (ps_drp (pd_call h_check (hr.mono (by decide)) rfl (pc_va pd_str (pc_va (pd_lenS T.n_len rfl (pv 1)) pc_nil))))
    (pss_consd (ps_drp (pd_call h_check (hr.mono (by decide)) rfl (pc_va pd_str (pc_va (pd_lenS T.n_len rfl (pv 2)) pc_nil))))
    (pss_consd (ps_ifd (pt_cmpd od_lt (pd_rd (pv 0)) pd_int (nomark _)) (pss_oned ps_nvr) pss_nild)
    (pss_consd (ps_drp (pd_call h_check_servings (hr.mono (by decide)) rfl (pc_ln (pv 1) pc_nil)))
    (pss_consd (ps_drp (pd_call h_check_servings (hr.mono (by decide)) rfl (pc_ln (pv 2) pc_nil)))
    (pss_consd (ps_asnd (i := 3) sc_parting_purse.nd rfl (Or.inl rfl) (pd_call h_all_rises (hr.mono (by decide)) rfl (pc_ln (pv 0) (pc_ln (pv 1) pc_nil))))
    (pss_consd (ps_asnd (i := 4) sc_parting_purse.nd rfl (Or.inl rfl) (pd_call h_all_rises (hr.mono (by decide)) rfl (pc_ln (pv 0) (pc_ln (pv 2) pc_nil))))
    (pss_consd (ps_ifd (pt_cmpd (od_ne hr.units) (pd_bin od_add (pd_lenS T.n_len rfl (pv 1)) (pd_cntS (pv 3) (pa_consd pd_int pa_nild))) (pd_bin od_add (pd_lenS T.n_len rfl (pv 2)) (pd_cntS (pv 4) (pa_consd pd_int pa_nild))) (nomark _)) (pss_oned (ps_retd pd_int)) pss_nild)
    (pss_consd (ps_lcn (n := 3) rfl sc_parting_purse.nd rfl rfl (sw_true rfl rfl rfl (by decide +kernel)) (pv 3) (blkOk_by (own := [("rise", 9)]) (N := N_parting_purse) (sc := defScope s_parting_purse) (by decide +kernel)) rfl (fun _ _ _ _ _ => pg_name (i := 9) sc_parting_purse.nd rfl (Or.inl rfl)) (fun _ _ _ _ _ => (pts_oned (pt_cmpd od_gt (pd_rd (pv 9)) pd_int (nomark _)))) (fun _ _ _ _ _ => (pd_rd (pv 9))))
    (pss_consd (ps_lcn (n := 4) rfl sc_parting_purse.nd rfl rfl (sw_true rfl rfl rfl (by decide +kernel)) (pv 4) (blkOk_by (own := [("rise", 9)]) (N := N_parting_purse) (sc := defScope s_parting_purse) (by decide +kernel)) rfl (fun _ _ _ _ _ => pg_name (i := 9) sc_parting_purse.nd rfl (Or.inl rfl)) (fun _ _ _ _ _ => (pts_oned (pt_cmpd od_gt (pd_rd (pv 9)) pd_int (nomark _)))) (fun _ _ _ _ _ => (pd_rd (pv 9))))
    (pss_consd (ps_asnd (i := 5) sc_parting_purse.nd rfl (Or.inl rfl) pd_int)
    (pss_consd (ps_frd PassesOwn.never rfl (pi_rg1 rfl T.n_range (pd_bc (cd_max rfl) rfl T.n_max (by decide +kernel) (pa_consd (pd_lenS T.n_len rfl (pv 3)) (pa_consd (pd_lenS T.n_len rfl (pv 4)) pa_nild)))) (pg_n (pg_name (i := 6) sc_parting_purse.nd rfl (Or.inl rfl))) (pss_consd (ps_asnd (i := 7) sc_parting_purse.nd rfl (Or.inl rfl) (pd_if (pt_cmpd od_lt (pd_rd (pv 6)) (pd_lenS T.n_len rfl (pv 3)) (nomark _)) (pd_ixS (hu_of hr) (pv 3) (pd_rd (pv 6))) (pd_rd (pv 0))))
    (pss_consd (ps_asnd (i := 8) sc_parting_purse.nd rfl (Or.inl rfl) (pd_if (pt_cmpd od_lt (pd_rd (pv 6)) (pd_lenS T.n_len rfl (pv 4)) (nomark _)) (pd_ixS (hu_of hr) (pv 4) (pd_rd (pv 6))) (pd_rd (pv 0))))
    (pss_consd (ps_augd (i := 5) sc_parting_purse.nd rfl (Or.inl rfl) (pd_bc (cd_min rfl) rfl T.n_min (by decide +kernel) (pa_consd (pd_rd (pv 7)) (pa_consd (pd_rd (pv 8)) pa_nild))) od_iadd)
    (pss_oned (ps_ifd (pt_cmpd (od_ne hr.units) (pd_rd (pv 7)) (pd_rd (pv 8)) (nomark _)) (pss_oned (ps_retd (pd_mv (pv 5)))) pss_nild))))))
    (pss_oned (ps_retd pd_non)))))))))))))))))
/-! round_rises -/
abbrev s_round_rises : Stmt := (top 17)
abbrev N_round_rises : List Str := ["pots", "dishes"]
theorem sc_round_rises : FnScope N_round_rises ["pots", "dishes"] (defScope s_round_rises) := ⟨rfl, rfl, rfl, by decide +kernel, rfl, by decide +kernel, by decide +kernel⟩
def t_round_rises : TSd :=
  (sq (drp (cl m_check (cva (cst (.str "pots")) (cln 0 cnil))))
  (sq (drp (cl m_check (cva (cst (.str "dishes")) (cln 1 cnil))))
  (sq (iff (tst (bi rLt (rd 0) (cst (.int 1)))) nvr skp)
  (sq (iff (tst (bi rLt (rd 1) (cst (.int 1)))) nvr skp)
  (ret (cl m_rises_of (cln 0 (cln 1 cnil))))))))
def m_round_rises : TM := mkM 2 2 t_round_rises
theorem ok_round_rises {f : Addr} {fd : FuncData} (D : Df K mg "round_rises" s_round_rises ["pots", "dishes"] f fd) (T : Gs K w mg) (h_check : DefOk P w K mg base "check" 1 2 m_check) (h_rises_of : DefOk P w K mg base "rises_of" 2 2 m_rises_of) : DefOk P w K mg base "round_rises" 3 2 m_round_rises := by
  refine D.ok sc_round_rises rfl rfl fun cdv A outer s H E hr => ?_
  exact (pss_consd (ps_drp (pd_call h_check (hr.mono (by decide)) rfl (pc_va pd_str (pc_ln (pv 0) pc_nil))))
    (pss_consd (ps_drp (pd_call h_check (hr.mono (by decide)) rfl (pc_va pd_str (pc_ln (pv 1) pc_nil))))
    (pss_consd (ps_ifd (pt_cmpd od_lt (pd_rd (pv 0)) pd_int (nomark _)) (pss_oned ps_nvr) pss_nild)
    (pss_consd (ps_ifd (pt_cmpd od_lt (pd_rd (pv 1)) pd_int (nomark _)) (pss_oned ps_nvr) pss_nild)
    (pss_oned (ps_retd (pd_call h_rises_of (hr.mono (by decide)) rfl (pc_ln (pv 0) (pc_ln (pv 1) pc_nil)))))))))
/-! _law_even -/
abbrev s_l_even : Stmt := (top 19)
abbrev N_l_even : List Str := ["pots", "dishes", "base", "extra"]
theorem sc_l_even : FnScope N_l_even ["pots", "dishes"] (defScope s_l_even) := ⟨rfl, rfl, rfl, by decide +kernel, rfl, by decide +kernel, by decide +kernel⟩
def t_l_even : TSd :=
  (sq (iff (tst (bi rEq (rd 1) (cst (.int 0)))) (ret (lstE anil)) skp)
  (sq (asn 2 (bi rDiv (rd 0) (rd 1)))
  (sq (asn 3 (bi rSub (rd 0) (bi rMul (rd 2) (rd 1))))
  (ret (bi rAdd (bi rMul (lstE (acons (rd 2) anil)) (bi rSub (rd 1) (rd 3))) (bi rMul (lstE (acons (bi rAdd (rd 2) (cst (.int 1))) anil)) (rd 3)))))))
def m_l_even : TM := mkM 2 4 t_l_even
theorem ok_l_even {f : Addr} {fd : FuncData} (D : Df K mg "_law_even" s_l_even ["pots", "dishes"] f fd) (T : Gs K w mg)  : DefOk P w K mg base "_law_even" 1 2 m_l_even := by
  refine D.ok sc_l_even rfl rfl fun cdv A outer s H E hr => ?_
  exact (pss_consd (ps_ifd (pt_cmpd (od_eq hr.units) (pd_rd (pv 1)) pd_int (nomark _)) (pss_oned (ps_retd (pd_lst pa_nild))) pss_nild)
    (pss_consd (ps_asnd (i := 2) sc_l_even.nd rfl (Or.inl rfl) (pd_bin od_div (pd_rd (pv 0)) (pd_rd (pv 1))))
    (pss_consd (ps_asnd (i := 3) sc_l_even.nd rfl (Or.inl rfl) (pd_bin od_sub (pd_rd (pv 0)) (pd_bin od_mul (pd_rd (pv 2)) (pd_rd (pv 1)))))
    (pss_oned (ps_retd (pd_bin od_add (pd_bin od_mul (pd_lst (pa_consd (pd_rd (pv 2)) pa_nild)) (pd_bin od_sub (pd_rd (pv 1)) (pd_rd (pv 3)))) (pd_bin od_mul (pd_lst (pa_consd (pd_bin od_add (pd_rd (pv 2)) pd_int) pa_nild)) (pd_rd (pv 3)))))))))
/-! _law_least_sum -/
abbrev s_l_least_sum : Stmt := (top 20)
abbrev N_l_least_sum : List Str := ["rows", "dishes", "lack", "sums", "pots", "later", "many", "total", "parts", "held"]
theorem sc_l_least_sum : FnScope N_l_least_sum ["rows", "dishes", "lack"] (defScope s_l_least_sum) := ⟨rfl, rfl, rfl, by decide +kernel, rfl, by decide +kernel, by decide +kernel⟩
def t_l_least_sum : TSd :=
  (sq (asn 3 (bi rAdd (bi rMul (lstE (acons (cst .non) anil)) (rd 1)) (lstE (acons (cst (.int 0)) anil))))
  (sq (frn 0 (gn 4) (sq (asn 5 (bi rMul (lstE (acons (cst .non) anil)) (bi rAdd (rd 1) (cst (.int 1)))))
  (sq (fr (irg2 (bi rAdd (rd 2) (cst (.int 1))) (bi rAdd (rd 1) (cst (.int 1)))) (gn 6) (iff (tst (bi rIsN (ixS 3 (rd 6)) (cst .non))) (sq (asn 7 (ixS 3 (rd 6)))
  (sq (asn 8 (cl m_l_even (cln 4 (cln 6 cnil))))
  (fr (irg2 (cst (.int 1)) (bi rAdd (rd 6) (cst (.int 1)))) (gn 9) (sq (aug rIAdd 7 (ixS 8 (bi rSub (rd 9) (cst (.int 1)))))
  (iff (tand (tst (bi rGt (rd 9) (rd 2))) (tor (tst (bi rIs (ixS 5 (rd 9)) (cst .non))) (tst (bi rLt (rd 7) (ixS 5 (rd 9)))))) (setS (rd 7) 5 (rd 9)) skp))))) skp))
  (asn 3 (rd 5)))))
  (ret (bc rMin (acons (lcn 3 7 (tst (bi rIsN (rd 7) (cst .non))) (rd 7)) anil)))))
def m_l_least_sum : TM := mkM 3 10 t_l_least_sum
theorem ok_l_least_sum {f : Addr} {fd : FuncData} (D : Df K mg "_law_least_sum" s_l_least_sum ["rows", "dishes", "lack"] f fd) (T : Gs K w mg) (h_l_even : DefOk P w K mg base "_law_even" 1 2 m_l_even) : DefOk P w K mg base "_law_least_sum" 2 3 m_l_least_sum := by
  refine D.ok sc_l_least_sum rfl rfl fun cdv A outer s H E hr => ?_
  exact (pss_consd (ps_asnd (i := 3) sc_l_least_sum.nd rfl (Or.inl rfl) (pd_bin od_add (pd_bin od_mul (pd_lst (pa_consd pd_non pa_nild)) (pd_rd (pv 1))) (pd_lst (pa_consd pd_int pa_nild))))
    (pss_consd (ps_frn PassesOwn.never rfl (pv 0) (pg_n (pg_name (i := 4) sc_l_least_sum.nd rfl (Or.inl rfl))) (pss_consd (ps_asnd (i := 5) sc_l_least_sum.nd rfl (Or.inl rfl) (pd_bin od_mul (pd_lst (pa_consd pd_non pa_nild)) (pd_bin od_add (pd_rd (pv 1)) pd_int)))
    (pss_consd (ps_frd PassesOwn.never rfl (pi_rg2 rfl T.n_range (pd_bin od_add (pd_rd (pv 2)) pd_int) (pd_bin od_add (pd_rd (pv 1)) pd_int)) (pg_n (pg_name (i := 6) sc_l_least_sum.nd rfl (Or.inl rfl))) (pss_oned (ps_ifd (pt_cmpd od_isN (pd_ixS (hu_of hr) (pv 3) (pd_rd (pv 6))) pd_non (nomark _)) (pss_consd (ps_asnd (i := 7) sc_l_least_sum.nd rfl (Or.inl rfl) (pd_ixS (hu_of hr) (pv 3) (pd_rd (pv 6))))
    (pss_consd (ps_asnd (i := 8) sc_l_least_sum.nd rfl (Or.inl rfl) (pd_call h_l_even (hr.mono (by decide)) rfl (pc_ln (pv 4) (pc_ln (pv 6) pc_nil))))
    (pss_oned (ps_frd PassesOwn.never rfl (pi_rg2 rfl T.n_range pd_int (pd_bin od_add (pd_rd (pv 6)) pd_int)) (pg_n (pg_name (i := 9) sc_l_least_sum.nd rfl (Or.inl rfl))) (pss_consd (ps_augd (i := 7) sc_l_least_sum.nd rfl (Or.inl rfl) (pd_ixS (hu_of hr) (pv 8) (pd_bin od_sub (pd_rd (pv 9)) pd_int)) od_iadd)
    (pss_oned (ps_ifd (PWd.pt (pw_and (pt_cmpd od_gt (pd_rd (pv 9)) (pd_rd (pv 2)) (nomark _)) (pw_and1 (PWd.pt (pw_or (pt_cmpd od_is (pd_ixS (hu_of hr) (pv 5) (pd_rd (pv 9))) pd_non (nomark _)) (pw_or1 (pt_cmpd od_lt (pd_rd (pv 7)) (pd_ixS (hu_of hr) (pv 5) (pd_rd (pv 9))) (nomark _)))))))) (pss_oned (ps_setSd (hu_of hr) (pv 5) (pd_rd (pv 9)) (pd_rd (pv 7)))) pss_nild))))))) pss_nild)))
    (pss_oned (ps_asnd (i := 3) sc_l_least_sum.nd rfl (Or.inl rfl) (pd_rd (pv 5)))))))
    (pss_oned (ps_retd (pd_bc (cd_min rfl) rfl T.n_min (by decide +kernel) (pa_consd (pd_lcn rfl sc_l_least_sum.nd (pv 3) (blkOk_by (own := [("total", 7)]) (N := N_l_least_sum) (sc := defScope s_l_least_sum) (by decide +kernel)) rfl (fun _ _ _ _ _ => pg_name (i := 7) sc_l_least_sum.nd rfl (Or.inl rfl)) (fun _ _ _ _ _ => (pts_oned (pt_cmpd od_isN (pd_rd (pv 7)) pd_non (nomark _)))) (fun _ _ _ _ _ => (pd_rd (pv 7)))) pa_nild))))))
/-! _law_rises -/
abbrev s_l_rises : Stmt := (top 21)
abbrev N_l_rises : List Str := ["pots", "dishes", "rises", "before", "total"]
theorem sc_l_rises : FnScope N_l_rises ["pots", "dishes"] (defScope s_l_rises) := ⟨rfl, rfl, rfl, by decide +kernel, rfl, by decide +kernel, by decide +kernel⟩
def t_l_rises : TSd :=
  (sq (asn 2 (lstE anil))
  (sq (asn 3 (cst (.int 0)))
  (sq (whl (tand (tst (bi rLe (lenS 2) (rd 1))) (tor (tst (bi rEq (lenS 2) (cst (.int 0)))) (tst (bi rNe (ixS 2 (neg (cst (.int 1)))) (rd 0))))) (sq (asn 4 (cl m_l_least_sum (cva (bi rMul (lstE (acons (rd 0) anil)) (bi rAdd (lenS 2) (cst (.int 1)))) (cln 1 (cva (cst (.int 0)) cnil)))))
  (sq (drp (mt rApp 2 (acons (bi rSub (rd 4) (rd 3)) anil)))
  (asn 3 (rd 4)))))
  (ret (mv 2)))))
def m_l_rises : TM := mkM 2 5 t_l_rises
theorem ok_l_rises {f : Addr} {fd : FuncData} (D : Df K mg "_law_rises" s_l_rises ["pots", "dishes"] f fd) (T : Gs K w mg) (h_l_least_sum : DefOk P w K mg base "_law_least_sum" 2 3 m_l_least_sum) : DefOk P w K mg base "_law_rises" 3 2 m_l_rises := by
  refine D.ok sc_l_rises rfl rfl fun cdv A outer s H E hr => ?_
  exact (pss_consd (ps_asnd (i := 2) sc_l_rises.nd rfl (Or.inl rfl) (pd_lst pa_nild))
    (pss_consd (ps_asnd (i := 3) sc_l_rises.nd rfl (Or.inl rfl) pd_int)
    (pss_consd (ps_whl PassesOwn.never (PWd.pt (pw_and (pt_cmpd od_le (pd_lenS T.n_len rfl (pv 2)) (pd_rd (pv 1)) (nomark _)) (pw_and1 (PWd.pt (pw_or (pt_cmpd (od_eq hr.units) (pd_lenS T.n_len rfl (pv 2)) pd_int (nomark _)) (pw_or1 (pt_cmpd (od_ne hr.units) (pd_ixS (hu_of hr) (pv 2) (pd_neg pd_int)) (pd_rd (pv 0)) (nomark _)))))))) (pss_consd (ps_asnd (i := 4) sc_l_rises.nd rfl (Or.inl rfl) (pd_call h_l_least_sum (hr.mono (by decide)) rfl (pc_va (pd_bin od_mul (pd_lst (pa_consd (pd_rd (pv 0)) pa_nild)) (pd_bin od_add (pd_lenS T.n_len rfl (pv 2)) pd_int)) (pc_ln (pv 1) (pc_va pd_int pc_nil)))))
    (pss_consd (ps_drp (pd_mt PySem.F.plainAttrs_list PySem.F.slot_list_append PySem.F.type_list_append md_append (pv 2) (pa_consd (pd_bin od_sub (pd_rd (pv 4)) (pd_rd (pv 3))) pa_nild)))
    (pss_oned (ps_asnd (i := 3) sc_l_rises.nd rfl (Or.inl rfl) (pd_rd (pv 4)))))))
    (pss_oned (ps_retd (pd_mv (pv 2)))))))
/-! _law_longest -/
abbrev s_l_longest : Stmt := (top 22)
abbrev N_l_longest : List Str := ["pots", "servings", "most", "after", "turn", "dishes", "table", "many", "parts", "row", "purse", "best", "spoilt", "held"]
theorem sc_l_longest : FnScope N_l_longest ["pots", "servings", "most"] (defScope s_l_longest) := ⟨rfl, rfl, rfl, by decide +kernel, rfl, by decide +kernel, by decide +kernel⟩
def t_l_longest : TSd :=
  (sq (asn 3 (bi rMul (lstE (acons (cst (.int 0)) anil)) (bi rAdd (rd 2) (cst (.int 1)))))
  (sq (fr (irg1 (lenS 1)) (gn 4) (sq (asn 5 (ixS 1 (bi rSub (bi rSub (lenS 1) (cst (.int 1))) (rd 4))))
  (sq (asn 6 (lstE (acons (rd 3) anil)))
  (sq (fr (irg2 (cst (.int 1)) (bi rAdd (rd 5) (cst (.int 1)))) (gn 7) (sq (asn 8 (cl m_l_even (cln 0 (cln 7 cnil))))
  (sq (asn 9 (lstE anil))
  (sq (fr (irg1 (bi rAdd (rd 2) (cst (.int 1)))) (gn 10) (sq (asn 11 (cst (.int 0)))
  (sq (asn 12 (cst (.int 0)))
  (sq (fr (irg1 (bi rAdd (rd 7) (cst (.int 1)))) (gn 13) (sq (aug rIAdd 12 (cnd (tst (bi rGt (rd 13) (cst (.int 0)))) (ixS 8 (bi rSub (rd 13) (cst (.int 1)))) (cst (.int 0))))
  (iff (tst (bi rLe (rd 12) (rd 10))) (asn 11 (bc rMax (acons (rd 11) (acons (cnd (tst (bi rEq (rd 13) (rd 7))) (ixS 9 (bi rSub (rd 10) (rd 12))) (ix (ixS 6 (rd 13)) (bi rSub (rd 10) (rd 12)))) anil)))) skp)))
  (drp (mt rApp 9 (acons (bi rAdd (rd 11) (cst (.int 1))) anil)))))))
  (drp (mt rApp 6 (acons (rd 9) anil)))))))
  (asn 3 (ixS 6 (rd 5)))))))
  (ret (mv 3))))
def m_l_longest : TM := mkM 3 14 t_l_longest
theorem ok_l_longest {f : Addr} {fd : FuncData} (D : Df K mg "_law_longest" s_l_longest ["pots", "servings", "most"] f fd) (T : Gs K w mg) (h_l_even : DefOk P w K mg base "_law_even" 1 2 m_l_even) : DefOk P w K mg base "_law_longest" 2 3 m_l_longest := by
  refine D.ok sc_l_longest rfl rfl fun cdv A outer s H E hr => ?_
  exact (pss_consd (ps_asnd (i := 3) sc_l_longest.nd rfl (Or.inl rfl) (pd_bin od_mul (pd_lst (pa_consd pd_int pa_nild)) (pd_bin od_add (pd_rd (pv 2)) pd_int)))
    (pss_consd (ps_frd PassesOwn.never rfl (pi_rg1 rfl T.n_range (pd_lenS T.n_len rfl (pv 1))) (pg_n (pg_name (i := 4) sc_l_longest.nd rfl (Or.inl rfl))) (pss_consd (ps_asnd (i := 5) sc_l_longest.nd rfl (Or.inl rfl) (pd_ixS (hu_of hr) (pv 1) (pd_bin od_sub (pd_bin od_sub (pd_lenS T.n_len rfl (pv 1)) pd_int) (pd_rd (pv 4)))))
    (pss_consd (ps_asnd (i := 6) sc_l_longest.nd rfl (Or.inl rfl) (pd_lst (pa_consd (pd_rd (pv 3)) pa_nild)))
    (pss_consd (ps_frd PassesOwn.never rfl (pi_rg2 rfl T.n_range pd_int (pd_bin od_add (pd_rd (pv 5)) pd_int)) (pg_n (pg_name (i := 7) sc_l_longest.nd rfl (Or.inl rfl))) (pss_consd (ps_asnd (i := 8) sc_l_longest.nd rfl (Or.inl rfl) (pd_call h_l_even (hr.mono (by decide)) rfl (pc_ln (pv 0) (pc_ln (pv 7) pc_nil))))
    (pss_consd (ps_asnd (i := 9) sc_l_longest.nd rfl (Or.inl rfl) (pd_lst pa_nild))
    (pss_consd (ps_frd PassesOwn.never rfl (pi_rg1 rfl T.n_range (pd_bin od_add (pd_rd (pv 2)) pd_int)) (pg_n (pg_name (i := 10) sc_l_longest.nd rfl (Or.inl rfl))) (pss_consd (ps_asnd (i := 11) sc_l_longest.nd rfl (Or.inl rfl) pd_int)
    (pss_consd (ps_asnd (i := 12) sc_l_longest.nd rfl (Or.inl rfl) pd_int)
    (pss_consd (ps_frd PassesOwn.never rfl (pi_rg1 rfl T.n_range (pd_bin od_add (pd_rd (pv 7)) pd_int)) (pg_n (pg_name (i := 13) sc_l_longest.nd rfl (Or.inl rfl))) (pss_consd (ps_augd (i := 12) sc_l_longest.nd rfl (Or.inl rfl) (pd_if (pt_cmpd od_gt (pd_rd (pv 13)) pd_int (nomark _)) (pd_ixS (hu_of hr) (pv 8) (pd_bin od_sub (pd_rd (pv 13)) pd_int)) pd_int) od_iadd)
    (pss_oned (ps_ifd (pt_cmpd od_le (pd_rd (pv 12)) (pd_rd (pv 10)) (nomark _)) (pss_oned (ps_asnd (i := 11) sc_l_longest.nd rfl (Or.inl rfl) (pd_bc (cd_max rfl) rfl T.n_max (by decide +kernel) (pa_consd (pd_rd (pv 11)) (pa_consd (pd_if (pt_cmpd (od_eq hr.units) (pd_rd (pv 13)) (pd_rd (pv 7)) (nomark _)) (pd_ixS (hu_of hr) (pv 9) (pd_bin od_sub (pd_rd (pv 10)) (pd_rd (pv 12)))) (pd_ix (hu_of hr) (pd_ixS (hu_of hr) (pv 6) (pd_rd (pv 13))) (pd_bin od_sub (pd_rd (pv 10)) (pd_rd (pv 12))))) pa_nild))))) pss_nild))))
    (pss_oned (ps_drp (pd_mt PySem.F.plainAttrs_list PySem.F.slot_list_append PySem.F.type_list_append md_append (pv 9) (pa_consd (pd_bin od_add (pd_rd (pv 11)) pd_int) pa_nild))))))))
    (pss_oned (ps_drp (pd_mt PySem.F.plainAttrs_list PySem.F.slot_list_append PySem.F.type_list_append md_append (pv 6) (pa_consd (pd_rd (pv 9)) pa_nild))))))))
    (pss_oned (ps_asnd (i := 3) sc_l_longest.nd rfl (Or.inl rfl) (pd_ixS (hu_of hr) (pv 6) (pd_rd (pv 5)))))))))
    (pss_oned (ps_retd (pd_mv (pv 3))))))
/-! _law_stock -/
abbrev s_l_stock : Stmt := (top 23)
abbrev N_l_stock : List Str := ["script", "at", "cell", "size", "one"]
theorem sc_l_stock : FnScope N_l_stock ["script", "at"] (defScope s_l_stock) := ⟨rfl, rfl, rfl, by decide +kernel, rfl, by decide +kernel, by decide +kernel⟩
def t_l_stock : TSd :=
  (sq (asn 2 (cnd (tst (bi rLt (rd 1) (lenS 0))) (bc rInt (acons (ixS 0 (rd 1)) anil)) (bi rMul (cst (.int 31)) (bc rSum (acons (lc (ilst (sl (rd 0) onil (osm (cst (.int 4))))) 4 tru (bi rMod (bc rInt (acons (rd 4) anil)) (cst (.int 1000003)))) anil)))))
  (sq (asn 3 (bi rAdd (bi rMul (cst (.int 2)) (bc rAbs (acons (rd 2) anil))) (cnd (tst (bi rLt (rd 2) (cst (.int 0)))) (cst (.int 1)) (cst (.int 0)))))
  (ret (lstE (acons (cnd (tst (bi rGe (rd 3) (bi rPow (cst (.int 10)) (cst (.int 18))))) (rd 3) (cst (.int 0))) (acons (bi rMod (bc rInt (acons (bi rAdd (bi rAdd (rd 3) (bi rMul (rd 1) (cst (.int 104729)))) (cst (.int 12345))) anil)) (cst (.int 2147483629))) (acons (rd 1) anil)))))))
def m_l_stock : TM := mkM 2 5 t_l_stock
theorem ok_l_stock {f : Addr} {fd : FuncData} (D : Df K mg "_law_stock" s_l_stock ["script", "at"] f fd) (T : Gs K w mg)  : DefOk P w K mg base "_law_stock" 1 2 m_l_stock := by
  refine D.ok sc_l_stock rfl rfl fun cdv A outer s H E hr => ?_
  exact (pss_consd (ps_asnd (i := 2) sc_l_stock.nd rfl (Or.inl rfl) (pd_if (pt_cmpd od_lt (pd_rd (pv 1)) (pd_lenS T.n_len rfl (pv 0)) (nomark _)) (pd_bt cd_int rfl T.n_int (by decide +kernel) (pa_consd (pd_ixS (hu_of hr) (pv 0) (pd_rd (pv 1))) pa_nild)) (pd_bin od_mul pd_int (pd_bc (cd_sum rfl) rfl T.n_sum (by decide +kernel) (pa_consd (pd_lc rfl sc_l_stock.nd (pi_lst (pd_sl (pd_rd (pv 0)) po_nild (po_smd pd_int))) (blkOk_by (own := [("one", 4)]) (N := N_l_stock) (sc := defScope s_l_stock) (by decide +kernel)) rfl (fun _ _ _ _ _ => pg_name (i := 4) sc_l_stock.nd rfl (Or.inl rfl)) (fun _ _ _ _ _ => pts_nild) (fun _ _ _ _ _ => (pd_bin od_mod (pd_bt cd_int rfl T.n_int (by decide +kernel) (pa_consd (pd_rd (pv 4)) pa_nild)) pd_int))) pa_nild)))))
    (pss_consd (ps_asnd (i := 3) sc_l_stock.nd rfl (Or.inl rfl) (pd_bin od_add (pd_bin od_mul pd_int (pd_bc cd_abs rfl T.n_abs (by decide +kernel) (pa_consd (pd_rd (pv 2)) pa_nild))) (pd_if (pt_cmpd od_lt (pd_rd (pv 2)) pd_int (nomark _)) pd_int pd_int)))
    (pss_oned (ps_retd (pd_lst (pa_consd (pd_if (pt_cmpd od_ge (pd_rd (pv 3)) (pd_bin od_pow pd_int pd_int) (nomark _)) (pd_rd (pv 3)) pd_int) (pa_consd (pd_bin od_mod (pd_bt cd_int rfl T.n_int (by decide +kernel) (pa_consd (pd_bin od_add (pd_bin od_add (pd_rd (pv 3)) (pd_bin od_mul (pd_rd (pv 1)) pd_int)) pd_int) pa_nild)) pd_int) (pa_consd (pd_rd (pv 1)) pa_nild))))))))
/-! _law_draw -/
abbrev s_l_draw : Stmt := (top 24)
abbrev N_l_draw : List Str := ["stock", "many", "found"]
theorem sc_l_draw : FnScope N_l_draw ["stock", "many"] (defScope s_l_draw) := ⟨rfl, rfl, rfl, by decide +kernel, rfl, by decide +kernel, by decide +kernel⟩
def t_l_draw : TSd :=
  (sq (iff (tst (bi rGt (ixS 0 (cst (.int 0))) (cst (.int 0)))) (sq (asn 2 (bi rMod (bc rInt (acons (ixS 0 (cst (.int 0))) anil)) (rd 1)))
  (sq (setS (bi rDiv (ixS 0 (cst (.int 0))) (rd 1)) 0 (cst (.int 0)))
  (ret (mv 2)))) skp)
  (sq (augS rIAdd 0 (cst (.int 2)) (cst (.int 1)))
  (sq (setS (bi rMod (bc rInt (acons (bi rAdd (bi rMul (ixS 0 (cst (.int 1))) (cst (.int 48271))) (bi rMul (ixS 0 (cst (.int 2))) (cst (.int 69621)))) anil)) (cst (.int 2147483647))) 0 (cst (.int 1)))
  (ret (bi rMod (bi rDiv (bi rMod (bc rInt (acons (bi rAdd (bi rMul (ixS 0 (cst (.int 1))) (cst (.int 16807))) (bi rMul (ixS 0 (cst (.int 2))) (cst (.int 7919)))) anil)) (cst (.int 2147483629))) (cst (.int 8))) (rd 1))))))
def m_l_draw : TM := mkM 2 3 t_l_draw
theorem ok_l_draw {f : Addr} {fd : FuncData} (D : Df K mg "_law_draw" s_l_draw ["stock", "many"] f fd) (T : Gs K w mg)  : DefOk P w K mg base "_law_draw" 1 2 m_l_draw := by
  refine D.ok sc_l_draw rfl rfl fun cdv A outer s H E hr => ?_
  exact (pss_consd (ps_ifd (pt_cmpd od_gt (pd_ixS (hu_of hr) (pv 0) pd_int) pd_int (nomark _)) (pss_consd (ps_asnd (i := 2) sc_l_draw.nd rfl (Or.inl rfl) (pd_bin od_mod (pd_bt cd_int rfl T.n_int (by decide +kernel) (pa_consd (pd_ixS (hu_of hr) (pv 0) pd_int) pa_nild)) (pd_rd (pv 1))))
    (pss_consd (ps_setSd (hu_of hr) (pv 0) pd_int (pd_bin od_div (pd_ixS (hu_of hr) (pv 0) pd_int) (pd_rd (pv 1))))
    (pss_oned (ps_retd (pd_mv (pv 2)))))) pss_nild)
    (pss_consd (ps_augSd (hu_of hr) (pv 0) pd_int pd_int od_iadd)
    (pss_consd (ps_setSd (hu_of hr) (pv 0) pd_int (pd_bin od_mod (pd_bt cd_int rfl T.n_int (by decide +kernel) (pa_consd (pd_bin od_add (pd_bin od_mul (pd_ixS (hu_of hr) (pv 0) pd_int) pd_int) (pd_bin od_mul (pd_ixS (hu_of hr) (pv 0) pd_int) pd_int)) pa_nild)) pd_int))
    (pss_oned (ps_retd (pd_bin od_mod (pd_bin od_div (pd_bin od_mod (pd_bt cd_int rfl T.n_int (by decide +kernel) (pa_consd (pd_bin od_add (pd_bin od_mul (pd_ixS (hu_of hr) (pv 0) pd_int) pd_int) (pd_bin od_mul (pd_ixS (hu_of hr) (pv 0) pd_int) pd_int)) pa_nild)) pd_int) pd_int) (pd_rd (pv 1))))))))
/-! _law_mix -/
abbrev s_l_mix : Stmt := (top 25)
abbrev N_l_mix : List Str := ["stock", "things", "left", "mixed", "turn"]
theorem sc_l_mix : FnScope N_l_mix ["stock", "things"] (defScope s_l_mix) := ⟨rfl, rfl, rfl, by decide +kernel, rfl, by decide +kernel, by decide +kernel⟩
def t_l_mix : TSd :=
  (sq (asn 2 (bc rList (acons (rd 1) anil)))
  (sq (asn 3 (lstE anil))
  (sq (fr (irg1 (lenS 1)) (gn 4) (drp (mt rApp 3 (acons (mt rPop 2 (acons (cl m_l_draw (cln 0 (cva (lenS 2) cnil))) anil)) anil))))
  (ret (mv 3)))))
def m_l_mix : TM := mkM 2 5 t_l_mix
theorem ok_l_mix {f : Addr} {fd : FuncData} (D : Df K mg "_law_mix" s_l_mix ["stock", "things"] f fd) (T : Gs K w mg) (h_l_draw : DefOk P w K mg base "_law_draw" 1 2 m_l_draw) : DefOk P w K mg base "_law_mix" 2 2 m_l_mix := by
  refine D.ok sc_l_mix rfl rfl fun cdv A outer s H E hr => ?_
  exact (pss_consd (ps_asnd (i := 2) sc_l_mix.nd rfl (Or.inl rfl) (pd_bt (cd_list rfl) rfl T.n_list (by decide +kernel) (pa_consd (pd_rd (pv 1)) pa_nild)))
    (pss_consd (ps_asnd (i := 3) sc_l_mix.nd rfl (Or.inl rfl) (pd_lst pa_nild))
    (pss_consd (ps_frd PassesOwn.never rfl (pi_rg1 rfl T.n_range (pd_lenS T.n_len rfl (pv 1))) (pg_n (pg_name (i := 4) sc_l_mix.nd rfl (Or.inl rfl))) (pss_oned (ps_drp (pd_mt PySem.F.plainAttrs_list PySem.F.slot_list_append PySem.F.type_list_append md_append (pv 3) (pa_consd (pd_mt PySem.F.plainAttrs_list PySem.F.slot_list_pop PySem.F.type_list_pop md_pop (pv 2) (pa_consd (pd_call h_l_draw (hr.mono (by decide)) rfl (pc_ln (pv 0) (pc_va (pd_lenS T.n_len rfl (pv 2)) pc_nil))) pa_nild)) pa_nild)))))
    (pss_oned (ps_retd (pd_mv (pv 3)))))))
/-! _law_matches -/
abbrev s_l_matches : Stmt := (top 26)
abbrev N_l_matches : List Str := ["answer", "due", "key", "at"]
theorem sc_l_matches : FnScope N_l_matches ["answer", "due"] (defScope s_l_matches) := ⟨rfl, rfl, rfl, by decide +kernel, rfl, by decide +kernel, by decide +kernel⟩
def t_l_matches (rec_ : TM) : TSd :=
  (sq (iff (tor (tst (bi rIs (rd 1) (cst .non))) (tst (bi rIs (rd 0) (cst .non)))) (ret (vand (bi rIs (rd 1) (cst .non)) (bi rIs (rd 0) (cst .non)))) skp)
  (sq (iff (tor (tst (isi "bool" (rd 1))) (tst (isi "bool" (rd 0)))) (ret (vand (isi "bool" (rd 1)) (vand (isi "bool" (rd 0)) (bi rEq (rd 0) (rd 1))))) skp)
  (sq (iff (tst (isi "int" (rd 1))) (ret (vand (isi "int" (rd 0)) (bi rEq (rd 0) (rd 1)))) skp)
  (sq (iff (tst (isi "str" (rd 1))) (ret (vand (isi "str" (rd 0)) (bi rEq (rd 0) (rd 1)))) skp)
  (sq (iff (tst (isi "dict" (rd 1))) (sq (iff (tor (tnot (tst (isi "dict" (rd 0)))) (tst (bi rNe (lenS 0) (lenS 1)))) (ret (cst (.bl false))) skp)
  (sq (fr (ilst (bc rList (acons (rd 1) anil))) (gn 2) (iff (tor (tst (inS true (rd 2) 0)) (tnot (tst (cl rec_ (cva (ixS 0 (rd 2)) (cva (ixS 1 (rd 2)) cnil)))))) (ret (cst (.bl false))) skp))
  (ret (cst (.bl true))))) skp)
  (sq (iff (tand (tst (isi "tuple" (rd 1))) (tnot (tst (isi "tuple" (rd 0))))) (ret (cst (.bl false))) skp)
  (sq (iff (tand (tst (isi "list" (rd 1))) (tnot (tst (isi "list" (rd 0))))) (ret (cst (.bl false))) skp)
  (sq (iff (tst (bi rNe (lenS 0) (lenS 1))) (ret (cst (.bl false))) skp)
  (sq (fr (irg1 (lenS 1)) (gn 3) (iff (tnot (tst (cl rec_ (cva (ixS 0 (rd 3)) (cva (ixS 1 (rd 3)) cnil))))) (ret (cst (.bl false))) skp))
  (ret (cst (.bl true))))))))))))
def m_l_matches_ : Nat → TM
  | 0 => fun _ _ => False
  | n + 1 => mkM 2 4 (t_l_matches (m_l_matches_ n))
abbrev m_l_matches : TM := m_l_matches_ 4
theorem ok_l_matches {f : Addr} {fd : FuncData} (D : Df K mg "_law_matches" s_l_matches ["answer", "due"] f fd) (T : Gs K w mg)  : ∀ n, DefOk P w K mg base "_law_matches" (n + 0) 2 (m_l_matches_ n)
  | 0 => D.none
  | n + 1 => by
    have h_rec := ok_l_matches D T  n
    refine D.ok sc_l_matches rfl rfl fun cdv A outer s H E hr => ?_
    exact (pss_consd (ps_ifd (PWd.pt (pw_or (pt_cmpd od_is (pd_rd (pv 1)) pd_non (nomark _)) (pw_or1 (pt_cmpd od_is (pd_rd (pv 0)) pd_non (nomark _))))) (pss_oned (ps_retd (pd_and (pd_cmp od_is (pd_rd (pv 1)) pd_non (nomark _)) (pd_one (pd_cmp od_is (pd_rd (pv 0)) pd_non (nomark _)))))) pss_nild)
    (pss_consd (ps_ifd (PWd.pt (pw_or (pt_tst (pd_isi kit_bool (pd_rd (pv 1)) rfl T.n_isinstance rfl T.n_bool (by decide +kernel))) (pw_or1 (pt_tst (pd_isi kit_bool (pd_rd (pv 0)) rfl T.n_isinstance rfl T.n_bool (by decide +kernel)))))) (pss_oned (ps_retd (pd_and (pd_isi kit_bool (pd_rd (pv 1)) rfl T.n_isinstance rfl T.n_bool (by decide +kernel)) (pd_and (pd_isi kit_bool (pd_rd (pv 0)) rfl T.n_isinstance rfl T.n_bool (by decide +kernel)) (pd_one (pd_cmp (od_eq hr.units) (pd_rd (pv 0)) (pd_rd (pv 1)) (nomark _))))))) pss_nild)
    (pss_consd (ps_ifd (pt_tst (pd_isi kit_int (pd_rd (pv 1)) rfl T.n_isinstance rfl T.n_int (by decide +kernel))) (pss_oned (ps_retd (pd_and (pd_isi kit_int (pd_rd (pv 0)) rfl T.n_isinstance rfl T.n_int (by decide +kernel)) (pd_one (pd_cmp (od_eq hr.units) (pd_rd (pv 0)) (pd_rd (pv 1)) (nomark _)))))) pss_nild)
    (pss_consd (ps_ifd (pt_tst (pd_isi kit_str (pd_rd (pv 1)) rfl T.n_isinstance rfl T.n_str (by decide +kernel))) (pss_oned (ps_retd (pd_and (pd_isi kit_str (pd_rd (pv 0)) rfl T.n_isinstance rfl T.n_str (by decide +kernel)) (pd_one (pd_cmp (od_eq hr.units) (pd_rd (pv 0)) (pd_rd (pv 1)) (nomark _)))))) pss_nild)
    (pss_consd (ps_ifd (pt_tst (pd_isi kit_dict (pd_rd (pv 1)) rfl T.n_isinstance rfl T.n_dict (by decide +kernel))) (pss_consd (ps_ifd (PWd.pt (pw_or (pt_not (pt_tst (pd_isi kit_dict (pd_rd (pv 0)) rfl T.n_isinstance rfl T.n_dict (by decide +kernel)))) (pw_or1 (pt_cmpd (od_ne hr.units) (pd_lenS T.n_len rfl (pv 0)) (pd_lenS T.n_len rfl (pv 1)) (nomark _))))) (pss_oned (ps_retd pd_bl)) pss_nild)
    (pss_consd (ps_frd PassesOwn.never rfl (pi_lst (pd_bt (cd_list rfl) rfl T.n_list (by decide +kernel) (pa_consd (pd_rd (pv 1)) pa_nild))) (pg_n (pg_name (i := 2) sc_l_matches.nd rfl (Or.inl rfl))) (pss_oned (ps_ifd (PWd.pt (pw_or (pt_notInS (hu_of hr) (pd_rd (pv 2)) (pv 0)) (pw_or1 (pt_not (pt_tst (pd_call h_rec hr rfl (pc_va (pd_ixS (hu_of hr) (pv 0) (pd_rd (pv 2))) (pc_va (pd_ixS (hu_of hr) (pv 1) (pd_rd (pv 2))) pc_nil)))))))) (pss_oned (ps_retd pd_bl)) pss_nild)))
    (pss_oned (ps_retd pd_bl)))) pss_nild)
    (pss_consd (ps_ifd (PWd.pt (pw_and (pt_tst (pd_isi kit_tuple (pd_rd (pv 1)) rfl T.n_isinstance rfl T.n_tuple (by decide +kernel))) (pw_and1 (pt_not (pt_tst (pd_isi kit_tuple (pd_rd (pv 0)) rfl T.n_isinstance rfl T.n_tuple (by decide +kernel))))))) (pss_oned (ps_retd pd_bl)) pss_nild)
    (pss_consd (ps_ifd (PWd.pt (pw_and (pt_tst (pd_isi kit_list (pd_rd (pv 1)) rfl T.n_isinstance rfl T.n_list (by decide +kernel))) (pw_and1 (pt_not (pt_tst (pd_isi kit_list (pd_rd (pv 0)) rfl T.n_isinstance rfl T.n_list (by decide +kernel))))))) (pss_oned (ps_retd pd_bl)) pss_nild)
    (pss_consd (ps_ifd (pt_cmpd (od_ne hr.units) (pd_lenS T.n_len rfl (pv 0)) (pd_lenS T.n_len rfl (pv 1)) (nomark _)) (pss_oned (ps_retd pd_bl)) pss_nild)
    (pss_consd (ps_frd PassesOwn.never rfl (pi_rg1 rfl T.n_range (pd_lenS T.n_len rfl (pv 1))) (pg_n (pg_name (i := 3) sc_l_matches.nd rfl (Or.inl rfl))) (pss_oned (ps_ifd (pt_not (pt_tst (pd_call h_rec hr rfl (pc_va (pd_ixS (hu_of hr) (pv 0) (pd_rd (pv 3))) (pc_va (pd_ixS (hu_of hr) (pv 1) (pd_rd (pv 3))) pc_nil))))) (pss_oned (ps_retd pd_bl)) pss_nild)))
    (pss_oned (ps_retd pd_bl)))))))))))
/-! _law_list -/
abbrev s_l_list : Stmt := (top 27)
abbrev N_l_list : List Str := ["pots", "servings", "tables", "rises", "dishes", "zeros", "one"]
theorem sc_l_list : FnScope N_l_list ["pots", "servings", "tables"] (defScope s_l_list) := ⟨rfl, rfl, rfl, by decide +kernel, rfl, by decide +kernel, by decide +kernel⟩
def t_l_list : TSd :=
  (sq (asn 3 (lstE anil))
  (sq (frn 1 (gn 4) (sq (iff (tst (inS true (rd 4) 2)) (setS (cl m_l_rises (cln 0 (cln 4 cnil))) 2 (rd 4)) skp)
  (asn 3 (bi rAdd (rd 3) (ixS 2 (rd 4))))))
  (sq (asn 5 (bc rLen (acons (lcn 3 6 (tand (tst (bi rEq (rd 6) (cst (.int 0)))) (tst (bi rGt (rd 0) (cst (.int 0))))) (rd 6)) anil)))
  (ret (tupE (acons (bi rAdd (lenS 1) (rd 5)) (acons (bc rTuple (acons (bc rSorted (acons (lcn 3 6 (tst (chn rLt rLt (cst (.int 0)) (rd 6) (rd 0))) (rd 6)) anil)) anil)) anil)))))))
def m_l_list : TM := mkM 3 7 t_l_list
theorem ok_l_list {f : Addr} {fd : FuncData} (D : Df K mg "_law_list" s_l_list ["pots", "servings", "tables"] f fd) (T : Gs K w mg) (h_l_rises : DefOk P w K mg base "_law_rises" 3 2 m_l_rises) : DefOk P w K mg base "_law_list" 4 3 m_l_list := by
  refine D.ok sc_l_list rfl rfl fun cdv A outer s H E hr => ?_
  exact (pss_consd (ps_asnd (i := 3) sc_l_list.nd rfl (Or.inl rfl) (pd_lst pa_nild))
    (pss_consd (ps_frn PassesOwn.never rfl (pv 1) (pg_n (pg_name (i := 4) sc_l_list.nd rfl (Or.inl rfl))) (pss_consd (ps_ifd (pt_notInS (hu_of hr) (pd_rd (pv 4)) (pv 2)) (pss_oned (ps_setSd (hu_of hr) (pv 2) (pd_rd (pv 4)) (pd_call h_l_rises (hr.mono (by decide)) rfl (pc_ln (pv 0) (pc_ln (pv 4) pc_nil))))) pss_nild)
    (pss_oned (ps_asnd (i := 3) sc_l_list.nd rfl (Or.inl rfl) (pd_bin od_add (pd_rd (pv 3)) (pd_ixS (hu_of hr) (pv 2) (pd_rd (pv 4))))))))
    (pss_consd (ps_asnd (i := 5) sc_l_list.nd rfl (Or.inl rfl) (pd_bc cd_len rfl T.n_len PySem.boot_len (pa_consd (pd_lcn rfl sc_l_list.nd (pv 3) (blkOk_by (own := [("one", 6)]) (N := N_l_list) (sc := defScope s_l_list) (by decide +kernel)) rfl (fun _ _ _ _ _ => pg_name (i := 6) sc_l_list.nd rfl (Or.inl rfl)) (fun _ _ _ _ _ => (pts_oned (PWd.pt (pw_and (pt_cmpd (od_eq hr.units) (pd_rd (pv 6)) pd_int (nomark _)) (pw_and1 (pt_cmpd od_gt (pd_rd (pv 0)) pd_int (nomark _))))))) (fun _ _ _ _ _ => (pd_rd (pv 6)))) pa_nild)))
    (pss_oned (ps_retd (pd_tup (pa_consd (pd_bin od_add (pd_lenS T.n_len rfl (pv 1)) (pd_rd (pv 5))) (pa_consd (pd_bt cd_tuple rfl T.n_tuple (by decide +kernel) (pa_consd (pd_bc (cd_sorted rfl) rfl T.n_sorted (by decide +kernel) (pa_consd (pd_lcn rfl sc_l_list.nd (pv 3) (blkOk_by (own := [("one", 6)]) (N := N_l_list) (sc := defScope s_l_list) (by decide +kernel)) rfl (fun _ _ _ _ _ => pg_name (i := 6) sc_l_list.nd rfl (Or.inl rfl)) (fun _ _ _ _ _ => (pts_oned (pt_chn od_lt od_lt pd_int (pd_rd (pv 6)) (pd_rd (pv 0))))) (fun _ _ _ _ _ => (pd_rd (pv 6)))) pa_nild)) pa_nild)) pa_nild))))))))
/-! _law_small_evenings -/
abbrev s_l_small_evenings : Stmt := (top 28)
abbrev N_l_small_evenings : List Str := ["top", "found", "rows", "turn", "longer", "row", "dishes"]
theorem sc_l_small_evenings : FnScope N_l_small_evenings ["top"] (defScope s_l_small_evenings) := ⟨rfl, rfl, rfl, by decide +kernel, rfl, by decide +kernel, by decide +kernel⟩
def t_l_small_evenings : TSd :=
  (sq (asn 1 (lstE anil))
  (sq (asn 2 (lstE (acons (lstE anil) anil)))
  (sq (fr (irg1 (cst (.int 3))) (gn 3) (sq (asn 4 (lstE anil))
  (sq (frn 2 (gn 5) (fr (irg2 (cnd (tst (bi rGt (lenS 5) (cst (.int 0)))) (ixS 5 (neg (cst (.int 1)))) (cst (.int 1))) (bi rAdd (rd 0) (cst (.int 1)))) (gn 6) (drp (mt rApp 4 (acons (bi rAdd (rd 5) (lstE (acons (rd 6) anil))) anil)))))
  (sq (asn 2 (rd 4))
  (asn 1 (bi rAdd (rd 1) (rd 2)))))))
  (ret (mv 1)))))
def m_l_small_evenings : TM := mkM 1 7 t_l_small_evenings
theorem ok_l_small_evenings {f : Addr} {fd : FuncData} (D : Df K mg "_law_small_evenings" s_l_small_evenings ["top"] f fd) (T : Gs K w mg)  : DefOk P w K mg base "_law_small_evenings" 1 1 m_l_small_evenings := by
  refine D.ok sc_l_small_evenings rfl rfl fun cdv A outer s H E hr => ?_
  exact (pss_consd (ps_asnd (i := 1) sc_l_small_evenings.nd rfl (Or.inl rfl) (pd_lst pa_nild))
    (pss_consd (ps_asnd (i := 2) sc_l_small_evenings.nd rfl (Or.inl rfl) (pd_lst (pa_consd (pd_lst pa_nild) pa_nild)))
    (pss_consd (ps_frd PassesOwn.never rfl (pi_rg1 rfl T.n_range pd_int) (pg_n (pg_name (i := 3) sc_l_small_evenings.nd rfl (Or.inl rfl))) (pss_consd (ps_asnd (i := 4) sc_l_small_evenings.nd rfl (Or.inl rfl) (pd_lst pa_nild))
    (pss_consd (ps_frn PassesOwn.never rfl (pv 2) (pg_n (pg_name (i := 5) sc_l_small_evenings.nd rfl (Or.inl rfl))) (pss_oned (ps_frd PassesOwn.never rfl (pi_rg2 rfl T.n_range (pd_if (pt_cmpd od_gt (pd_lenS T.n_len rfl (pv 5)) pd_int (nomark _)) (pd_ixS (hu_of hr) (pv 5) (pd_neg pd_int)) pd_int) (pd_bin od_add (pd_rd (pv 0)) pd_int)) (pg_n (pg_name (i := 6) sc_l_small_evenings.nd rfl (Or.inl rfl))) (pss_oned (ps_drp (pd_mt PySem.F.plainAttrs_list PySem.F.slot_list_append PySem.F.type_list_append md_append (pv 4) (pa_consd (pd_bin od_add (pd_rd (pv 5)) (pd_lst (pa_consd (pd_rd (pv 6)) pa_nild))) pa_nild)))))))
    (pss_consd (ps_asnd (i := 2) sc_l_small_evenings.nd rfl (Or.inl rfl) (pd_rd (pv 4)))
    (pss_oned (ps_asnd (i := 1) sc_l_small_evenings.nd rfl (Or.inl rfl) (pd_bin od_add (pd_rd (pv 1)) (pd_rd (pv 2)))))))))
    (pss_oned (ps_retd (pd_mv (pv 1)))))))
/-! _law_parted -/
abbrev s_l_parted : Stmt := (top 29)
abbrev N_l_parted : List Str := ["pots", "one", "other", "purse", "at", "first", "second"]
theorem sc_l_parted : FnScope N_l_parted ["pots", "one", "other"] (defScope s_l_parted) := ⟨rfl, rfl, rfl, by decide +kernel, rfl, by decide +kernel, by decide +kernel⟩
def t_l_parted : TSd :=
  (sq (iff (tst (bi rNe (ixS 1 (cst (.int 0))) (ixS 2 (cst (.int 0))))) (ret (cst (.int 0))) skp)
  (sq (asn 3 (cst (.int 0)))
  (sq (fr (irg1 (bc rMax (acons (bc rLen (acons (ixS 1 (cst (.int 1))) anil)) (acons (bc rLen (acons (ixS 2 (cst (.int 1))) anil)) anil)))) (gn 4) (sq (asn 5 (cnd (tst (bi rLt (rd 4) (bc rLen (acons (ixS 1 (cst (.int 1))) anil)))) (ix (ixS 1 (cst (.int 1))) (rd 4)) (rd 0)))
  (sq (asn 6 (cnd (tst (bi rLt (rd 4) (bc rLen (acons (ixS 2 (cst (.int 1))) anil)))) (ix (ixS 2 (cst (.int 1))) (rd 4)) (rd 0)))
  (sq (aug rIAdd 3 (bc rMin (acons (rd 5) (acons (rd 6) anil))))
  (iff (tst (bi rNe (rd 5) (rd 6))) (ret (mv 3)) skp)))))
  (ret (cst .non)))))
def m_l_parted : TM := mkM 3 7 t_l_parted
theorem ok_l_parted {f : Addr} {fd : FuncData} (D : Df K mg "_law_parted" s_l_parted ["pots", "one", "other"] f fd) (T : Gs K w mg)  : DefOk P w K mg base "_law_parted" 1 3 m_l_parted := by
  refine D.ok sc_l_parted rfl rfl fun cdv A outer s H E hr => ?_
  exact (pss_consd (ps_ifd (pt_cmpd (od_ne hr.units) (pd_ixS (hu_of hr) (pv 1) pd_int) (pd_ixS (hu_of hr) (pv 2) pd_int) (nomark _)) (pss_oned (ps_retd pd_int)) pss_nild)
    (pss_consd (ps_asnd (i := 3) sc_l_parted.nd rfl (Or.inl rfl) pd_int)
    (pss_consd (ps_frd PassesOwn.never rfl (pi_rg1 rfl T.n_range (pd_bc (cd_max rfl) rfl T.n_max (by decide +kernel) (pa_consd (pd_bc cd_len rfl T.n_len PySem.boot_len (pa_consd (pd_ixS (hu_of hr) (pv 1) pd_int) pa_nild)) (pa_consd (pd_bc cd_len rfl T.n_len PySem.boot_len (pa_consd (pd_ixS (hu_of hr) (pv 2) pd_int) pa_nild)) pa_nild)))) (pg_n (pg_name (i := 4) sc_l_parted.nd rfl (Or.inl rfl))) (pss_consd (ps_asnd (i := 5) sc_l_parted.nd rfl (Or.inl rfl) (pd_if (pt_cmpd od_lt (pd_rd (pv 4)) (pd_bc cd_len rfl T.n_len PySem.boot_len (pa_consd (pd_ixS (hu_of hr) (pv 1) pd_int) pa_nild)) (nomark _)) (pd_ix (hu_of hr) (pd_ixS (hu_of hr) (pv 1) pd_int) (pd_rd (pv 4))) (pd_rd (pv 0))))
    (pss_consd (ps_asnd (i := 6) sc_l_parted.nd rfl (Or.inl rfl) (pd_if (pt_cmpd od_lt (pd_rd (pv 4)) (pd_bc cd_len rfl T.n_len PySem.boot_len (pa_consd (pd_ixS (hu_of hr) (pv 2) pd_int) pa_nild)) (nomark _)) (pd_ix (hu_of hr) (pd_ixS (hu_of hr) (pv 2) pd_int) (pd_rd (pv 4))) (pd_rd (pv 0))))
    (pss_consd (ps_augd (i := 3) sc_l_parted.nd rfl (Or.inl rfl) (pd_bc (cd_min rfl) rfl T.n_min (by decide +kernel) (pa_consd (pd_rd (pv 5)) (pa_consd (pd_rd (pv 6)) pa_nild))) od_iadd)
    (pss_oned (ps_ifd (pt_cmpd (od_ne hr.units) (pd_rd (pv 5)) (pd_rd (pv 6)) (nomark _)) (pss_oned (ps_retd (pd_mv (pv 3)))) pss_nild))))))
    (pss_oned (ps_retd pd_non)))))
/-! _law_near -/
abbrev s_l_near : Stmt := (top 31)
abbrev N_l_near : List Str := ["kind", "due", "other"]
theorem sc_l_near : FnScope N_l_near ["kind", "due", "other"] (defScope s_l_near) := ⟨rfl, rfl, rfl, by decide +kernel, rfl, by decide +kernel, by decide +kernel⟩
def t_l_near : TSd :=
  (ret (cnd (tst (bi rEq (rd 0) (cst (.int 2)))) (bi rEq (rd 2) (rd 1)) (vand (bi rEq (ixS 2 (cst (.int 0))) (ixS 1 (cst (.int 0)))) (bi rNe (rd 2) (rd 1)))))
def m_l_near : TM := mkM 3 3 t_l_near
theorem ok_l_near {f : Addr} {fd : FuncData} (D : Df K mg "_law_near" s_l_near ["kind", "due", "other"] f fd) (T : Gs K w mg)  : DefOk P w K mg base "_law_near" 1 3 m_l_near := by
  refine D.ok sc_l_near rfl rfl fun cdv A outer s H E hr => ?_
  exact (pss_oned (ps_retd (pd_if (pt_cmpd (od_eq hr.units) (pd_rd (pv 0)) pd_int (nomark _)) (pd_cmp (od_eq hr.units) (pd_rd (pv 2)) (pd_rd (pv 1)) (nomark _)) (pd_and (pd_cmp (od_eq hr.units) (pd_ixS (hu_of hr) (pv 2) pd_int) (pd_ixS (hu_of hr) (pv 1) pd_int) (nomark _)) (pd_one (pd_cmp (od_ne hr.units) (pd_rd (pv 2)) (pd_rd (pv 1)) (nomark _)))))))
/-! _law_couple -/
abbrev s_l_couple : Stmt := (top 30)
abbrev N_l_couple : List Str := ["stock", "pots", "tables", "kind", "one", "evenings", "due", "alike", "turn", "row"]
theorem sc_l_couple : FnScope N_l_couple ["stock", "pots", "tables"] (defScope s_l_couple) := ⟨rfl, rfl, rfl, by decide +kernel, rfl, by decide +kernel, by decide +kernel⟩
def t_l_couple : TSd :=
  (sq (asn 3 (cl m_l_draw (cln 0 (cva (cst (.int 4)) cnil))))
  (sq (iff (tst (bi rEq (rd 3) (cst (.int 0)))) (sq (asn 4 (lc (irg1 (bi rAdd (cst (.int 1)) (cl m_l_draw (cln 0 (cva (cst (.int 4)) cnil))))) 8 tru (bi rAdd (cst (.int 1)) (cl m_l_draw (cln 0 (cva (cst (.int 7)) cnil))))))
  (ret (tupE (acons (rd 4) (acons (lc (irg1 (bi rAdd (cst (.int 1)) (cl m_l_draw (cln 0 (cva (cst (.int 4)) cnil))))) 8 tru (bi rAdd (cst (.int 1)) (cl m_l_draw (cln 0 (cva (cst (.int 7)) cnil))))) anil))))) skp)
  (sq (asn 5 (cl m_l_small_evenings (cva (bi rAdd (cst (.int 4)) (cl m_l_draw (cln 0 (cva (cst (.int 2)) cnil)))) cnil)))
  (sq (asn 4 (ixS 5 (cl m_l_draw (cln 0 (cva (lenS 5) cnil)))))
  (sq (iff (tst (bi rEq (rd 3) (cst (.int 1)))) (ret (tupE (acons (rd 4) (acons (cl m_l_mix (cln 0 (cln 4 cnil))) anil)))) skp)
  (sq (asn 6 (cl m_l_list (cln 1 (cln 4 (cln 2 cnil)))))
  (sq (asn 7 (lcn 5 9 (tand (tst (bi rNe (rd 9) (rd 4))) (tst (cl m_l_near (cln 3 (cln 6 (cva (cl m_l_list (cln 1 (cln 9 (cln 2 cnil)))) cnil)))))) (rd 9)))
  (sq (iff (tst (bi rEq (lenS 7) (cst (.int 0)))) (ret (tupE (acons (rd 4) (acons (cl m_l_mix (cln 0 (cln 4 cnil))) anil)))) skp)
  (ret (tupE (acons (cl m_l_mix (cln 0 (cln 4 cnil))) (acons (cl m_l_mix (cln 0 (cva (ixS 7 (cl m_l_draw (cln 0 (cva (lenS 7) cnil)))) cnil))) anil))))))))))))
def m_l_couple : TM := mkM 3 10 t_l_couple
theorem ok_l_couple {f : Addr} {fd : FuncData} (D : Df K mg "_law_couple" s_l_couple ["stock", "pots", "tables"] f fd) (T : Gs K w mg) (h_l_draw : DefOk P w K mg base "_law_draw" 1 2 m_l_draw) (h_l_list : DefOk P w K mg base "_law_list" 4 3 m_l_list) (h_l_mix : DefOk P w K mg base "_law_mix" 2 2 m_l_mix) (h_l_near : DefOk P w K mg base "_law_near" 1 3 m_l_near) (h_l_small_evenings : DefOk P w K mg base "_law_small_evenings" 1 1 m_l_small_evenings) : DefOk P w K mg base "_law_couple" 5 3 m_l_couple := by
  refine D.ok sc_l_couple rfl rfl fun cdv A outer s H E hr => ?_
  exact (pss_consd (ps_asnd (i := 3) sc_l_couple.nd rfl (Or.inr rfl) (pd_call h_l_draw (hr.mono (by decide)) rfl (pc_ln (pv 0) (pc_va pd_int pc_nil))))
    (pss_consd (ps_ifd (pt_cmpd (od_eq hr.units) (pd_rd (pv 3)) pd_int (nomark _)) (pss_consd (ps_asnd (i := 4) sc_l_couple.nd rfl (Or.inr rfl) (pd_lc rfl sc_l_couple.nd (pi_rg1 rfl T.n_range (pd_bin od_add pd_int (pd_call h_l_draw (hr.mono (by decide)) rfl (pc_ln (pv 0) (pc_va pd_int pc_nil))))) (blkOk_by (own := [("turn", 8)]) (N := N_l_couple) (sc := defScope s_l_couple) (by decide +kernel)) rfl (fun _ _ _ _ _ => pg_name (i := 8) sc_l_couple.nd rfl (Or.inl rfl)) (fun _ _ _ _ _ => pts_nild) (fun _ _ _ _ _ => (pd_bin od_add pd_int (pd_call h_l_draw (hr.mono (by decide)) rfl (pc_ln (pv 0) (pc_va pd_int pc_nil)))))))
    (pss_oned (ps_retd (pd_tup (pa_consd (pd_rd (pv 4)) (pa_consd (pd_lc rfl sc_l_couple.nd (pi_rg1 rfl T.n_range (pd_bin od_add pd_int (pd_call h_l_draw (hr.mono (by decide)) rfl (pc_ln (pv 0) (pc_va pd_int pc_nil))))) (blkOk_by (own := [("turn", 8)]) (N := N_l_couple) (sc := defScope s_l_couple) (by decide +kernel)) rfl (fun _ _ _ _ _ => pg_name (i := 8) sc_l_couple.nd rfl (Or.inl rfl)) (fun _ _ _ _ _ => pts_nild) (fun _ _ _ _ _ => (pd_bin od_add pd_int (pd_call h_l_draw (hr.mono (by decide)) rfl (pc_ln (pv 0) (pc_va pd_int pc_nil)))))) pa_nild)))))) pss_nild)
    (pss_consd (ps_asnd (i := 5) sc_l_couple.nd rfl (Or.inl rfl) (pd_call h_l_small_evenings (hr.mono (by decide)) rfl (pc_va (pd_bin od_add pd_int (pd_call h_l_draw (hr.mono (by decide)) rfl (pc_ln (pv 0) (pc_va pd_int pc_nil)))) pc_nil)))
    (pss_consd (ps_asnd (i := 4) sc_l_couple.nd rfl (Or.inr rfl) (pd_ixS (hu_of hr) (pv 5) (pd_call h_l_draw (hr.mono (by decide)) rfl (pc_ln (pv 0) (pc_va (pd_lenS T.n_len rfl (pv 5)) pc_nil)))))
    (pss_consd (ps_ifd (pt_cmpd (od_eq hr.units) (pd_rd (pv 3)) pd_int (nomark _)) (pss_oned (ps_retd (pd_tup (pa_consd (pd_rd (pv 4)) (pa_consd (pd_call h_l_mix (hr.mono (by decide)) rfl (pc_ln (pv 0) (pc_ln (pv 4) pc_nil))) pa_nild))))) pss_nild)
    (pss_consd (ps_asnd (i := 6) sc_l_couple.nd rfl (Or.inr rfl) (pd_call h_l_list (hr.mono (by decide)) rfl (pc_ln (pv 1) (pc_ln (pv 4) (pc_ln (pv 2) pc_nil)))))
    (pss_consd (ps_lcn (n := 7) rfl sc_l_couple.nd rfl rfl (sw_true rfl rfl rfl (by decide +kernel)) (pv 5) (blkOk_by (own := [("row", 9)]) (N := N_l_couple) (sc := defScope s_l_couple) (by decide +kernel)) rfl (fun _ _ _ _ _ => pg_name (i := 9) sc_l_couple.nd rfl (Or.inl rfl)) (fun _ _ _ _ _ => (pts_oned (PWd.pt (pw_and (pt_cmpd (od_ne hr.units) (pd_rd (pv 9)) (pd_rd (pv 4)) (nomark _)) (pw_and1 (pt_tst (pd_call h_l_near (hr.mono (by decide)) rfl (pc_ln (pv 3) (pc_ln (pv 6) (pc_va (pd_call h_l_list (hr.mono (by decide)) rfl (pc_ln (pv 1) (pc_ln (pv 9) (pc_ln (pv 2) pc_nil)))) pc_nil)))))))))) (fun _ _ _ _ _ => (pd_rd (pv 9))))
    (pss_consd (ps_ifd (pt_cmpd (od_eq hr.units) (pd_lenS T.n_len rfl (pv 7)) pd_int (nomark _)) (pss_oned (ps_retd (pd_tup (pa_consd (pd_rd (pv 4)) (pa_consd (pd_call h_l_mix (hr.mono (by decide)) rfl (pc_ln (pv 0) (pc_ln (pv 4) pc_nil))) pa_nild))))) pss_nild)
    (pss_oned (ps_retd (pd_tup (pa_consd (pd_call h_l_mix (hr.mono (by decide)) rfl (pc_ln (pv 0) (pc_ln (pv 4) pc_nil))) (pa_consd (pd_call h_l_mix (hr.mono (by decide)) rfl (pc_ln (pv 0) (pc_va (pd_ixS (hu_of hr) (pv 7) (pd_call h_l_draw (hr.mono (by decide)) rfl (pc_ln (pv 0) (pc_va (pd_lenS T.n_len rfl (pv 7)) pc_nil)))) pc_nil))) pa_nild)))))))))))))
/-! _law_couple_right -/
abbrev s_l_couple_right : Stmt := (top 32)
abbrev N_l_couple_right : List Str := ["pots", "one", "other", "tables", "mine", "yours", "due", "most", "first", "second", "purse"]
theorem sc_l_couple_right : FnScope N_l_couple_right ["pots", "one", "other", "tables"] (defScope s_l_couple_right) := ⟨rfl, rfl, rfl, by decide +kernel, rfl, by decide +kernel, by decide +kernel⟩
def t_l_couple_right : TSd :=
  (sq (asn 4 (cl m_l_list (cln 0 (cln 1 (cln 3 cnil)))))
  (sq (asn 5 (cl m_l_list (cln 0 (cln 2 (cln 3 cnil)))))
  (sq (asn 6 (cl m_l_parted (cln 0 (cln 4 (cln 5 cnil)))))
  (sq (iff (tnot (tst (cl m_l_matches (cva (cl m_parting_purse (cln 0 (cva (bc rList (acons (rd 1) anil)) (cva (bc rList (acons (rd 2) anil)) cnil)))) (cln 6 cnil))))) (ret (cst (.bl false))) skp)
  (sq (iff (tnot (tst (cl m_l_matches (cva (cl m_parting_purse (cln 0 (cva (bc rList (acons (rd 2) anil)) (cva (bc rList (acons (rd 1) anil)) cnil)))) (cln 6 cnil))))) (ret (cst (.bl false))) skp)
  (sq (asn 7 (bc rMin (acons (cst (.int 40)) (acons (bi rAdd (bc rMax (acons (bc rSum (acons (ixS 4 (cst (.int 1))) anil)) (acons (bc rSum (acons (ixS 5 (cst (.int 1))) anil)) anil))) (bi rMul (cst (.int 2)) (rd 0))) anil))))
  (sq (asn 8 (cl m_l_longest (cln 0 (cln 1 (cln 7 cnil)))))
  (sq (asn 9 (cl m_l_longest (cln 0 (cln 2 (cln 7 cnil)))))
  (sq (fr (irg1 (bi rAdd (rd 7) (cst (.int 1)))) (gn 10) (sq (iff (tand (tst (bi rNe (ixS 8 (rd 10)) (ixS 9 (rd 10)))) (tor (tst (bi rIs (rd 6) (cst .non))) (tst (bi rLt (rd 10) (rd 6))))) (ret (cst (.bl false))) skp)
  (sq (iff (tand (tst (bi rEq (rd 10) (rd 6))) (tst (bi rEq (ixS 8 (rd 10)) (ixS 9 (rd 10))))) (ret (cst (.bl false))) skp)
  (iff (tor (tst (bi rEq (bi rMod (rd 10) (cst (.int 3))) (bi rMod (lenS 1) (cst (.int 3))))) (tor (tst (bi rEq (rd 10) (rd 6))) (tst (bi rEq (bi rAdd (rd 10) (cst (.int 1))) (rd 6))))) (sq (iff (tnot (tst (cl m_l_matches (cva (cl m_longest_evening (cln 0 (cva (bc rList (acons (rd 1) anil)) (cln 10 cnil)))) (cva (ixS 8 (rd 10)) cnil))))) (ret (cst (.bl false))) skp)
  (iff (tnot (tst (cl m_l_matches (cva (cl m_longest_evening (cln 0 (cva (bc rList (acons (rd 2) anil)) (cln 10 cnil)))) (cva (ixS 9 (rd 10)) cnil))))) (ret (cst (.bl false))) skp)) skp))))
  (ret (cl m_l_matches (cva (cl m_round_rises (cln 0 (cva (ixS 1 (cst (.int 0))) cnil))) (cva (cl m_l_rises (cln 0 (cva (ixS 1 (cst (.int 0))) cnil))) cnil)))))))))))))
def m_l_couple_right : TM := mkM 4 11 t_l_couple_right
theorem ok_l_couple_right {f : Addr} {fd : FuncData} (D : Df K mg "_law_couple_right" s_l_couple_right ["pots", "one", "other", "tables"] f fd) (T : Gs K w mg) (h_l_list : DefOk P w K mg base "_law_list" 4 3 m_l_list) (h_l_longest : DefOk P w K mg base "_law_longest" 2 3 m_l_longest) (h_l_matches : DefOk P w K mg base "_law_matches" 4 2 m_l_matches) (h_l_parted : DefOk P w K mg base "_law_parted" 1 3 m_l_parted) (h_l_rises : DefOk P w K mg base "_law_rises" 3 2 m_l_rises) (h_longest_evening : DefOk P w K mg base "longest_evening" 4 3 m_longest_evening) (h_parting_purse : DefOk P w K mg base "parting_purse" 4 3 m_parting_purse) (h_round_rises : DefOk P w K mg base "round_rises" 3 2 m_round_rises) : DefOk P w K mg base "_law_couple_right" 5 4 m_l_couple_right := by
  refine D.ok sc_l_couple_right rfl rfl fun cdv A outer s H E hr => ?_
  exact (pss_consd (ps_asnd (i := 4) sc_l_couple_right.nd rfl (Or.inl rfl) (pd_call h_l_list (hr.mono (by decide)) rfl (pc_ln (pv 0) (pc_ln (pv 1) (pc_ln (pv 3) pc_nil)))))
    (pss_consd (ps_asnd (i := 5) sc_l_couple_right.nd rfl (Or.inl rfl) (pd_call h_l_list (hr.mono (by decide)) rfl (pc_ln (pv 0) (pc_ln (pv 2) (pc_ln (pv 3) pc_nil)))))
    (pss_consd (ps_asnd (i := 6) sc_l_couple_right.nd rfl (Or.inl rfl) (pd_call h_l_parted (hr.mono (by decide)) rfl (pc_ln (pv 0) (pc_ln (pv 4) (pc_ln (pv 5) pc_nil)))))
    (pss_consd (ps_ifd (pt_not (pt_tst (pd_call h_l_matches (hr.mono (by decide)) rfl (pc_va (pd_call h_parting_purse (hr.mono (by decide)) rfl (pc_ln (pv 0) (pc_va (pd_bt (cd_list rfl) rfl T.n_list (by decide +kernel) (pa_consd (pd_rd (pv 1)) pa_nild)) (pc_va (pd_bt (cd_list rfl) rfl T.n_list (by decide +kernel) (pa_consd (pd_rd (pv 2)) pa_nild)) pc_nil)))) (pc_ln (pv 6) pc_nil))))) (pss_oned (ps_retd pd_bl)) pss_nild)
    (pss_consd (ps_ifd (pt_not (pt_tst (pd_call h_l_matches (hr.mono (by decide)) rfl (pc_va (pd_call h_parting_purse (hr.mono (by decide)) rfl (pc_ln (pv 0) (pc_va (pd_bt (cd_list rfl) rfl T.n_list (by decide +kernel) (pa_consd (pd_rd (pv 2)) pa_nild)) (pc_va (pd_bt (cd_list rfl) rfl T.n_list (by decide +kernel) (pa_consd (pd_rd (pv 1)) pa_nild)) pc_nil)))) (pc_ln (pv 6) pc_nil))))) (pss_oned (ps_retd pd_bl)) pss_nild)
    (pss_consd (ps_asnd (i := 7) sc_l_couple_right.nd rfl (Or.inl rfl) (pd_bc (cd_min rfl) rfl T.n_min (by decide +kernel) (pa_consd pd_int (pa_consd (pd_bin od_add (pd_bc (cd_max rfl) rfl T.n_max (by decide +kernel) (pa_consd (pd_bc (cd_sum rfl) rfl T.n_sum (by decide +kernel) (pa_consd (pd_ixS (hu_of hr) (pv 4) pd_int) pa_nild)) (pa_consd (pd_bc (cd_sum rfl) rfl T.n_sum (by decide +kernel) (pa_consd (pd_ixS (hu_of hr) (pv 5) pd_int) pa_nild)) pa_nild))) (pd_bin od_mul pd_int (pd_rd (pv 0)))) pa_nild))))
    (pss_consd (ps_asnd (i := 8) sc_l_couple_right.nd rfl (Or.inl rfl) (pd_call h_l_longest (hr.mono (by decide)) rfl (pc_ln (pv 0) (pc_ln (pv 1) (pc_ln (pv 7) pc_nil)))))
    (pss_consd (ps_asnd (i := 9) sc_l_couple_right.nd rfl (Or.inl rfl) (pd_call h_l_longest (hr.mono (by decide)) rfl (pc_ln (pv 0) (pc_ln (pv 2) (pc_ln (pv 7) pc_nil)))))
    (pss_consd (ps_frd PassesOwn.never rfl (pi_rg1 rfl T.n_range (pd_bin od_add (pd_rd (pv 7)) pd_int)) (pg_n (pg_name (i := 10) sc_l_couple_right.nd rfl (Or.inl rfl))) (pss_consd (ps_ifd (PWd.pt (pw_and (pt_cmpd (od_ne hr.units) (pd_ixS (hu_of hr) (pv 8) (pd_rd (pv 10))) (pd_ixS (hu_of hr) (pv 9) (pd_rd (pv 10))) (nomark _)) (pw_and1 (PWd.pt (pw_or (pt_cmpd od_is (pd_rd (pv 6)) pd_non (nomark _)) (pw_or1 (pt_cmpd od_lt (pd_rd (pv 10)) (pd_rd (pv 6)) (nomark _)))))))) (pss_oned (ps_retd pd_bl)) pss_nild)
    (pss_consd (ps_ifd (PWd.pt (pw_and (pt_cmpd (od_eq hr.units) (pd_rd (pv 10)) (pd_rd (pv 6)) (nomark _)) (pw_and1 (pt_cmpd (od_eq hr.units) (pd_ixS (hu_of hr) (pv 8) (pd_rd (pv 10))) (pd_ixS (hu_of hr) (pv 9) (pd_rd (pv 10))) (nomark _))))) (pss_oned (ps_retd pd_bl)) pss_nild)
    (pss_oned (ps_ifd (PWd.pt (pw_or (pt_cmpd (od_eq hr.units) (pd_bin od_mod (pd_rd (pv 10)) pd_int) (pd_bin od_mod (pd_lenS T.n_len rfl (pv 1)) pd_int) (nomark _)) (pw_or (pt_cmpd (od_eq hr.units) (pd_rd (pv 10)) (pd_rd (pv 6)) (nomark _)) (pw_or1 (pt_cmpd (od_eq hr.units) (pd_bin od_add (pd_rd (pv 10)) pd_int) (pd_rd (pv 6)) (nomark _)))))) (pss_consd (ps_ifd (pt_not (pt_tst (pd_call h_l_matches (hr.mono (by decide)) rfl (pc_va (pd_call h_longest_evening (hr.mono (by decide)) rfl (pc_ln (pv 0) (pc_va (pd_bt (cd_list rfl) rfl T.n_list (by decide +kernel) (pa_consd (pd_rd (pv 1)) pa_nild)) (pc_ln (pv 10) pc_nil)))) (pc_va (pd_ixS (hu_of hr) (pv 8) (pd_rd (pv 10))) pc_nil))))) (pss_oned (ps_retd pd_bl)) pss_nild)
    (pss_oned (ps_ifd (pt_not (pt_tst (pd_call h_l_matches (hr.mono (by decide)) rfl (pc_va (pd_call h_longest_evening (hr.mono (by decide)) rfl (pc_ln (pv 0) (pc_va (pd_bt (cd_list rfl) rfl T.n_list (by decide +kernel) (pa_consd (pd_rd (pv 2)) pa_nild)) (pc_ln (pv 10) pc_nil)))) (pc_va (pd_ixS (hu_of hr) (pv 9) (pd_rd (pv 10))) pc_nil))))) (pss_oned (ps_retd pd_bl)) pss_nild))) pss_nild)))))
    (pss_oned (ps_retd (pd_call h_l_matches (hr.mono (by decide)) rfl (pc_va (pd_call h_round_rises (hr.mono (by decide)) rfl (pc_ln (pv 0) (pc_va (pd_ixS (hu_of hr) (pv 1) pd_int) pc_nil))) (pc_va (pd_call h_l_rises (hr.mono (by decide)) rfl (pc_ln (pv 0) (pc_va (pd_ixS (hu_of hr) (pv 1) pd_int) pc_nil))) pc_nil))))))))))))))
/-! law -/
abbrev s_law : Stmt := (top 33)
abbrev N_law : List Str := ["script", "turn", "stock", "pots", "tables", "again", "one", "other"]
theorem sc_law : FnScope N_law ["script"] (defScope s_law) := ⟨rfl, rfl, rfl, by decide +kernel, rfl, by decide +kernel, by decide +kernel⟩
def t_law : TSd :=
  (sq (fr (irg1 (cst (.int 2))) (gn 1) (sq (asn 2 (cl m_l_stock (cln 0 (cln 1 cnil))))
  (sq (asn 3 (bi rAdd (cst (.int 1)) (cl m_l_draw (cln 2 (cva (cst (.int 6)) cnil)))))
  (sq (asn 4 dctE)
  (fr (irg1 (cst (.int 2))) (gn 5) (sq (asg (cl m_l_couple (cln 2 (cln 3 (cln 4 cnil)))) (gt 2 (gscons (gn 6) (gscons (gn 7) gsnil))))
  (iff (tnot (tst (cl m_l_couple_right (cln 3 (cln 6 (cln 7 (cln 4 cnil))))))) (ret (cst (.bl false))) skp)))))))
  (ret (cst (.bl true))))
def m_law : TM := mkM 1 8 t_law
theorem ok_law {f : Addr} {fd : FuncData} (D : Df K mg "law" s_law ["script"] f fd) (T : Gs K w mg) (h_l_couple : DefOk P w K mg base "_law_couple" 5 3 m_l_couple) (h_l_couple_right : DefOk P w K mg base "_law_couple_right" 5 4 m_l_couple_right) (h_l_draw : DefOk P w K mg base "_law_draw" 1 2 m_l_draw) (h_l_stock : DefOk P w K mg base "_law_stock" 1 2 m_l_stock) : FnOk P w K mg base CX0 6 f fd ["script"] (SpD K 1 m_law) := by
  refine D.fok sc_law rfl rfl fun cdv A outer s H E hr => ?_
  exact (pss_consd (ps_frd PassesOwn.never rfl (pi_rg1 rfl T.n_range pd_int) (pg_n (pg_name (i := 1) sc_law.nd rfl (Or.inl rfl))) (pss_consd (ps_asnd (i := 2) sc_law.nd rfl (Or.inl rfl) (pd_call h_l_stock (hr.mono (by decide)) rfl (pc_ln (pv 0) (pc_ln (pv 1) pc_nil))))
    (pss_consd (ps_asnd (i := 3) sc_law.nd rfl (Or.inl rfl) (pd_bin od_add pd_int (pd_call h_l_draw (hr.mono (by decide)) rfl (pc_ln (pv 2) (pc_va pd_int pc_nil)))))
    (pss_consd (ps_asnd (i := 4) sc_law.nd rfl (Or.inl rfl) pd_dct)
    (pss_oned (ps_frd PassesOwn.never rfl (pi_rg1 rfl T.n_range pd_int) (pg_n (pg_name (i := 5) sc_law.nd rfl (Or.inl rfl))) (pss_consd (ps_asgd (pd_call h_l_couple (hr.mono (by decide)) rfl (pc_ln (pv 2) (pc_ln (pv 3) (pc_ln (pv 4) pc_nil)))) (pg_t rfl (pgs_consd (pg_n (pg_name (i := 6) sc_law.nd rfl (Or.inl rfl))) (pgs_consd (pg_n (pg_name (i := 7) sc_law.nd rfl (Or.inl rfl))) pgs_nild))))
    (pss_oned (ps_ifd (pt_not (pt_tst (pd_call h_l_couple_right (hr.mono (by decide)) rfl (pc_ln (pv 3) (pc_ln (pv 6) (pc_ln (pv 7) (pc_ln (pv 4) pc_nil))))))) (pss_oned (ps_retd pd_bl)) pss_nild)))))))))
    (pss_oned (ps_retd pd_bl)))
end
end DL.K82
set_option Elab.async false
set_option linter.all false
set_option maxRecDepth 100000
set_option maxHeartbeats 4000000
namespace DL.K82
open PySem PySem.Spec PyProof.Rows L2
instance : XM m_sums_behind := by delta m_sums_behind t_sums_behind; infer_instance
instance : XM m_rises_of := by delta m_rises_of t_rises_of; infer_instance
instance : XM m_l_even := by delta m_l_even t_l_even; infer_instance
instance : XM m_l_least_sum := by delta m_l_least_sum t_l_least_sum; infer_instance
instance : XM m_l_rises := by delta m_l_rises t_l_rises; infer_instance
instance : XM m_l_small_evenings := by delta m_l_small_evenings t_l_small_evenings; infer_instance
def tabR : List (List (List Int)) := [
  [[], [], [], [], [], [], [], []],
  [[], [1], [0, 1], [0, 0, 1], [0, 0, 0, 1], [0, 0, 0, 0, 1], [0, 0, 0, 0, 0, 1], [0, 0, 0, 0, 0, 0, 1]],
  [[], [2], [1, 2], [0, 2], [0, 1, 2], [0, 0, 2], [0, 0, 1, 2], [0, 0, 0, 2]],
  [[], [3], [1, 3], [1, 2, 3], [0, 2, 3], [0, 1, 3], [0, 1, 2, 3], [0, 0, 2, 3]],
  [[], [4], [2, 4], [1, 3, 4], [1, 3, 3, 4], [0, 3, 3, 4], [0, 2, 3, 4], [0, 1, 3, 4]],
  [[], [5], [2, 5], [1, 4, 5], [1, 3, 4, 5], [1, 3, 4, 4, 5], [0, 3, 4, 4, 5], [0, 2, 4, 4, 5]],
  [[], [6], [3, 6], [2, 5, 6], [1, 4, 6], [1, 4, 4, 6], [1, 4, 4, 5, 6], [0, 4, 4, 5, 6]]]
def Rz (p d : Nat) : List Int := (tabR.getD p []).getD d []
theorem ck_rises : ((List.range 6).all fun p => (List.range 7).all fun d => ckI (XM.x m_rises_of [(.f, .int (p + 1 : Nat)), (.f, .int (d + 1 : Nat))]) (Rz (p + 1) (d + 1)) 2) = true := by decide +kernel
theorem ck_lrises : ((List.range 6).all fun p => (List.range 7).all fun d => ckI (XM.x m_l_rises [(.f, .int (p + 1 : Nat)), (.f, .int (d + 1 : Nat))]) (Rz (p + 1) (d + 1)) 2) = true := by decide +kernel
end DL.K82
set_option linter.all false
set_option maxRecDepth 100000
namespace DL.K82
/-! ## evenings as lists of rises: plain -/
def gr (p : Int) : List Int → Int → Int
  | [], q => q.fdiv p
  | r :: rs, q => if q < r then 0 else 1 + gr p rs (q - r)
def gs : List Int → Int → Nat
  | [], _ => 0
  | r :: rs, q => if r ≤ q then gs rs (q - r) + 1 else 0
def Ls : List Int → Nat → Int
  | _, 0 => 0
  | [], _ + 1 => 0
  | a :: A, k + 1 => a + Ls A k
def Up (A : List Int) : Prop := A.Pairwise (· ≤ ·)
def NN (A : List Int) : Prop := ∀ a ∈ A, 0 ≤ a
theorem NN.tl {a A} (h : NN (a :: A)) : NN A := fun x m => h x (List.mem_cons_of_mem _ m)
theorem NN.hd {a A} (h : NN (a :: A)) : 0 ≤ a := h a (List.mem_cons_self ..)
theorem Up.tl {a A} (h : Up (a :: A)) : Up A := (List.pairwise_cons.mp h).2
theorem Up.hd {a A} (h : Up (a :: A)) : ∀ b ∈ A, a ≤ b := (List.pairwise_cons.mp h).1
theorem Ls_zero (A : List Int) : Ls A 0 = 0 := by cases A <;> rfl
theorem Ls_nn : ∀ {A : List Int} (h : NN A) (k : Nat), 0 ≤ Ls A k
  | A, h, 0 => by rw [Ls_zero]; exact Int.le_refl _
  | [], h, k + 1 => Int.le_refl _
  | a :: A, h, k + 1 => by
    have := Ls_nn h.tl k
    have := h.hd
    unfold Ls; omega
theorem Ls_step : ∀ {A : List Int} (h : NN A) (k : Nat), Ls A k ≤ Ls A (k + 1)
  | [], h, 0 => Int.le_refl _
  | [], h, k + 1 => Int.le_refl _
  | a :: A, h, 0 => by
    have := h.hd
    show 0 ≤ a + Ls A 0
    rw [Ls_zero]; omega
  | a :: A, h, k + 1 => by
    have := Ls_step h.tl k
    show a + Ls A k ≤ a + Ls A (k + 1)
    omega
theorem Ls_mono {A : List Int} (h : NN A) {j k : Nat} (le : j ≤ k) : Ls A j ≤ Ls A k := by
  induction k with
  | zero => rw [Nat.le_zero.mp le]; exact Int.le_refl _
  | succ k ih =>
    rcases Nat.lt_or_ge j (k + 1) with l | l
    · exact Int.le_trans (ih (by omega)) (Ls_step h k)
    · have : j = k + 1 := by omega
      rw [this]; exact Int.le_refl _
theorem gs_mono : ∀ {A : List Int} {q r : Int}, q ≤ r → gs A q ≤ gs A r
  | [], q, r, h => Nat.le_refl _
  | a :: A, q, r, h => by
    unfold gs
    split
    · rw [if_pos (by omega)]
      have := gs_mono (A := A) (q := q - a) (r := r - a) (by omega)
      omega
    · omega
theorem gs_cons_le : ∀ {B : List Int} {b x y : Int}, Up (b :: B) → 0 ≤ b → x ≤ y → gs B x ≤ gs (b :: B) y
  | [], b, x, y, u, n, h => by simp [gs]
  | c :: B, b, x, y, u, n, h => by
    have hbc := u.hd c (List.mem_cons_self ..)
    rw [show gs (c :: B) x = if c ≤ x then gs B (x - c) + 1 else 0 from rfl, show gs (b :: c :: B) y = if b ≤ y then gs (c :: B) (y - b) + 1 else 0 from rfl]
    split
    · rw [if_pos (by omega)]
      have := gs_cons_le (B := B) (b := c) (x := x - c) (y := y - b) u.tl (by omega) (by omega)
      omega
    · omega
/-- the first k of a rising list, one less -/
theorem Ls_less : ∀ {A : List Int} {a b : Int} {k : Nat}, Up (a :: A) → NN (a :: A) → b ≤ a → k + 1 ≤ (a :: A).length → Ls (a :: A) k + b ≤ Ls (a :: A) (k + 1)
  | A, a, b, 0, u, n, h, l => by
    show 0 + b ≤ a + Ls A 0
    rw [Ls_zero]; omega
  | [], a, b, k + 1, u, n, h, l => by simp at l
  | c :: A, a, b, k + 1, u, n, h, l => by
    have hac := u.hd c (List.mem_cons_self ..)
    have := Ls_less (A := A) (a := c) (b := b) (k := k) u.tl n.tl (by omega) (by simpa using l)
    show a + Ls (c :: A) k + b ≤ a + Ls (c :: A) (k + 1)
    omega
def mg (A B : List Int) : List Int := List.merge A B (fun a b => decide (a ≤ b))
theorem mg_nil (B : List Int) : mg [] B = B := by simp [mg]
theorem mg_nil' (B : List Int) : mg B [] = B := by cases B <;> simp [mg]
theorem mg_cons (a b : Int) (A B : List Int) : mg (a :: A) (b :: B) = if a ≤ b then a :: mg A (b :: B) else b :: mg (a :: A) B := by
  unfold mg
  rw [List.cons_merge_cons]
  simp
theorem gs_mg_ge : ∀ (n : Nat) (A B : List Int), A.length + B.length = n → Up A → Up B → NN A → NN B → ∀ (q : Int) (k : Nat), k ≤ A.length → Ls A k ≤ q → k + gs B (q - Ls A k) ≤ gs (mg A B) q := by
  intro n
  induction n with
  | zero =>
    intro A B hl uA uB nA nB q k hk hq
    have h1 : A = [] := List.length_eq_zero_iff.mp (by omega)
    have h2 : B = [] := List.length_eq_zero_iff.mp (by omega)
    subst h1 h2
    have : k = 0 := by simpa using hk
    subst this
    simp [gs]
  | succ n ih =>
    intro A B hl uA uB nA nB q k hk hq
    cases A with
    | nil =>
      have : k = 0 := by simpa using hk
      subst this
      rw [mg_nil, Ls_zero]; simp
    | cons a A =>
      have ha := nA.hd
      cases B with
      | nil =>
        rw [mg_nil']
        have : ∀ {A : List Int}, NN A → ∀ {k : Nat} {q : Int}, k ≤ A.length → Ls A k ≤ q → k ≤ gs A q := by
          intro A
          induction A with
          | nil => intro _ k q h1 h2; simpa [gs] using h1
          | cons a A ih =>
            intro nA k q h1 h2
            cases k with
            | zero => exact Nat.zero_le _
            | succ k =>
              have hh : a + Ls A k ≤ q := h2
              have := Ls_nn nA.tl k
              unfold gs
              rw [if_pos (by omega)]
              have := ih nA.tl (k := k) (q := q - a) (by simpa using h1) (by omega)
              omega
        have := this nA hk hq
        simpa [gs] using this
      | cons b B =>
        have hb := nB.hd
        rw [mg_cons]
        by_cases hab : a ≤ b
        · rw [if_pos hab]
          have ih' := ih A (b :: B) (by simp at hl ⊢; omega) uA.tl uB nA.tl nB
          cases k with
          | zero =>
            rw [Ls_zero] at hq ⊢
            have i0 := ih' (q - a) 0 (Nat.zero_le _)
            rw [Ls_zero] at i0
            rw [show gs (b :: B) (q - 0) = if b ≤ q - 0 then gs B (q - 0 - b) + 1 else 0 from rfl, show gs (a :: mg A (b :: B)) q = if a ≤ q then gs (mg A (b :: B)) (q - a) + 1 else 0 from rfl]
            split
            · rw [if_pos (by omega)]
              have i1 := i0 (by omega)
              have := gs_cons_le (x := q - 0 - b) (y := q - a - 0) uB hb (by omega)
              omega
            · omega
          | succ k =>
            have e : Ls (a :: A) (k + 1) = a + Ls A k := rfl
            rw [e] at hq ⊢
            have := Ls_nn nA.tl k
            have i1 := ih' (q - a) k (by simpa using hk) (by omega)
            rw [show gs (a :: mg A (b :: B)) q = if a ≤ q then gs (mg A (b :: B)) (q - a) + 1 else 0 from rfl, if_pos (by omega)]
            rw [show q - (a + Ls A k) = q - a - Ls A k by omega]
            omega
        · rw [if_neg hab]
          have ih' := ih (a :: A) B (by simp at hl ⊢; omega) uA uB.tl nA nB.tl
          rw [show gs (b :: mg (a :: A) B) q = if b ≤ q then gs (mg (a :: A) B) (q - b) + 1 else 0 from rfl, show gs (b :: B) (q - Ls (a :: A) k) = if b ≤ q - Ls (a :: A) k then gs B (q - Ls (a :: A) k - b) + 1 else 0 from rfl]
          have nk := Ls_nn nA k
          split
          · rw [if_pos (by omega)]
            have i1 := ih' (q - b) k hk (by omega)
            rw [show q - b - Ls (a :: A) k = q - Ls (a :: A) k - b by omega] at i1
            omega
          · cases k with
            | zero => omega
            | succ k =>
              have e : Ls (a :: A) (k + 1) = a + Ls A k := rfl
              have := Ls_nn nA.tl k
              have h3 := Ls_less (b := b) uA nA (by omega) hk
              rw [if_pos (by omega)]
              have i1 := ih' (q - b) k (by omega) (by omega)
              omega
theorem gs_mg_le : ∀ (n : Nat) (A B : List Int), A.length + B.length = n → NN A → NN B → ∀ (q : Int), 0 ≤ q → ∃ k, k ≤ A.length ∧ Ls A k ≤ q ∧ gs (mg A B) q ≤ k + gs B (q - Ls A k) := by
  intro n
  induction n with
  | zero =>
    intro A B hl nA nB q hq
    have h1 : A = [] := List.length_eq_zero_iff.mp (by omega)
    have h2 : B = [] := List.length_eq_zero_iff.mp (by omega)
    subst h1 h2
    exact ⟨0, Nat.le_refl _, hq, by simp [mg_nil, gs]⟩
  | succ n ih =>
    intro A B hl nA nB q hq
    cases A with
    | nil => exact ⟨0, Nat.le_refl _, hq, by rw [mg_nil, Ls_zero]; simp⟩
    | cons a A =>
      have ha := nA.hd
      cases B with
      | nil =>
        rw [mg_nil']
        have : ∀ {A : List Int}, NN A → ∀ {q : Int}, 0 ≤ q → ∃ k, k ≤ A.length ∧ Ls A k ≤ q ∧ gs A q ≤ k := by
          intro A
          induction A with
          | nil => intro _ q hq; exact ⟨0, Nat.le_refl _, hq, Nat.le_refl _⟩
          | cons a A ih =>
            intro nA q hq
            unfold gs
            split
            · obtain ⟨k, h1, h2, h3⟩ := ih nA.tl (q := q - a) (by omega)
              exact ⟨k + 1, by simpa using h1, by show a + Ls A k ≤ q; omega, by omega⟩
            · exact ⟨0, Nat.zero_le _, hq, Nat.le_refl _⟩
        obtain ⟨k, h1, h2, h3⟩ := this nA hq
        exact ⟨k, h1, h2, by omega⟩
      | cons b B =>
        have hb := nB.hd
        rw [mg_cons]
        by_cases hab : a ≤ b
        · rw [if_pos hab, show gs (a :: mg A (b :: B)) q = if a ≤ q then gs (mg A (b :: B)) (q - a) + 1 else 0 from rfl]
          split
          · obtain ⟨k, h1, h2, h3⟩ := ih A (b :: B) (by simp at hl ⊢; omega) nA.tl nB (q - a) (by omega)
            refine ⟨k + 1, by simpa using h1, by show a + Ls A k ≤ q; omega, ?_⟩
            show _ ≤ k + 1 + gs (b :: B) (q - (a + Ls A k))
            rw [show q - (a + Ls A k) = q - a - Ls A k by omega]
            omega
          · exact ⟨0, Nat.zero_le _, hq, by omega⟩
        · rw [if_neg hab, show gs (b :: mg (a :: A) B) q = if b ≤ q then gs (mg (a :: A) B) (q - b) + 1 else 0 from rfl]
          split
          · obtain ⟨k, h1, h2, h3⟩ := ih (a :: A) B (by simp at hl ⊢; omega) nA nB.tl (q - b) (by omega)
            refine ⟨k, h1, by omega, ?_⟩
            rw [show gs (b :: B) (q - Ls (a :: A) k) = if b ≤ q - Ls (a :: A) k then gs B (q - Ls (a :: A) k - b) + 1 else 0 from rfl, if_pos (by omega)]
            rw [show q - Ls (a :: A) k - b = q - b - Ls (a :: A) k by omega]
            omega
          · exact ⟨0, Nat.zero_le _, hq, by omega⟩
theorem gs_rep {p : Int} (hp : 1 ≤ p) : ∀ {n : Nat} {q : Int}, 0 ≤ q → q ≤ n → (gs (List.replicate n p) q : Int) = q.fdiv p
  | 0, q, h0, h1 => by
    have : q = 0 := by omega
    subst this
    simp [gs]
  | n + 1, q, h0, h1 => by
    rw [List.replicate_succ]
    unfold gs
    split
    · have ih := gs_rep hp (n := n) (q := q - p) (by omega) (by omega)
      rw [Int.fdiv_eq_ediv_of_nonneg _ (by omega)] at ih ⊢
      have := Int.add_mul_ediv_right (q - p) 1 (c := p) (by omega)
      rw [show q - p + 1 * p = q by omega] at this
      rw [this]
      push_cast
      omega
    · rw [Int.fdiv_eq_ediv_of_nonneg _ (by omega), Int.ediv_eq_zero_of_lt h0 (by omega)]
      rfl
theorem gr_gs {p : Int} (hp : 1 ≤ p) : ∀ {xs : List Int} {n : Nat} {q : Int}, NN xs → 0 ≤ q → q ≤ n → gr p xs q = gs (xs ++ List.replicate n p) q
  | [], n, q, _, h0, h1 => by rw [List.nil_append, gs_rep hp h0 h1]; rfl
  | x :: xs, n, q, nn, h0, h1 => by
    rw [List.cons_append]
    unfold gr gs
    by_cases h : q < x
    · rw [if_pos h, if_neg (by omega)]; rfl
    · rw [if_neg h, if_pos (by omega), gr_gs hp (n := n) nn.tl (q := q - x) (by omega) (by have := nn.hd; omega)]
      push_cast
      omega
/-- rising lists with the same members are the same -/
theorem Up.eq {A : List Int} : ∀ {B : List Int}, Up A → Up B → A.Perm B → A = B := by
  induction A with
  | nil => intro B _ _ h; exact h.nil_eq
  | cons a A ih =>
    intro B uA uB h
    cases B with
    | nil => exact (List.cons_ne_nil _ _ h.eq_nil).elim
    | cons b B =>
      have h1 : a ≤ b := by
        rcases List.mem_cons.mp (h.mem_iff.mpr (List.mem_cons_self ..) : b ∈ a :: A) with e | m
        · omega
        · exact uA.hd b m
      have h2 : b ≤ a := by
        rcases List.mem_cons.mp (h.mem_iff.mp (List.mem_cons_self ..) : a ∈ b :: B) with e | m
        · omega
        · exact uB.hd a m
      have e : a = b := by omega
      subst e
      rw [ih uA.tl uB.tl h.cons_inv]
theorem mg_up {A B : List Int} (a : Up A) (b : Up B) : Up (mg A B) := by
  unfold mg Up
  have := List.pairwise_merge (le := fun a b : Int => decide (a ≤ b)) (by intro a b c; simp; omega) (by intro a b; simp; omega) A B (a.imp (by simp)) (b.imp (by simp))
  exact this.imp (by simp)
theorem mg_perm (A B : List Int) : (mg A B).Perm (A ++ B) := List.merge_perm_append _
theorem up_split {p : Int} : ∀ {A : List Int}, Up A → (∀ a ∈ A, a ≤ p) → A = A.filter (fun a => decide (a < p)) ++ List.replicate (A.count p) p
  | [], _, _ => rfl
  | a :: A, u, h => by
    have ih := up_split u.tl fun x m => h x (List.mem_cons_of_mem _ m)
    by_cases ha : a < p
    · rw [List.filter_cons_of_pos (by simpa using ha), List.count_cons_of_ne (by omega), List.cons_append, ← ih]
    · have e : a = p := by have := h a (List.mem_cons_self ..); omega
      subst e
      have z : A.filter (fun x => decide (x < a)) = [] := List.filter_eq_nil_iff.mpr fun x m => by have := u.hd x m; simp; omega
      rw [List.filter_cons_of_neg (by simp), z, List.count_cons_self]
      rw [z] at ih
      rw [List.nil_append] at ih ⊢
      rw [List.replicate_succ, ← ih]
/-! ### where two evenings part -/
def pt : List Int → List Int → Option Int
  | [], [] => none
  | x :: _, [] => some x
  | [], y :: _ => some y
  | x :: xs, y :: ys => if x = y then (pt xs ys).map (x + ·) else some (min x y)
def In1 (p : Int) (A : List Int) : Prop := ∀ a ∈ A, 0 < a ∧ a < p
theorem In1.tl {p a A} (h : In1 p (a :: A)) : In1 p A := fun x m => h x (List.mem_cons_of_mem _ m)
theorem In1.hd {p a A} (h : In1 p (a :: A)) : 0 < a ∧ a < p := h a (List.mem_cons_self ..)
theorem fdiv_nn {p q : Int} (hp : 1 ≤ p) (h : 0 ≤ q) : 0 ≤ q.fdiv p := by
  rw [Int.fdiv_eq_ediv_of_nonneg _ (by omega)]
  exact Int.ediv_nonneg h (by omega)
theorem fdiv_z {p q : Int} (hp : 1 ≤ p) (h : 0 ≤ q) (l : q < p) : q.fdiv p = 0 := by
  rw [Int.fdiv_eq_ediv_of_nonneg _ (by omega)]
  exact Int.ediv_eq_zero_of_lt h l
theorem gr_nn {p : Int} (hp : 1 ≤ p) : ∀ {A : List Int} {q : Int}, 0 ≤ q → 0 ≤ gr p A q
  | [], q, h => fdiv_nn hp h
  | a :: A, q, h => by
    unfold gr
    split
    · exact Int.le_refl _
    · have := gr_nn hp (A := A) (q := q - a) (by omega)
      omega
theorem gr_zero {p : Int} (hp : 1 ≤ p) {A : List Int} (h : In1 p A) : gr p A 0 = 0 := by
  cases A with
  | nil => exact fdiv_z hp (Int.le_refl _) (by omega)
  | cons a A => unfold gr; rw [if_pos h.hd.1]
theorem pt_none : ∀ {A B : List Int}, pt A B = none → A = B
  | [], [], _ => rfl
  | x :: A, [], h => by simp [pt] at h
  | [], y :: B, h => by simp [pt] at h
  | x :: A, y :: B, h => by
    unfold pt at h
    split at h
    · rename_i e
      rw [Option.map_eq_none_iff] at h
      rw [e, pt_none h]
    · cases h
theorem pt_refl : ∀ {A : List Int}, pt A A = none
  | [] => rfl
  | a :: A => by unfold pt; rw [if_pos rfl, pt_refl]; rfl
theorem pt_comm : ∀ {A B : List Int}, pt A B = pt B A
  | [], [] => rfl
  | x :: A, [] => rfl
  | [], y :: B => rfl
  | x :: A, y :: B => by
    unfold pt
    by_cases h : x = y
    · subst h; rw [if_pos rfl, if_pos rfl, pt_comm]
    · rw [if_neg h, if_neg (fun e => h e.symm), Int.min_comm]
theorem pt_some {p : Int} (hp : 1 ≤ p) : ∀ {A B : List Int} {d : Int}, In1 p A → In1 p B → pt A B = some d → 0 < d ∧ (∀ q, 0 ≤ q → q < d → gr p A q = gr p B q) ∧ gr p A d ≠ gr p B d
  | [], [], d, _, _, h => by simp [pt] at h
  | x :: A, [], d, a, b, h => by
    simp only [pt, Option.some.injEq] at h
    subst h
    have := a.hd
    refine ⟨this.1, fun q h0 h1 => ?_, ?_⟩
    · rw [show gr p [] q = q.fdiv p from rfl, fdiv_z hp h0 (by omega)]
      unfold gr; rw [if_pos h1]
    · rw [show gr p [] x = x.fdiv p from rfl, fdiv_z hp (by omega) (by omega)]
      unfold gr
      rw [if_neg (by omega)]
      have := gr_nn hp (A := A) (q := x - x) (by omega)
      omega
  | [], x :: B, d, a, b, h => by
    simp only [pt, Option.some.injEq] at h
    subst h
    have := b.hd
    refine ⟨this.1, fun q h0 h1 => ?_, ?_⟩
    · rw [show gr p [] q = q.fdiv p from rfl, fdiv_z hp h0 (by omega)]
      unfold gr; rw [if_pos h1]
    · rw [show gr p [] x = x.fdiv p from rfl, fdiv_z hp (by omega) (by omega)]
      unfold gr
      rw [if_neg (by omega)]
      have := gr_nn hp (A := B) (q := x - x) (by omega)
      omega
  | x :: A, y :: B, d, a, b, h => by
    have hx := a.hd
    have hy := b.hd
    unfold pt at h
    split at h
    · rename_i e
      subst e
      rw [Option.map_eq_some_iff] at h
      obtain ⟨d', h, rfl⟩ := h
      obtain ⟨i1, i2, i3⟩ := pt_some hp a.tl b.tl h
      refine ⟨by omega, fun q h0 h1 => ?_, ?_⟩
      · unfold gr
        split
        · rfl
        · rw [i2 (q - x) (by omega) (by omega)]
      · unfold gr
        rw [if_neg (by omega), if_neg (by omega), show x + d' - x = d' by omega]
        omega
    · rename_i e
      simp only [Option.some.injEq] at h
      have hh : (d = x ∧ x < y) ∨ (d = y ∧ y < x) := by omega
      refine ⟨by omega, fun q h0 h1 => ?_, ?_⟩
      · unfold gr; rw [if_pos (by omega), if_pos (by omega)]
      · rcases hh with ⟨rfl, l⟩ | ⟨rfl, l⟩
        · rw [show gr p (y :: B) d = 0 from if_pos l, show gr p (d :: A) d = 1 + gr p A (d - d) from if_neg (by omega)]
          have := gr_nn hp (A := A) (q := d - d) (by omega)
          omega
        · rw [show gr p (x :: A) d = 0 from if_pos l, show gr p (d :: B) d = 1 + gr p B (d - d) from if_neg (by omega)]
          have := gr_nn hp (A := B) (q := d - d) (by omega)
          omega
/-- zeros ahead -/
theorem gr_zeros {p : Int} : ∀ {n : Nat} {A : List Int} {q : Int}, 0 ≤ q → gr p (List.replicate n 0 ++ A) q = n + gr p A q
  | 0, A, q, h => by simp
  | n + 1, A, q, h => by
    rw [List.replicate_succ, List.cons_append]
    rw [show gr p (0 :: (List.replicate n 0 ++ A)) q = if q < 0 then 0 else 1 + gr p (List.replicate n 0 ++ A) (q - 0) from rfl, if_neg (by omega), show q - 0 = q by omega, gr_zeros h]
    push_cast
    omega
theorem up_zeros : ∀ {A : List Int}, Up A → NN A → A = List.replicate (A.count 0) 0 ++ A.filter (fun a => decide (0 < a))
  | [], _, _ => rfl
  | a :: A, u, n => by
    have ih := up_zeros u.tl n.tl
    by_cases ha : a = 0
    · subst ha
      rw [List.count_cons_self, List.filter_cons_of_neg (by simp), List.replicate_succ, List.cons_append, ← ih]
    · have h1 : 0 < a := by have := n.hd; omega
      have z : A.count 0 = 0 := List.count_eq_zero.mpr fun m => by have := u.hd 0 m; omega
      have f : A.filter (fun a => decide (0 < a)) = A := List.filter_eq_self.mpr fun x m => by have := u.hd x m; simp; omega
      rw [List.count_cons_of_ne (by omega), z, List.filter_cons_of_pos (by simpa using h1), f]
      rfl
end DL.K82
set_option Elab.async false
set_option linter.all false
set_option maxRecDepth 100000
set_option maxHeartbeats 4000000
namespace DL.K82
theorem allR {n : Nat} {f : Nat → Bool} (h : (List.range n).all f = true) {i : Nat} (hi : i < n) : f i = true := List.all_eq_true.mp h i (List.mem_range.mpr hi)
theorem all2 {a b : Nat} {f : Nat → Nat → Bool} (h : ((List.range a).all fun p => (List.range b).all fun d => f p d) = true) {p d : Nat} (hp : p < a) (hd : d < b) : f p d = true := allR (allR h hp) hd
def Ez (p m : Nat) : List Int := List.replicate (m - p % m) ((p / m : Nat) : Int) ++ List.replicate (p % m) ((p / m + 1 : Nat) : Int)
def cz (p m h : Nat) : Int := Ls (Ez p m) h
def Az (p m : Nat) : List Int := Rz p m ++ List.replicate 49 (p : Int)
def ckR (p m : Nat) : Bool := decide ((Rz p m).Pairwise (· ≤ ·)) && (Rz p m).all (fun a => decide (0 ≤ a) && decide (a ≤ (p : Int))) && decide ((Rz p m).length ≤ 7) && decide (0 < (Rz p m).length) && decide (40 < Ls (Az p m) 47) && decide (cz p m m = p) && (List.range (m + 1)).all (fun h => decide (0 ≤ cz p m h)) && decide ((Ez p m).length = m)
theorem ck_R : ((List.range 6).all fun p => (List.range 7).all fun m => ckR (p + 1) (m + 1)) = true := by decide +kernel
def ckF (p m : Nat) : Bool := (List.range 8).all fun k => (List.range m).all (fun h => decide (Ls (Az p m) (k + 1) ≤ cz p m (h + 1) + Ls (Az p (h + 1)) k)) && (List.range m).any (fun h => decide (Ls (Az p m) (k + 1) = cz p m (h + 1) + Ls (Az p (h + 1)) k))
theorem ck_F : ((List.range 6).all fun p => (List.range 7).all fun m => ckF (p + 1) (m + 1)) = true := by decide +kernel
structure PM (p m : Nat) : Prop where
  p1 : 1 ≤ p
  p6 : p ≤ 6
  m1 : 1 ≤ m
  m7 : m ≤ 7
theorem PM.R {p m : Nat} (h : PM p m) : ckR p m = true := by
  have := all2 ck_R (p := p - 1) (d := m - 1) (by have := h.p6; have := h.p1; omega) (by have := h.m7; have := h.m1; omega)
  rw [show p - 1 + 1 = p by have := h.p1; omega, show m - 1 + 1 = m by have := h.m1; omega] at this
  exact this
theorem PM.F {p m : Nat} (h : PM p m) : ckF p m = true := by
  have := all2 ck_F (p := p - 1) (d := m - 1) (by have := h.p6; have := h.p1; omega) (by have := h.m7; have := h.m1; omega)
  rw [show p - 1 + 1 = p by have := h.p1; omega, show m - 1 + 1 = m by have := h.m1; omega] at this
  exact this
theorem PM.all {p m : Nat} (h : PM p m) : Up (Rz p m) ∧ (∀ a ∈ Rz p m, 0 ≤ a ∧ a ≤ (p : Int)) ∧ (Rz p m).length ≤ 7 ∧ 0 < (Rz p m).length ∧ 40 < Ls (Az p m) 47 ∧ cz p m m = p ∧ (∀ k, k ≤ m → 0 ≤ cz p m k) ∧ (Ez p m).length = m := by
  have := h.R
  unfold ckR at this
  simp only [Bool.and_eq_true, decide_eq_true_eq, List.all_eq_true] at this
  obtain ⟨⟨⟨⟨⟨⟨⟨a, b⟩, c⟩, d⟩, e⟩, f⟩, g⟩, k⟩ := this
  exact ⟨a, fun x m => b x m, c, d, e, f, fun k hk => g k (List.mem_range.mpr (by omega)), k⟩
theorem PM.of {p m h : Nat} (x : PM p m) (h1 : 1 ≤ h) (h2 : h ≤ m) : PM p h := ⟨x.p1, x.p6, h1, Nat.le_trans h2 x.m7⟩
theorem PM.up {p m : Nat} (h : PM p m) : Up (Az p m) := by
  obtain ⟨a, b, _⟩ := h.all
  refine List.pairwise_append.mpr ⟨a, List.pairwise_replicate.mpr (.inr (Int.le_refl _)), fun x hx y hy => ?_⟩
  rw [(List.mem_replicate.mp hy).2]
  exact (b x hx).2
theorem PM.nn {p m : Nat} (h : PM p m) : NN (Az p m) := by
  obtain ⟨a, b, _⟩ := h.all
  intro x hx
  rcases List.mem_append.mp hx with hx | hx
  · exact (b x hx).1
  · rw [(List.mem_replicate.mp hx).2]; omega
theorem PM.le {p m : Nat} (h : PM p m) : ∀ a ∈ Az p m, a ≤ (p : Int) := by
  obtain ⟨a, b, _⟩ := h.all
  intro x hx
  rcases List.mem_append.mp hx with hx | hx
  · exact (b x hx).2
  · rw [(List.mem_replicate.mp hx).2]; omega
theorem PM.len {p m : Nat} (h : PM p m) : 50 ≤ (Az p m).length := by
  obtain ⟨a, b, c, d, _⟩ := h.all
  unfold Az
  rw [List.length_append, List.length_replicate]
  omega
theorem Ls_succ : ∀ {A : List Int} {k : Nat} {a : Int}, A[k]? = some a → Ls A (k + 1) = Ls A k + a
  | [], k, a, h => by simp at h
  | x :: A, 0, a, h => by
    simp at h
    subst h
    show x + Ls A 0 = 0 + x
    rw [Ls_zero]; omega
  | x :: A, k + 1, a, h => by
    have := Ls_succ (A := A) (k := k) (a := a) (by simpa using h)
    show x + Ls A (k + 1) = x + Ls A k + a
    omega
theorem PM.lin {p m : Nat} (h : PM p m) {k : Nat} (h1 : 7 ≤ k) (h2 : k < 50) : Ls (Az p m) (k + 1) = Ls (Az p m) k + p := by
  obtain ⟨a, b, c, d, _⟩ := h.all
  refine Ls_succ ?_
  unfold Az
  rw [List.getElem?_append_right (by omega), List.getElem?_replicate, if_pos (by omega)]
theorem PM.f1 {p m : Nat} (x : PM p m) {h : Nat} (h1 : 1 ≤ h) (h2 : h ≤ m) : ∀ {k : Nat}, k < 49 → Ls (Az p m) (k + 1) ≤ cz p m h + Ls (Az p h) k := by
  have y := x.of h1 h2
  intro k
  induction k with
  | zero =>
    intro _
    have := x.F
    unfold ckF at this
    have := allR this (i := 0) (by omega)
    rw [Bool.and_eq_true] at this
    have := allR this.1 (i := h - 1) (by omega)
    rw [show h - 1 + 1 = h by omega] at this
    simpa using this
  | succ k ih =>
    intro hk
    rcases Nat.lt_or_ge (k + 1) 8 with l | l
    · have := x.F
      unfold ckF at this
      have := allR this (i := k + 1) (by omega)
      rw [Bool.and_eq_true] at this
      have := allR this.1 (i := h - 1) (by omega)
      rw [show h - 1 + 1 = h by omega] at this
      simpa using this
    · have i1 := ih (by omega)
      rw [x.lin (k := k + 1) (by omega) (by omega), y.lin (k := k) (by omega) (by omega)]
      omega
theorem PM.f2 {p m : Nat} (x : PM p m) : ∀ {k : Nat}, k < 49 → ∃ h, 1 ≤ h ∧ h ≤ m ∧ Ls (Az p m) (k + 1) = cz p m h + Ls (Az p h) k := by
  have base : ∀ k, k < 8 → ∃ h, 1 ≤ h ∧ h ≤ m ∧ Ls (Az p m) (k + 1) = cz p m h + Ls (Az p h) k := by
    intro k hk
    have := x.F
    unfold ckF at this
    have := allR this (i := k) hk
    rw [Bool.and_eq_true] at this
    obtain ⟨h, h1, h2⟩ := List.any_eq_true.mp this.2
    have := List.mem_range.mp h1
    exact ⟨h + 1, by omega, by omega, by simpa using h2⟩
  intro k
  induction k with
  | zero => intro _; exact base 0 (by omega)
  | succ k ih =>
    intro hk
    rcases Nat.lt_or_ge (k + 1) 8 with l | l
    · exact base _ l
    · obtain ⟨h, h1, h2, h3⟩ := ih (by omega)
      refine ⟨h, h1, h2, ?_⟩
      rw [x.lin (k := k + 1) (by omega) (by omega), (x.of h1 h2).lin (k := k) (by omega) (by omega)]
      omega
theorem PM.k47 {p m : Nat} (x : PM p m) {k : Nat} {q : Int} (hq : q ≤ 40) (h : Ls (Az p m) k ≤ q) : k < 47 := by
  obtain ⟨_, _, _, _, e, _⟩ := x.all
  rcases Nat.lt_or_ge k 47 with l | l
  · exact l
  · have := Ls_mono x.nn l
    omega
def Bt (p : Nat) : List Nat → List Int
  | [] => []
  | d :: sv => mg (Az p d) (Bt p sv)
def Sv (p : Nat) (sv : List Nat) : Prop := (1 ≤ p ∧ p ≤ 6) ∧ ∀ d ∈ sv, 1 ≤ d ∧ d ≤ 7
theorem Sv.tl {p d sv} (h : Sv p (d :: sv)) : Sv p sv := ⟨h.1, fun x m => h.2 x (List.mem_cons_of_mem _ m)⟩
theorem Sv.hd {p d sv} (h : Sv p (d :: sv)) : PM p d := ⟨h.1.1, h.1.2, (h.2 d (List.mem_cons_self ..)).1, (h.2 d (List.mem_cons_self ..)).2⟩
theorem Bt_perm {p : Nat} : ∀ sv, (Bt p sv).Perm (sv.flatMap (Az p))
  | [] => .nil
  | d :: sv => (mg_perm _ _).trans (by rw [List.flatMap_cons]; exact (Bt_perm sv).append_left _)
theorem Bt_up {p : Nat} : ∀ {sv}, Sv p sv → Up (Bt p sv)
  | [], _ => .nil
  | d :: sv, h => mg_up h.hd.up (Bt_up h.tl)
theorem Bt_mem {p : Nat} {sv : List Nat} (h : Sv p sv) {a : Int} (m : a ∈ Bt p sv) : 0 ≤ a ∧ a ≤ (p : Int) := by
  obtain ⟨d, h1, h2⟩ := List.mem_flatMap.mp ((Bt_perm sv).mem_iff.mp m)
  have x : PM p d := ⟨h.1.1, h.1.2, (h.2 d h1).1, (h.2 d h1).2⟩
  exact ⟨x.nn a h2, x.le a h2⟩
theorem Bt_nn {p : Nat} {sv : List Nat} (h : Sv p sv) : NN (Bt p sv) := fun _ m => (Bt_mem h m).1
def Tv (p : Nat) (sv : List Nat) (m : Nat) (q : Int) : Int := if m = 0 then sv.length + gs (Bt p sv) q else sv.length + 1 + gs (mg (Az p m) (Bt p sv)) q
theorem Tv_nn {p sv m q} : 0 ≤ Tv p sv m q := by unfold Tv; split <;> omega
theorem cz_zero {p m : Nat} : cz p m 0 = 0 := Ls_zero _
theorem T_ge {p m : Nat} {sv : List Nat} (x : PM p m) (s : Sv p sv) {q : Int} (h0 : 0 ≤ q) (hq : q ≤ 40) {h : Nat} (hh : h ≤ m) (hc : cz p m h ≤ q) : Tv p sv h (q - cz p m h) ≤ Tv p sv m q - 1 := by
  have m1 := x.m1
  rw [show Tv p sv m q = sv.length + 1 + gs (mg (Az p m) (Bt p sv)) q from if_neg (by omega)]
  unfold Tv
  split
  · rename_i e
    subst e
    rw [cz_zero]
    have := gs_mg_ge _ (Az p m) (Bt p sv) rfl x.up (Bt_up s) x.nn (Bt_nn s) q 0 (Nat.zero_le _) (by rw [Ls_zero]; exact h0)
    rw [Ls_zero] at this
    omega
  · have y := x.of (h := h) (by omega) hh
    obtain ⟨k, h1, h2, h3⟩ := gs_mg_le _ (Az p h) (Bt p sv) rfl y.nn (Bt_nn s) (q - cz p m h) (by omega)
    have c0 := x.all.2.2.2.2.2.2.1 h hh
    have k7 := y.k47 (q := q - cz p m h) (by omega) h2
    have f1 := x.f1 (h := h) (by omega) hh (k := k) (by omega)
    have g := gs_mg_ge _ (Az p m) (Bt p sv) rfl x.up (Bt_up s) x.nn (Bt_nn s) q (k + 1) (by have := x.len; omega) (by omega)
    have := gs_mono (A := Bt p sv) (q := q - cz p m h - Ls (Az p h) k) (r := q - Ls (Az p m) (k + 1)) (by omega)
    omega
theorem T_le {p m : Nat} {sv : List Nat} (x : PM p m) (s : Sv p sv) {q : Int} (h0 : 0 ≤ q) (hq : q ≤ 40) : ∃ h, h ≤ m ∧ cz p m h ≤ q ∧ Tv p sv m q - 1 ≤ Tv p sv h (q - cz p m h) := by
  have m1 := x.m1
  rw [show Tv p sv m q = sv.length + 1 + gs (mg (Az p m) (Bt p sv)) q from if_neg (by omega)]
  obtain ⟨k, h1, h2, h3⟩ := gs_mg_le _ (Az p m) (Bt p sv) rfl x.nn (Bt_nn s) q h0
  cases k with
  | zero =>
    refine ⟨0, Nat.zero_le _, by rw [cz_zero]; exact h0, ?_⟩
    rw [cz_zero]
    rw [Ls_zero] at h3
    unfold Tv
    rw [if_pos rfl]
    omega
  | succ k =>
    have k7 := x.k47 hq h2
    obtain ⟨h, e1, e2, e3⟩ := x.f2 (k := k) (by omega)
    have y := x.of e1 e2
    have l0 := Ls_nn y.nn k
    refine ⟨h, e2, by omega, ?_⟩
    rw [show Tv p sv h (q - cz p m h) = sv.length + 1 + gs (mg (Az p h) (Bt p sv)) (q - cz p m h) from if_neg (by omega)]
    have g := gs_mg_ge _ (Az p h) (Bt p sv) rfl y.up (Bt_up s) y.nn (Bt_nn s) (q - cz p m h) k (by have := y.len; omega) (by omega)
    rw [show q - cz p m h - Ls (Az p h) k = q - Ls (Az p m) (k + 1) by omega] at g
    omega
def bst (p : Nat) (sv : List Nat) (m : Nat) (q : Int) : Nat → Int
  | 0 => 0
  | i + 1 => if cz p m i ≤ q then (if Tv p sv i (q - cz p m i) > bst p sv m q i then Tv p sv i (q - cz p m i) else bst p sv m q i) else bst p sv m q i
theorem bst_ge {p sv m q} : ∀ {i}, 0 ≤ bst p sv m q i
  | 0 => Int.le_refl _
  | i + 1 => by
    unfold bst
    have := bst_ge (p := p) (sv := sv) (m := m) (q := q) (i := i)
    split
    · split <;> omega
    · exact this
theorem bst_h {p sv m q} : ∀ {i h}, h < i → cz p m h ≤ q → Tv p sv h (q - cz p m h) ≤ bst p sv m q i
  | i + 1, h, l, c => by
    unfold bst
    by_cases e : h = i
    · subst e
      rw [if_pos c]
      split <;> omega
    · have := bst_h (p := p) (sv := sv) (m := m) (q := q) (i := i) (h := h) (by omega) c
      split
      · split <;> omega
      · exact this
theorem bst_le {p sv m q b} (hb : 0 ≤ b) : ∀ {i}, (∀ h, h < i → cz p m h ≤ q → Tv p sv h (q - cz p m h) ≤ b) → bst p sv m q i ≤ b
  | 0, _ => hb
  | i + 1, h => by
    have := bst_le (p := p) (sv := sv) (m := m) (q := q) hb (i := i) fun k l c => h k (by omega) c
    unfold bst
    split
    · have := h i (by omega) (by assumption)
      split <;> omega
    · exact this
theorem bst_eq {p m : Nat} {sv : List Nat} (x : PM p m) (s : Sv p sv) {q : Int} (h0 : 0 ≤ q) (hq : q ≤ 40) : bst p sv m q (m + 1) = Tv p sv m q - 1 := by
  have m1 := x.m1
  have a : bst p sv m q (m + 1) ≤ Tv p sv m q - 1 := bst_le (by unfold Tv; rw [if_neg (by omega)]; omega) fun h l c => T_ge x s h0 hq (by omega) c
  obtain ⟨h, h1, h2, h3⟩ := T_le x s h0 hq
  have := bst_h (p := p) (sv := sv) (m := m) (q := q) (i := m + 1) (h := h) (by omega) h2
  omega
/-- the rises below the pots, in order -/
def Zs (p : Nat) (sv : List Nat) : List Int := (Bt p sv).filter fun a => decide (a < (p : Int))
theorem Zs_up {p sv} (s : Sv p sv) : Up (Zs p sv) := (Bt_up s).sublist List.filter_sublist
theorem Zs_perm {p : Nat} {sv : List Nat} : (Zs p sv).Perm ((sv.flatMap (Rz p)).filter fun a => decide (a < (p : Int))) := by
  refine ((Bt_perm sv).filter _).trans ?_
  have : ∀ sv : List Nat, (sv.flatMap (Az p)).filter (fun a => decide (a < (p : Int))) = (sv.flatMap (Rz p)).filter (fun a => decide (a < (p : Int))) := by
    intro sv
    induction sv with
    | nil => rfl
    | cons d sv ih =>
      rw [List.flatMap_cons, List.flatMap_cons, List.filter_append, List.filter_append, ih]
      unfold Az
      rw [List.filter_append, List.filter_replicate]
      simp
  rw [this]
theorem Zs_eq {p : Nat} {sv : List Nat} (s : Sv p sv) {ns : List Int} (h1 : ns.Perm ((sv.flatMap (Rz p)).filter fun a => decide (a < (p : Int)))) (h2 : Up ns) : ns = Zs p sv := h2.eq (Zs_up s) (h1.trans Zs_perm.symm)
theorem Zs_mem {p : Nat} {sv : List Nat} (s : Sv p sv) {a : Int} (m : a ∈ Zs p sv) : 0 ≤ a ∧ a < (p : Int) := by
  obtain ⟨h1, h2⟩ := List.mem_filter.mp m
  exact ⟨(Bt_mem s h1).1, by simpa using h2⟩
/-- the evening's own list -/
def Ps (p : Nat) (sv : List Nat) : List Int := (Zs p sv).filter fun a => decide (0 < a)
def Ns (p : Nat) (sv : List Nat) : Nat := sv.length + (Zs p sv).count 0
theorem Ps_in {p : Nat} {sv : List Nat} (s : Sv p sv) : In1 p (Ps p sv) := by
  intro a m
  obtain ⟨h1, h2⟩ := List.mem_filter.mp m
  exact ⟨by simpa using h2, (Zs_mem s h1).2⟩
theorem Bt_count {p : Nat} : ∀ {sv : List Nat}, Sv p sv → sv ≠ [] → 49 ≤ (Bt p sv).count (p : Int)
  | [], _, h => (h rfl).elim
  | d :: sv, s, _ => by
    rw [(Bt_perm (d :: sv)).count_eq, List.flatMap_cons, List.count_append]
    unfold Az
    rw [List.count_append, List.count_replicate]
    simp
    omega
theorem long_eq {p : Nat} {sv : List Nat} (s : Sv p sv) (hs : sv ≠ []) {q : Int} (h0 : 0 ≤ q) (hq : q ≤ 40) : (sv.length + gs (Bt p sv) q : Int) = Ns p sv + gr p (Ps p sv) q := by
  have e := up_split (Bt_up s) fun a m => (Bt_mem s m).2
  have c := Bt_count s hs
  have g := gr_gs (p := p) (by have := s.1.1; omega) (xs := Zs p sv) (n := (Bt p sv).count (p : Int)) (q := q) (fun a m => (Zs_mem s m).1) h0 (by omega)
  have z := up_zeros (Zs_up s) fun a m => (Zs_mem s m).1
  rw [show Zs p sv ++ List.replicate ((Bt p sv).count (p : Int)) (p : Int) = Bt p sv from e.symm] at g
  rw [← g, z, gr_zeros h0]
  unfold Ns Ps
  push_cast
  omega
theorem gr_Zs {p : Nat} {sv : List Nat} (s : Sv p sv) {q : Int} (h0 : 0 ≤ q) : (sv.length : Int) + gr p (Zs p sv) q = Ns p sv + gr p (Ps p sv) q := by
  have z := up_zeros (Zs_up s) fun a m => (Zs_mem s m).1
  rw [z, gr_zeros h0]
  unfold Ns Ps
  push_cast
  omega
end DL.K82
set_option Elab.async false
set_option linter.all false
set_option maxRecDepth 100000
set_option maxHeartbeats 4000000
namespace DL.K82
open PySem PySem.Spec PyProof.Rows L2
theorem v_inK {neg : Bool} {i : Int} {kvs : List (NestedKey × D)} {k : SD → Prop} : inD neg (.int i) (.dct kvs) k = k (.f, .bl (neg != (lookK kvs (.num i)).isSome)) := rfl
theorem v_setK {i : Int} {kvs : List (NestedKey × D)} {v : D} {k : D → Prop} : setD (.dct kvs) (.int i) v k = (kvs.length < sizeLine ∧ k (.dct (putKD kvs (.num i) v))) := rfl
theorem v_ixK {i : Int} {kvs : List (NestedKey × D)} {x : D} {k : SD → Prop} (h : lookK kvs (.num i) = some x) (q : k (.f, x)) : ixD (.dct kvs) (.int i) k := by
  show (match lookK kvs (NestedKey.num i) with | some x => k (.f, x) | none => False)
  rw [h]; exact q
theorem v_ixL {i : Int} {xs : List D} {x : D} {k : SD → Prop} (h : atI xs i = some x) (q : k (.f, x)) : ixD (.lst xs) (.int i) k := by
  show (match atI xs i with | some x => k (.f, x) | none => False)
  rw [h]; exact q
theorem v_ixT {i : Int} {xs : List D} {x : D} {k : SD → Prop} (h : atI xs i = some x) (q : k (.f, x)) : ixD (.tup xs) (.int i) k := by
  show (match atI xs i with | some x => k (.f, x) | none => False)
  rw [h]; exact q
theorem gn_of {i : Nat} {sd : SD} {env : Env} {q : Env → Prop} (h : pinned env i = false) (k : q (env.set i (false, some sd))) : gn i sd env q := ⟨h, k⟩
theorem e_ll : (1 : Nat) = 1 := rfl
theorem atI_nat {α : Type} {xs : List α} {i : Nat} {x : α} (h : xs[i]? = some x) : atI xs (i : Int) = some x := by
  have := (List.getElem?_eq_some_iff.mp h).1
  unfold atI ixN
  rw [if_pos (by omega), if_pos (by omega)]
  simpa using h
theorem getM {α β : Type} {f : α → β} {l : List α} {n : Nat} {d : β} (h : (l.map f)[n]? = some d) : ∃ x, l[n]? = some x ∧ d = f x := by
  rw [List.getElem?_map, Option.map_eq_some_iff] at h
  obtain ⟨x, a, b⟩ := h
  exact ⟨x, a, b.symm⟩
theorem rangeD_get {a b : Int} {n : Nat} {d : D} (h : (rangeD a b)[n]? = some d) : d = .int (a + n) ∧ a + n < b := by
  obtain ⟨x, h1, rfl⟩ := getM h
  obtain ⟨h2, h3⟩ := List.getElem?_eq_some_iff.mp h1
  rw [List.length_range] at h2
  rw [List.getElem_range] at h3
  exact ⟨by rw [h3], by omega⟩
theorem rangeD_len {a b : Int} : (rangeD a b).length = (b - a).toNat := by unfold rangeD; simp
abbrev iL (ns : List Int) : D := .lst (ns.map .int)
abbrev nI (d : Nat) : D := .int (d : Int)
abbrev nL (sv : List Nat) : D := .lst (sv.map nI)
def tb (p : Nat) (ks : List Nat) : List (NestedKey × D) := ks.map fun (d : Nat) => (NestedKey.num (d : Int), iL (Rz p d))
theorem tb_look {p d : Nat} : ∀ {ks : List Nat}, lookK (tb p ks) (.num (d : Int)) = if d ∈ ks then some (iL (Rz p d)) else none
  | [] => rfl
  | x :: ks => by
    have ih := tb_look (p := p) (d := d) (ks := ks)
    unfold lookK tb at ih ⊢
    rw [List.map_cons, List.find?_cons]
    by_cases h : x = d
    · subst h; simp
    · have : decide (NestedKey.num (x : Int) = .num (d : Int)) = false := by
        simp only [NestedKey.num.injEq, decide_eq_false_iff_not]; omega
      simp only [this]
      rw [ih]
      have : d ≠ x := fun e => h e.symm
      simp [this]
theorem tb_put {p d : Nat} {ks : List Nat} (h : d ∉ ks) : putKD (tb p ks) (.num (d : Int)) (iL (Rz p d)) = tb p (ks ++ [d]) := by
  unfold putKD
  rw [if_neg]
  · simp [tb]
  · intro hh
    obtain ⟨x, h1, h2⟩ := List.any_eq_true.mp hh
    obtain ⟨y, h3, rfl⟩ := List.mem_map.mp h1
    simp only [NestedKey.num.injEq, decide_eq_true_eq] at h2
    rw [show y = d by omega] at h3
    exact h h3
structure Tb (p : Nat) (ks : List Nat) : Prop where
  pm : ∀ d ∈ ks, PM p d
  nd : ks.Nodup
theorem pigeon : ∀ {n : Nat} {ks : List Nat}, ks.Nodup → (∀ d ∈ ks, d < n) → ks.length ≤ n
  | 0, [], _, _ => Nat.le_refl _
  | 0, k :: ks, _, h => by have := h k (List.mem_cons_self ..); omega
  | n + 1, ks, nd, h => by
    have i := pigeon (n := n) (ks := ks.erase n) (nd.erase n) fun d m => by
      have h1 := (nd.mem_erase_iff.mp m)
      have := h d h1.2
      have := h1.1
      omega
    have := List.length_erase (a := n) (l := ks)
    split at this <;> omega
theorem Tb.len {p : Nat} {ks : List Nat} (h : Tb p ks) : (tb p ks).length < sizeLine := by
  have := pigeon (n := 8) h.nd fun d m => by have := (h.pm d m).m7; omega
  unfold tb
  rw [List.length_map]
  show _ < 2 ^ 24
  omega
theorem Tb.add {p d : Nat} {ks : List Nat} (h : Tb p ks) (x : PM p d) (m : d ∉ ks) : Tb p (ks ++ [d]) := ⟨fun y hy => by
    rcases List.mem_append.mp hy with hy | hy
    · exact h.pm y hy
    · rw [List.mem_singleton.mp hy]; exact x,
  List.nodup_append.mpr ⟨h.nd, by simp, fun a ha b hb e => m (by rw [← List.mem_singleton.mp hb, ← e]; exact ha)⟩⟩
local macro_rules | `(tactic| walk_at "wp") => `(tactic| simp only [↓x_sq, ↓x_skp, ↓x_brk, ↓x_cnt, ↓x_nvr, ↓x_drp, ↓x_ret, ↓x_retN, ↓x_iff, ↓x_asn, ↓x_asg, ↓x_gn, ↓x_gt, ↓x_gsnil, ↓x_gscons, ↓x_aug, ↓x_setS, ↓x_augS, ↓x_cst, ↓x_rd, ↓x_mv, ↓x_bi, ↓x_tst, ↓x_tnot, ↓x_tand, ↓x_tor, ↓x_tru, ↓x_vand, ↓x_vor, ↓x_vnot, ↓x_neg, ↓x_cnd, ↓x_chn, ↓x_ixS, ↓x_ix, ↓x_lenS, ↓x_inS, ↓x_anil, ↓x_acons, ↓x_bc, ↓x_tupE, ↓x_lstE, ↓x_dctE, ↓x_dc1, ↓x_mt, ↓x_cntS, ↓x_isi, ↓x_wix, ↓x_cnil, ↓x_cva, ↓x_cln, ↓x_cl, ↓x_sl, ↓x_onil, ↓x_osm, ↓x_fr, ↓x_frn, ↓x_ilst, ↓x_irg1, ↓x_irg2, ↓x_lc, ↓x_lcn, ↓look0, ↓lookS, ↓pin0, ↓pinS, ↓put0, ↓putSS, ↓set0, ↓setSu, ↓v_add, ↓v_addL, ↓v_addT, ↓v_mul, ↓v_mulL, ↓v_J, ↓v_I, ↓v_eq, ↓v_ne, ↓v_is, ↓v_isN, ↓v_isi, ↓v_isn, e_int, e_ni, e_in, e_nn, ↓f_int, ↓f_non, ↓f_bl, true_and, and_true, eq_self, ↓reduceIte, Bool.not_true, Bool.not_false, Bool.false_eq_true, List.map_cons, List.map_nil, List.length_cons, List.length_nil, Option.isSome_some, lendA, backA, okB, Option.map_some, isF, Bool.not_false, Bool.not_true, peek, lenD, itemsOf, lstOf, seqOf, backs, v_inK, v_setK, e_ll])
theorem check_spec {s : Str} {n i : Int} {R : SD → List (Option SD) → Prop} (hl : tab_LIMITS.lookup s = some n) (h : ¬ n < i) (hR : R (.f, .non) [none, none]) : m_check [(.f, .str s), (.f, .int i)] R := by
  refine ⟨rfl, ?_⟩
  show t_check _ [(false, some (.f, .str s)), (false, some (.f, .int i))]
  unfold t_check
  walk_at "wp"
  rw [hl]
  simp only [h, decide_false]
  exact hR
theorem check_each_spec {s : Str} {n : Int} {sv : List Nat} {R : SD → List (Option SD) → Prop} (hl : tab_LIMITS.lookup s = some n) (h : ∀ d ∈ sv, ¬ n < (d : Int)) (hR : R (.f, .non) [none, none]) : m_check_each [(.f, .str s), (.f, nL sv)] R := by
  refine ⟨rfl, ?_⟩
  show t_check_each _ [(false, some (.f, .str s)), (false, some (.f, nL sv)), (false, none)]
  unfold t_check_each
  walk_at "wp"
  refine frB_of (fun _ e => ∃ o, e = [(false, some (.f, .str s)), (false, some (.f, nL sv)), (false, o)]) ⟨none, rfl⟩ ?_ ?_
  · rintro n d e nx hn ⟨o, rfl⟩ k
    obtain ⟨x, hx, rfl⟩ := getM hn
    walk_at "wp"
    refine check_spec hl (h x (List.mem_of_getElem? hx)) ?_
    walk_at "wp"
    exact k _ ⟨_, rfl⟩
  · rintro e ⟨o, rfl⟩
    exact hR
theorem rises_spec {p d : Nat} (x : PM p d) {R : SD → List (Option SD) → Prop} (hR : R (.o .f, iL (Rz p d)) [none, none]) : m_rises_of [(.f, .int p), (.f, .int d)] R := by
  have := all2 ck_rises (p := p - 1) (d := d - 1) (by have := x.p6; have := x.p1; omega) (by have := x.m7; have := x.m1; omega)
  rw [show p - 1 + 1 = p by have := x.p1; omega, show d - 1 + 1 = d by have := x.m1; omega] at this
  exact XM.ok _ _ _ _ (ckI_eq this) hR
theorem lrises_spec {p d : Nat} (x : PM p d) {R : SD → List (Option SD) → Prop} (hR : R (.o .f, iL (Rz p d)) [none, none]) : m_l_rises [(.f, .int p), (.f, .int d)] R := by
  have := all2 ck_lrises (p := p - 1) (d := d - 1) (by have := x.p6; have := x.p1; omega) (by have := x.m7; have := x.m1; omega)
  rw [show p - 1 + 1 = p by have := x.p1; omega, show d - 1 + 1 = d by have := x.m1; omega] at this
  exact XM.ok _ _ _ _ (ckI_eq this) hR
theorem check_servings_spec {sv : List Nat} {R : SD → List (Option SD) → Prop} (hs : sv ≠ []) (h : ∀ d ∈ sv, 1 ≤ d) (hR : R (.f, .non) [none]) : m_check_servings [(.f, nL sv)] R := by
  refine ⟨rfl, ?_⟩
  show t_check_servings _ [(false, some (.f, nL sv)), (false, none)]
  unfold t_check_servings
  have hl : decide (((sv.map nI).length : Int) = 0) = false := by
    cases sv with
    | nil => exact (hs rfl).elim
    | cons d sv => simp; omega
  walk_at "wp"
  simp only [hl, Bool.false_eq_true, ↓reduceIte]
  refine frB_of (fun _ e => ∃ o, e = [(false, some (.f, nL sv)), (false, o)]) ⟨none, rfl⟩ ?_ ?_
  · rintro n d e nx hn ⟨o, rfl⟩ k
    obtain ⟨x, hx, rfl⟩ := getM hn
    have : decide ((x : Int) < 1) = false := by have := h x (List.mem_of_getElem? hx); simp; omega
    walk_at "wp"
    simp only [this, Bool.false_eq_true, ↓reduceIte]
    exact k _ ⟨_, rfl⟩
  · rintro e ⟨o, rfl⟩
    exact hR
def isR (f : List Int) : Prop := f.length ≤ 64
theorem flat_len {p : Nat} : ∀ {sv : List Nat}, Sv p sv → (sv.flatMap (Rz p)).length ≤ 7 * sv.length
  | [], _ => Nat.le_refl _
  | d :: sv, s => by
    have := flat_len s.tl
    have := s.hd.all.2.2.1
    rw [List.flatMap_cons, List.length_append, List.length_cons]
    omega
theorem all_rises_spec {p : Nat} {sv : List Nat} (s : Sv p sv) (hl : sv.length ≤ 4) {R : SD → List (Option SD) → Prop} (hR : R (.o .f, iL (Zs p sv)) [none, none]) : m_all_rises [(.f, .int p), (.f, nL sv)] R := by
  refine ⟨rfl, ?_⟩
  show t_all_rises _ [(false, some (.f, .int p)), (false, some (.f, nL sv)), (false, none), (false, none), (false, none), (false, none)]
  unfold t_all_rises
  refine sq_of fun nx hk => ?_
  walk_at "wp"
  refine hk _ ?_
  clear hk nx
  refine sq_of fun nx hk => ?_
  walk_at "wp"
  refine ⟨by decide, hk _ ?_⟩
  clear hk nx
  refine sq_of fun nx hk => ?_
  walk_at "wp"
  refine frB_of (fun i e => ∃ ks o, Tb p ks ∧ e = [(false, some (.f, .int p)), (false, some (.f, nL sv)), (false, some (.o .f, .dct (tb p ks))), (false, some (.o .f, iL ((sv.take i).flatMap (Rz p)))), (false, o), (false, none)]) ⟨[], none, ⟨by simp, .nil⟩, rfl⟩ ?_ ?_
  · rintro i d e nx hn ⟨ks, o, T, rfl⟩ k
    obtain ⟨x, hx, rfl⟩ := getM hn
    have xp : PM p x := ⟨s.1.1, s.1.2, (s.2 x (List.mem_of_getElem? hx)).1, (s.2 x (List.mem_of_getElem? hx)).2⟩
    refine gn_of rfl (sq_of fun nx hk => ?_)
    have go : ∀ ks, Tb p ks → x ∈ ks → nx [(false, some (.f, .int p)), (false, some (.f, nL sv)), (false, some (.o .f, .dct (tb p ks))), (false, some (.o .f, iL ((sv.take i).flatMap (Rz p)))), (false, some (.f, nI x)), (false, none)] := by
      intro ks T m
      refine hk _ ?_
      walk_at "wp"
      refine ⟨⟨_, rfl⟩, v_ixK (by rw [tb_look, if_pos m]) ?_⟩
      walk_at "wp"
      refine ⟨?_, ?_⟩
      · have h1 : (sv.take i).length ≤ 4 := Nat.le_trans (List.length_take_le' ..) hl
        have h2 := flat_len (sv := sv.take i) ⟨s.1, fun d m => s.2 d (List.mem_of_mem_take m)⟩
        have h3 := xp.all.2.2.1
        simp only [List.length_map]
        show _ ≤ 2 ^ 24
        omega
      · refine k _ ⟨ks, some (.f, nI x), T, ?_⟩
        rw [List.take_add_one, hx]
        simp
    walk_at "wp"
    rw [tb_look]
    by_cases m : x ∈ ks
    · rw [if_pos m]
      simp only [Option.isSome_some, bne_self_eq_false, Bool.false_eq_true, ↓reduceIte]
      exact go ks T m
    · rw [if_neg m]
      simp only [Option.isSome_none, bne_iff_ne, ne_eq, Bool.true_eq_false, not_false_eq_true, ↓reduceIte]
      refine rises_spec xp ?_
      walk_at "wp"
      refine ⟨T.len, ?_⟩
      rw [tb_put m]
      exact go _ (T.add xp m) (by simp)
  · rintro e ⟨ks, o, T, rfl⟩
    refine hk _ ?_
    walk_at "wp"
    simp only [List.length_map, List.take_length]
    refine lcB_map rfl (fun d => decide (toInt d < p)) id ?_ ?_ ?_ ?_
    · have h2 := flat_len s
      simp only [List.length_map]
      show _ ≤ 2 ^ 24
      omega
    · intro d q m h
      obtain ⟨x, hx, rfl⟩ := List.mem_map.mp m
      simp only [outer, inner]
      walk_at "wp"
      exact h
    · intro d q m _ h
      obtain ⟨x, hx, rfl⟩ := List.mem_map.mp m
      simp only [outer, inner]
      walk_at "wp"
      exact h
    · simp only [List.map_id]
      have e : (List.map D.int (sv.flatMap (Rz p))).filter (fun d => decide (toInt d < p)) = ((sv.flatMap (Rz p)).filter (fun a => decide (a < (p : Int)))).map .int := by
        rw [List.filter_map]; rfl
      walk_at "wp"
      rw [e]
      refine ⟨?_, fun ns h1 h2 => ?_⟩
      · rw [List.all_eq_true]; intro d m
        obtain ⟨x, hx, rfl⟩ := List.mem_map.mp m
        rfl
      · rw [List.map_map, show toInt ∘ D.int = id from rfl, List.map_id] at h1
        rw [Zs_eq s h1 h2]
        exact hR
end DL.K82
set_option Elab.async false
set_option linter.all false
set_option maxRecDepth 100000
set_option maxHeartbeats 4000000
namespace DL.K82
open PySem PySem.Spec PyProof.Rows L2
section
variable {i j : Int} {xs : List D} {k : SD → Prop}
theorem v_max2 : rMax [.int i, .int j] k = k (.f, .int (if j > i then j else i)) := rfl
theorem v_min2 : rMin [.int i, .int j] k = k (.f, .int (if j < i then j else i)) := rfl
theorem v_lenL : rLen [.lst xs] k = k (.f, .int xs.length) := rfl
theorem v_lenT : rLen [.tup xs] k = k (.f, .int xs.length) := rfl
theorem v_listL : rList [.lst xs] k = k (.o .f, .lst xs) := rfl
theorem v_tupL : rTuple [.lst xs] k = k (.f, .tup xs) := rfl
theorem v_intI : rInt [.int i] k = k (.f, .int i) := rfl
theorem v_absI : rAbs [.int i] k = k (.f, .int (if i < 0 then -i else i)) := rfl
theorem v_sumL {ns : List Int} (h : k (.f, .int ns.sum)) : rSum [iL ns] k := by
  refine ⟨?_, ?_⟩
  · rw [List.all_eq_true]; intro d m
    obtain ⟨x, hx, rfl⟩ := List.mem_map.mp m
    rfl
  · rw [List.map_map, show toInt ∘ D.int = id from rfl, List.map_id]; exact h
end
theorem rangeD_get0 {b : Int} {n : Nat} {d : D} (h : (rangeD 0 b)[n]? = some d) : d = .int (n : Int) ∧ (n : Int) < b := by
  obtain ⟨a, b⟩ := rangeD_get h
  exact ⟨by rw [a]; simp, by omega⟩
def dueD : Option Int → D
  | some i => .int i
  | none => .non
def due (p : Nat) (sv sw : List Nat) : Option Int := if Ns p sv = Ns p sw then pt (Ps p sv) (Ps p sw) else some 0
local macro_rules | `(tactic| walk_at "wp") => `(tactic| try simp only [↓x_sq, ↓x_skp, ↓x_brk, ↓x_cnt, ↓x_nvr, ↓x_drp, ↓x_ret, ↓x_retN, ↓x_iff, ↓x_asn, ↓x_asg, ↓x_gn, ↓x_gt, ↓x_gsnil, ↓x_gscons, ↓x_aug, ↓x_setS, ↓x_augS, ↓x_cst, ↓x_rd, ↓x_mv, ↓x_bi, ↓x_tst, ↓x_tnot, ↓x_tand, ↓x_tor, ↓x_tru, ↓x_vand, ↓x_vor, ↓x_vnot, ↓x_neg, ↓x_cnd, ↓x_chn, ↓x_ixS, ↓x_ix, ↓x_lenS, ↓x_inS, ↓x_anil, ↓x_acons, ↓x_bc, ↓x_tupE, ↓x_lstE, ↓x_dctE, ↓x_dc1, ↓x_mt, ↓x_cntS, ↓x_isi, ↓x_wix, ↓x_cnil, ↓x_cva, ↓x_cln, ↓x_cl, ↓x_sl, ↓x_onil, ↓x_osm, ↓x_fr, ↓x_frn, ↓x_ilst, ↓x_irg1, ↓x_irg2, ↓x_lc, ↓x_lcn, ↓look0, ↓lookS, ↓pin0, ↓pinS, ↓put0, ↓putSS, ↓set0, ↓setSu, ↓v_add, ↓v_addL, ↓v_addT, ↓v_mul, ↓v_mulL, ↓v_J, ↓v_I, ↓v_eq, ↓v_ne, ↓v_is, ↓v_isN, ↓v_isi, ↓v_isn, e_int, e_ni, e_in, e_nn, ↓f_int, ↓f_non, ↓f_bl, true_and, and_true, eq_self, ↓reduceIte, Bool.not_true, Bool.not_false, Bool.false_eq_true, List.map_cons, List.map_nil, List.length_cons, List.length_nil, Option.isSome_some, lendA, backA, okB, Option.map_some, isF, Bool.not_false, Bool.not_true, peek, lenD, itemsOf, lstOf, seqOf, backs, v_inK, v_setK, v_max2, v_min2, v_lenL, v_lenT, v_listL, v_tupL, v_intI, v_absI])
theorem sv_le {p : Nat} {sv : List Nat} (s : Sv p sv) : ∀ d ∈ sv, ¬ (60 : Int) < (d : Int) := fun d m => by have := (s.2 d m).2; omega
theorem gr_cons {p x : Int} {xs : List Int} {l : Int} : gr p (x :: xs) l = if l < x then 0 else 1 + gr p xs (l - x) := rfl
theorem longest_spec {p : Nat} {sv : List Nat} (s : Sv p sv) (hs : sv ≠ []) (hl : sv.length ≤ 4) {q : Int} (q0 : 0 ≤ q) (q4 : q ≤ 40) {R : SD → List (Option SD) → Prop} (hR : R (.f, .int (Ns p sv + gr p (Ps p sv) q)) [none, none, none]) : m_longest_evening [(.f, .int p), (.f, nL sv), (.f, .int q)] R := by
  have p1 := s.1.1
  have p6 := s.1.2
  refine ⟨rfl, ?_⟩
  show t_longest_evening _ [(false, some (.f, .int p)), (false, some (.f, nL sv)), (false, some (.f, .int q)), (false, none), (false, none), (false, none)]
  unfold t_longest_evening
  refine sq_of fun nx hk => ?_
  walk_at "wp"
  refine check_spec rfl (by omega) ?_
  walk_at "wp"
  refine hk _ ?_
  clear hk nx
  refine sq_of fun nx hk => ?_
  walk_at "wp"
  refine check_each_spec rfl (sv_le s) ?_
  walk_at "wp"
  refine hk _ ?_
  clear hk nx
  refine sq_of fun nx hk => ?_
  walk_at "wp"
  refine check_spec rfl (by omega) ?_
  walk_at "wp"
  refine hk _ ?_
  clear hk nx
  refine sq_of fun nx hk => ?_
  walk_at "wp"
  refine check_spec rfl (by simp; omega) ?_
  walk_at "wp"
  refine hk _ ?_
  clear hk nx
  refine sq_of fun nx hk => ?_
  walk_at "wp"
  rw [show decide ((p : Int) < 1) = false by simp; omega]
  simp only [Bool.false_eq_true, ↓reduceIte]
  refine hk _ ?_
  clear hk nx
  refine sq_of fun nx hk => ?_
  walk_at "wp"
  rw [show decide (q < 0) = false by simp; omega]
  simp only [Bool.false_eq_true, ↓reduceIte]
  refine hk _ ?_
  clear hk nx
  refine sq_of fun nx hk => ?_
  walk_at "wp"
  refine check_servings_spec hs (fun d m => (s.2 d m).1) ?_
  walk_at "wp"
  refine hk _ ?_
  clear hk nx
  refine sq_of fun nx hk => ?_
  walk_at "wp"
  refine hk _ ?_
  clear hk nx
  refine sq_of fun nx hk => ?_
  walk_at "wp"
  refine hk _ ?_
  clear hk nx
  refine sq_of fun nx hk => ?_
  walk_at "wp"
  refine all_rises_spec s hl ?_
  walk_at "wp"
  rw [← gr_Zs s q0] at hR
  refine frB_of (fun i e => ∃ n l o, 0 ≤ l ∧ n + gr p ((Zs p sv).drop i) l = sv.length + gr p (Zs p sv) q ∧ e = [(false, some (.f, .int p)), (false, some (.f, nL sv)), (false, some (.f, .int q)), (false, some (.f, .int n)), (false, some (.f, .int l)), (false, o)]) ⟨sv.length, q, none, q0, rfl, by simp⟩ ?_ ?_
  · rintro i d e nx2 hn ⟨n, l, o, l0, g, rfl⟩ k
    obtain ⟨x, hx, rfl⟩ := getM hn
    obtain ⟨hi, hx⟩ := List.getElem?_eq_some_iff.mp hx
    rw [List.drop_eq_getElem_cons hi, hx] at g
    rw [gr_cons] at g
    refine gn_of rfl (sq_of fun nx3 hk3 => ?_)
    walk_at "wp"
    by_cases h : l < x
    · rw [decide_eq_true h]
      simp only [↓reduceIte]
      rw [if_pos h] at g
      rw [show n = sv.length + gr p (Zs p sv) q by omega]
      exact hR
    · rw [decide_eq_false h]
      simp only [Bool.false_eq_true, ↓reduceIte]
      rw [if_neg h] at g
      refine hk3 _ ?_
      walk_at "wp"
      exact k _ ⟨n + 1, l - x, some (.f, .int x), by omega, by omega, rfl⟩
  · rintro e ⟨n, l, o, l0, g, rfl⟩
    rw [List.length_map, List.drop_length] at g
    refine hk _ ?_
    walk_at "wp"
    refine ⟨⟨by omega, by omega⟩, ?_⟩
    rw [show n + l.fdiv p = sv.length + gr p (Zs p sv) q from g]
    exact hR
theorem filt_ints {ns : List Int} {f : Int → Bool} : (ns.map D.int).filter (fun d => f (toInt d)) = (ns.filter f).map .int := by rw [List.filter_map]; rfl
theorem Ps_len {p : Nat} {sv : List Nat} (s : Sv p sv) (hl : sv.length ≤ 4) : (Ps p sv).length ≤ 28 := by
  have h2 := flat_len s
  have h3 := (Zs_perm (p := p) (sv := sv)).length_eq
  have := List.length_filter_le (fun a => decide (a < (p : Int))) (sv.flatMap (Rz p))
  have := List.length_filter_le (fun a => decide (0 < a)) (Zs p sv)
  unfold Ps
  omega
theorem max_nat {a b : Nat} : (if (b : Int) > (a : Int) then (b : Int) else (a : Int)) = ((max a b : Nat) : Int) := by split <;> omega
theorem at_i {A : List Int} {i : Nat} (h : i < A.length) {k : SD → Prop} (q : k (.f, .int A[i])) : ixD (iL A) (.int (i : Int)) k := v_ixL (atI_nat (by rw [List.getElem?_map, List.getElem?_eq_getElem h]; rfl)) q
theorem pt_cons {x y : Int} {xs ys : List Int} : pt (x :: xs) (y :: ys) = if x = y then (pt xs ys).map (x + ·) else some (min x y) := rfl
theorem pt_step {A B : List Int} {i : Nat} {a : Int} (hA : i < A.length) (hB : i < B.length) (h : (pt (A.drop i) (B.drop i)).map (a + ·) = pt A B) : if A[i] = B[i] then (pt (A.drop (i + 1)) (B.drop (i + 1))).map (a + A[i] + ·) = pt A B else pt A B = some (a + min A[i] B[i]) := by
  rw [List.drop_eq_getElem_cons hA, List.drop_eq_getElem_cons hB, pt_cons] at h
  split
  · rename_i e
    rw [if_pos e] at h
    rw [← h]
    cases pt (A.drop (i + 1)) (B.drop (i + 1)) with
    | none => rfl
    | some x => simp; omega
  · rename_i e
    rw [if_neg e] at h
    exact h.symm
theorem pt_endA {A B : List Int} {i : Nat} {a : Int} (hA : A.length ≤ i) (hB : i < B.length) (h : (pt (A.drop i) (B.drop i)).map (a + ·) = pt A B) : pt A B = some (a + B[i]) := by
  rw [List.drop_eq_nil_of_le hA, List.drop_eq_getElem_cons hB] at h
  exact h.symm
theorem pt_endB {A B : List Int} {i : Nat} {a : Int} (hA : i < A.length) (hB : B.length ≤ i) (h : (pt (A.drop i) (B.drop i)).map (a + ·) = pt A B) : pt A B = some (a + A[i]) := by
  rw [List.drop_eq_nil_of_le hB, List.drop_eq_getElem_cons hA] at h
  exact h.symm
theorem part_spec {p : Nat} {sv sw : List Nat} (s : Sv p sv) (t : Sv p sw) (hs : sv ≠ []) (ht : sw ≠ []) (hl : sv.length ≤ 4) (hm : sw.length ≤ 4) {R : SD → List (Option SD) → Prop} (hR : R (.f, dueD (due p sv sw)) [none, none, none]) : m_parting_purse [(.f, .int p), (.f, nL sv), (.f, nL sw)] R := by
  have p1 := s.1.1
  have p6 := s.1.2
  refine ⟨rfl, ?_⟩
  show t_parting_purse _ [(false, some (.f, .int p)), (false, some (.f, nL sv)), (false, some (.f, nL sw)), (false, none), (false, none), (false, none), (false, none), (false, none), (false, none), (false, none)]
  unfold t_parting_purse
  refine sq_of fun nx hk => ?_
  walk_at "wp"
  refine check_spec rfl (by omega) ?_
  walk_at "wp"
  refine hk _ ?_
  clear hk nx
  refine sq_of fun nx hk => ?_
  walk_at "wp"
  refine check_each_spec rfl (sv_le s) ?_
  walk_at "wp"
  refine hk _ ?_
  clear hk nx
  refine sq_of fun nx hk => ?_
  walk_at "wp"
  refine check_each_spec rfl (sv_le t) ?_
  walk_at "wp"
  refine hk _ ?_
  clear hk nx
  refine sq_of fun nx hk => ?_
  walk_at "wp"
  refine check_spec rfl (by simp; omega) ?_
  walk_at "wp"
  refine hk _ ?_
  clear hk nx
  refine sq_of fun nx hk => ?_
  walk_at "wp"
  refine check_spec rfl (by simp; omega) ?_
  walk_at "wp"
  refine hk _ ?_
  clear hk nx
  refine sq_of fun nx hk => ?_
  walk_at "wp"
  rw [show decide ((p : Int) < 1) = false by simp; omega]
  simp only [Bool.false_eq_true, ↓reduceIte]
  refine hk _ ?_
  clear hk nx
  refine sq_of fun nx hk => ?_
  walk_at "wp"
  refine check_servings_spec hs (fun d m => (s.2 d m).1) ?_
  walk_at "wp"
  refine hk _ ?_
  clear hk nx
  refine sq_of fun nx hk => ?_
  walk_at "wp"
  refine check_servings_spec ht (fun d m => (t.2 d m).1) ?_
  walk_at "wp"
  refine hk _ ?_
  clear hk nx
  refine sq_of fun nx hk => ?_
  walk_at "wp"
  refine all_rises_spec s hl ?_
  walk_at "wp"
  refine hk _ ?_
  clear hk nx
  refine sq_of fun nx hk => ?_
  walk_at "wp"
  refine all_rises_spec t hm ?_
  walk_at "wp"
  refine hk _ ?_
  clear hk nx
  have ai : ∀ ns : List Int, (ns.map D.int).all isInt = true := fun ns => by
    rw [List.all_eq_true]; intro d m
    obtain ⟨x, hx, rfl⟩ := List.mem_map.mp m
    rfl
  have ti : ∀ ns : List Int, (ns.map D.int).map toInt = ns := fun ns => by rw [List.map_map, show toInt ∘ D.int = id from rfl, List.map_id]
  refine sq_of fun nx hk => ?_
  walk_at "wp"
  refine ⟨⟨_, _, rfl, rfl⟩, ai _, ⟨_, _, rfl, rfl⟩, ai _, ?_⟩
  rw [ti, ti]
  simp only [List.length_map]
  unfold due at hR
  by_cases hN : Ns p sv = Ns p sw
  · rw [if_pos hN] at hR
    rw [show decide ((sv.length : Int) + ((Zs p sv).count 0 : Nat) = (sw.length : Int) + ((Zs p sw).count 0 : Nat)) = true by unfold Ns at hN; rw [decide_eq_true_eq]; omega]
    simp only [Bool.not_true, Bool.false_eq_true, ↓reduceIte]
    refine hk _ ?_
    clear hk nx
    refine sq_of fun nx hk => ?_
    walk_at "wp"
    refine lcB_map rfl (fun d => decide (0 < toInt d)) id ?_ ?_ ?_ ?_
    · have h2 := flat_len s
      have h3 := Zs_perm (p := p) (sv := sv)
      have := h3.length_eq
      have := List.length_filter_le (fun a => decide (a < (p : Int))) (sv.flatMap (Rz p))
      simp only [List.length_map]
      show _ ≤ 2 ^ 24
      omega
    · intro d q m h
      obtain ⟨x, hx, rfl⟩ := List.mem_map.mp m
      simp only [outer, inner]
      walk_at "wp"
      exact h
    · intro d q m _ h
      obtain ⟨x, hx, rfl⟩ := List.mem_map.mp m
      simp only [outer, inner]
      walk_at "wp"
      exact h
    rw [List.map_id, filt_ints (f := fun a => decide (0 < a))]
    walk_at "wp"
    refine hk _ ?_
    clear hk nx
    refine sq_of fun nx hk => ?_
    walk_at "wp"
    refine lcB_map rfl (fun d => decide (0 < toInt d)) id ?_ ?_ ?_ ?_
    · have h2 := flat_len t
      have h3 := Zs_perm (p := p) (sv := sw)
      have := h3.length_eq
      have := List.length_filter_le (fun a => decide (a < (p : Int))) (sw.flatMap (Rz p))
      simp only [List.length_map]
      show _ ≤ 2 ^ 24
      omega
    · intro d q m h
      obtain ⟨x, hx, rfl⟩ := List.mem_map.mp m
      simp only [outer, inner]
      walk_at "wp"
      exact h
    · intro d q m _ h
      obtain ⟨x, hx, rfl⟩ := List.mem_map.mp m
      simp only [outer, inner]
      walk_at "wp"
      exact h
    rw [List.map_id, filt_ints (f := fun a => decide (0 < a))]
    walk_at "wp"
    refine hk _ ?_
    clear hk nx
    refine sq_of fun nx hk => ?_
    walk_at "wp"
    refine hk _ ?_
    clear hk nx
    refine sq_of fun nx hk => ?_
    walk_at "wp"
    rw [show (Zs p sv).filter (fun a => decide (0 < a)) = Ps p sv from rfl, show (Zs p sw).filter (fun a => decide (0 < a)) = Ps p sw from rfl]
    have iA := Ps_in s
    have iB := Ps_in t
    have lA := Ps_len s hl
    have lB := Ps_len t hm
    generalize Ps p sv = A at hR iA lA ⊢
    generalize Ps p sw = B at hR iB lB ⊢
    simp only [List.length_map]
    rw [max_nat]
    refine ⟨by omega, by omega, ?_⟩
    refine frB_of (fun i e => ∃ a o6 o7 o8, i ≤ A.length ∧ i ≤ B.length ∧ (pt (A.drop i) (B.drop i)).map (a + ·) = pt A B ∧ e = [(false, some (.f, .int p)), (false, some (.f, nL sv)), (false, some (.f, nL sw)), (false, some (.o .f, iL A)), (false, some (.o .f, iL B)), (false, some (.f, .int a)), (false, o6), (false, o7), (false, o8), (false, none)]) ⟨0, none, none, none, Nat.zero_le _, Nat.zero_le _, by simp, rfl⟩ ?_ ?_
    · rintro i d e nx2 hn ⟨a, o6, o7, o8, hA, hB, hp, rfl⟩ k
      obtain ⟨rfl, hi⟩ := rangeD_get0 hn
      have go : ∀ x y : Int, (A[i]?.getD p = x) → (B[i]?.getD p = y) → (if x = y then (pt (A.drop (i + 1)) (B.drop (i + 1))).map (a + x + ·) = pt A B ∧ i < A.length ∧ i < B.length else pt A B = some (a + min x y)) := by
        intro x y hx hy
        by_cases iA' : i < A.length
        · rw [List.getElem?_eq_getElem iA'] at hx
          by_cases iB' : i < B.length
          · rw [List.getElem?_eq_getElem iB'] at hy
            have := pt_step iA' iB' hp
            simp only [Option.getD_some] at hx hy
            rw [hx, hy] at this
            split
            · rename_i e; rw [if_pos e] at this; exact ⟨this, iA', iB'⟩
            · rename_i e; rw [if_neg e] at this; exact this
          · rw [List.getElem?_eq_none (by omega)] at hy
            have := pt_endB iA' (by omega) hp
            simp only [Option.getD_some, Option.getD_none] at hx hy
            have h3 := (iA A[i] (List.getElem_mem iA')).2
            rw [if_neg (by omega), this, hx, ← hy]
            congr 1
            omega
        · rw [List.getElem?_eq_none (by omega)] at hx
          have iB' : i < B.length := by omega
          rw [List.getElem?_eq_getElem iB'] at hy
          have := pt_endA (by omega) iB' hp
          simp only [Option.getD_some, Option.getD_none] at hx hy
          have h3 := (iB B[i] (List.getElem_mem iB')).2
          rw [if_neg (by omega), this, hy, ← hx]
          congr 1
          omega
      have fx : ∀ (C : List Int) (k : SD → Prop), k (.f, .int (C[i]?.getD p)) → (if decide ((i : Int) < (C.length : Int)) = true then ixD (iL C) (.int (i : Int)) k else k (.f, .int p)) := by
        intro C k h
        by_cases iC : i < C.length
        · rw [if_pos (by simpa using iC)]
          rw [List.getElem?_eq_getElem iC] at h
          exact at_i iC h
        · rw [if_neg (by simpa using iC)]
          rw [List.getElem?_eq_none (by omega)] at h
          exact h
      refine gn_of rfl (sq_of fun nx3 hk3 => ?_)
      walk_at "wp"
      simp only [List.length_map]
      refine fx A _ ?_
      walk_at "wp"
      refine hk3 _ ?_
      clear hk3 nx3
      refine sq_of fun nx3 hk3 => ?_
      walk_at "wp"
      simp only [List.length_map]
      refine fx B _ ?_
      walk_at "wp"
      refine hk3 _ ?_
      clear hk3 nx3
      generalize hx : A[i]?.getD (p : Int) = x
      generalize hy : B[i]?.getD (p : Int) = y
      have g := go x y hx hy
      walk_at "wp"
      rw [show (if y < x then y else x) = min x y by split <;> omega]
      by_cases e : x = y
      · rw [if_pos e] at g
        subst e
        simp only [decide_true, Bool.not_true, Bool.false_eq_true, ↓reduceIte]
        exact k _ ⟨_, _, _, _, g.2.1, g.2.2, by rw [← g.1, Int.min_self], rfl⟩
      · rw [if_neg e] at g
        rw [decide_eq_false e]
        simp only [Bool.not_false, ↓reduceIte]
        rw [g] at hR
        exact hR
    · rintro e ⟨a, o6, o7, o8, hA, hB, hp, rfl⟩
      rw [rangeD_len] at hA hB hp
      refine hk _ ?_
      walk_at "wp"
      rw [List.drop_eq_nil_of_le (by omega), List.drop_eq_nil_of_le (by omega)] at hp
      rw [show pt A B = none from hp.symm] at hR
      exact hR
  · rw [if_neg hN] at hR
    rw [show decide ((sv.length : Int) + ((Zs p sv).count 0 : Nat) = (sw.length : Int) + ((Zs p sw).count 0 : Nat)) = false by unfold Ns at hN; rw [decide_eq_false_iff_not]; omega]
    simp only [Bool.not_false, ↓reduceIte]
    exact hR
end DL.K82
set_option Elab.async false
set_option linter.all false
set_option maxRecDepth 100000
set_option maxHeartbeats 4000000
namespace DL.K82
open PySem PySem.Spec PyProof.Rows L2
section
variable {x y z v : D} {k : SD → Prop} {q : D → Prop}
theorem ix30 : ixD (.lst [x, y, z]) (.int 0) k = k (.f, x) := rfl
theorem ix31 : ixD (.lst [x, y, z]) (.int 1) k = k (.f, y) := rfl
theorem ix32 : ixD (.lst [x, y, z]) (.int 2) k = k (.f, z) := rfl
theorem st30 : setD (.lst [x, y, z]) (.int 0) v q = q (.lst [v, y, z]) := rfl
theorem st31 : setD (.lst [x, y, z]) (.int 1) v q = q (.lst [x, v, z]) := rfl
theorem st32 : setD (.lst [x, y, z]) (.int 2) v q = q (.lst [x, y, v]) := rfl
theorem ix20 : ixD (.tup [x, y]) (.int 0) k = k (.f, x) := rfl
theorem ix21 : ixD (.tup [x, y]) (.int 1) k = k (.f, y) := rfl
end
theorem v_ixR {i : Int} {xs : List D} {x : D} {k : SD → Prop} (h : atI xs i = some x) (q : k (.f, x)) : ixD (.ro xs) (.int i) k := by
  show (match atI xs i with | some x => k (.f, x) | none => False)
  rw [h]; exact q
theorem slR {xs : List D} {a b : Option Int} {k : SD → Prop} : slD (.ro xs) a b k = k (.o .f, .lst (cutL xs a b)) := rfl
theorem cutI {ns : List Int} {k : Nat} : cutL (ns.map D.int) none (some (k : Int)) = (ns.take k).map .int := by
  unfold cutL
  rw [HT.sIx_none, HT.sIx_nat, List.drop_zero, Nat.sub_zero, List.length_map, List.map_take]
  rcases Nat.le_total k ns.length with h | h
  · rw [Nat.min_eq_left h]
  · rw [Nat.min_eq_right h, List.take_of_length_le (by simp), List.take_of_length_le (by simpa using h)]
theorem cutI4 {ns : List Int} : cutL (ns.map D.int) none (some 4) = (ns.take 4).map .int := cutI (k := 4)
theorem v_pop {ds : List D} {j : Nat} {y : D} {k : D → List D → Prop} (h : ds[j]? = some y) (hb : (j : Int) < 2 ^ 62) (q : k y (ds.eraseIdx j)) : rPop ds [.int (j : Int)] k := by
  have hj := (List.getElem?_eq_some_iff.mp h).1
  show (match ixN ds.length (j : Int) with | some j' => (match ds[j']? with | some y => -(2 ^ 63) ≤ (j : Int) ∧ (j : Int) < 2 ^ 63 ∧ k y (ds.eraseIdx j') | none => False) | none => False)
  have : ixN ds.length (j : Int) = some j := by unfold ixN; rw [if_pos (by omega), if_pos (by omega)]; rfl
  rw [this]
  show (match ds[j]? with | some y => -(2 ^ 63) ≤ (j : Int) ∧ (j : Int) < 2 ^ 63 ∧ k y (ds.eraseIdx j) | none => False)
  rw [h]
  exact ⟨by omega, by omega, q⟩
theorem eraseIdx_map {α β : Type} {f : α → β} : ∀ {l : List α} {j : Nat}, (l.map f).eraseIdx j = (l.eraseIdx j).map f
  | [], j => by simp
  | a :: l, 0 => rfl
  | a :: l, j + 1 => by
    rw [List.map_cons, List.eraseIdx_cons_succ, List.eraseIdx_cons_succ, List.map_cons, eraseIdx_map]
abbrev stL (a b c : Int) : D := .lst [.int a, .int b, .int c]
local macro_rules | `(tactic| walk_at "wp") => `(tactic| try simp only [↓x_sq, ↓x_skp, ↓x_brk, ↓x_cnt, ↓x_nvr, ↓x_drp, ↓x_ret, ↓x_retN, ↓x_iff, ↓x_asn, ↓x_asg, ↓x_gn, ↓x_gt, ↓x_gsnil, ↓x_gscons, ↓x_aug, ↓x_setS, ↓x_augS, ↓x_cst, ↓x_rd, ↓x_mv, ↓x_bi, ↓x_tst, ↓x_tnot, ↓x_tand, ↓x_tor, ↓x_tru, ↓x_vand, ↓x_vor, ↓x_vnot, ↓x_neg, ↓x_cnd, ↓x_chn, ↓x_ixS, ↓x_ix, ↓x_lenS, ↓x_inS, ↓x_anil, ↓x_acons, ↓x_bc, ↓x_tupE, ↓x_lstE, ↓x_dctE, ↓x_dc1, ↓x_mt, ↓x_cntS, ↓x_isi, ↓x_wix, ↓x_cnil, ↓x_cva, ↓x_cln, ↓x_cl, ↓x_sl, ↓x_onil, ↓x_osm, ↓x_fr, ↓x_frn, ↓x_ilst, ↓x_irg1, ↓x_irg2, ↓x_lc, ↓x_lcn, ↓look0, ↓lookS, ↓pin0, ↓pinS, ↓put0, ↓putSS, ↓set0, ↓setSu, ↓v_add, ↓v_addL, ↓v_addT, ↓v_mul, ↓v_mulL, ↓v_J, ↓v_I, ↓v_eq, ↓v_ne, ↓v_is, ↓v_isN, ↓v_isi, ↓v_isn, e_int, e_ni, e_in, e_nn, ↓f_int, ↓f_non, ↓f_bl, true_and, and_true, eq_self, ↓reduceIte, Bool.not_true, Bool.not_false, Bool.false_eq_true, List.map_cons, List.map_nil, List.length_cons, List.length_nil, Option.isSome_some, lendA, backA, okB, Option.map_some, isF, Bool.not_false, Bool.not_true, peek, lenD, itemsOf, lstOf, seqOf, backs, v_inK, v_setK, v_max2, v_min2, v_lenL, v_lenT, v_listL, v_tupL, v_intI, v_absI, ix30, ix31, ix32, st30, st31, st32, ix20, ix21, decide_true, decide_false, List.getElem?_cons_zero, List.getElem?_cons_succ, Bool.and_true])
theorem fmod_in {a m : Int} (h : 0 < m) : 0 ≤ a.fmod m ∧ a.fmod m < m := ⟨Int.fmod_nonneg_of_pos a h, Int.fmod_lt_of_pos a h⟩
theorem draw_spec {a b c m : Int} (h1 : 0 < m) (h2 : m < 2 ^ 30) {R : SD → List (Option SD) → Prop} (hR : ∀ r a b c, 0 ≤ r → r < m → R (.f, .int r) [some (.o .f, stL a b c), none]) : m_l_draw [(.o .f, stL a b c), (.f, .int m)] R := by
  refine ⟨rfl, ?_⟩
  show t_l_draw _ [(true, some (.o .f, stL a b c)), (false, some (.f, .int m)), (false, none)]
  unfold t_l_draw
  have C : ∀ i : Int, CMul i 48271 := fun i => .inr (by decide)
  have C2 : ∀ i : Int, CMul i 69621 := fun i => .inr (by decide)
  have C3 : ∀ i : Int, CMul i 16807 := fun i => .inr (by decide)
  have C4 : ∀ i : Int, CMul i 7919 := fun i => .inr (by decide)
  refine sq_of fun nx hk => ?_
  walk_at "wp"
  have nz : m ≠ 0 := by omega
  by_cases h : 0 < a
  · rw [decide_eq_true h]
    simp only [↓reduceIte]
    refine ⟨nz, ?_⟩
    walk_at "wp"
    refine ⟨⟨nz, by omega⟩, ?_⟩
    exact hR _ _ _ _ (fmod_in h1).1 (fmod_in h1).2
  · rw [decide_eq_false h]
    simp only [Bool.false_eq_true, ↓reduceIte]
    refine hk _ ?_
    walk_at "wp"
    simp [C, C2, C3, C4]
    refine ⟨⟨by decide, by decide⟩, nz, ?_⟩
    exact hR _ _ _ _ (fmod_in h1).1 (fmod_in h1).2
theorem stock_spec {ns : List Int} {t : Int} (t0 : 0 ≤ t) {R : SD → List (Option SD) → Prop} (hR : ∀ a b c, R (.o .f, stL a b c) [none, none]) : m_l_stock [(.f, .ro (ns.map .int)), (.f, .int t)] R := by
  refine ⟨rfl, ?_⟩
  show t_l_stock _ [(false, some (.f, .ro (ns.map .int))), (false, some (.f, .int t)), (false, none), (false, none), (false, none)]
  unfold t_l_stock
  have C1 : ∀ i : Int, CMul 31 i := fun i => .inl (by decide)
  have C2 : ∀ i : Int, CMul 2 i := fun i => .inl (by decide)
  have C3 : ∀ i : Int, CMul i 104729 := fun i => .inr (by decide)
  have fin : ∀ cell : Int, ∀ o, (sq (asn 3 (bi rAdd (bi rMul (cst (.int 2)) (bc rAbs (acons (rd 2) anil))) (cnd (tst (bi rLt (rd 2) (cst (.int 0)))) (cst (.int 1)) (cst (.int 0)))))
      (ret (lstE (acons (cnd (tst (bi rGe (rd 3) (bi rPow (cst (.int 10)) (cst (.int 18))))) (rd 3) (cst (.int 0))) (acons (bi rMod (bc rInt (acons (bi rAdd (bi rAdd (rd 3) (bi rMul (rd 1) (cst (.int 104729)))) (cst (.int 12345))) anil)) (cst (.int 2147483629))) (acons (rd 1) anil))))))
      { nx := fun e => R (Sh.f, D.non) (backs [(Sh.f, D.ro (ns.map .int)), (Sh.f, D.int t)] e), rt := fun sd e => R sd (backs [(Sh.f, D.ro (ns.map .int)), (Sh.f, D.int t)] e) } [(false, some (.f, .ro (ns.map .int))), (false, some (.f, .int t)), (false, some (.f, .int cell)), (false, none), (false, o)] := by
    intro cell o
    refine sq_of fun nx hk => ?_
    walk_at "wp"
    refine ⟨C2 _, ?_⟩
    generalize (if cell < 0 then -cell else cell) = ab
    generalize decide (cell < 0) = b
    cases b
    all_goals
      simp only [Bool.false_eq_true, ↓reduceIte]
      refine hk _ ?_
      walk_at "wp"
      refine ⟨by unfold CPow; decide, ?_⟩
      generalize decide ((10 : Int) ^ Int.toNat 18 ≤ _) = b
      cases b
      all_goals
        simp only [Bool.false_eq_true, ↓reduceIte]
        refine ⟨C3 _, by decide, by decide, ?_⟩
        exact hR _ _ _
  refine sq_of fun nx hk => ?_
  walk_at "wp"
  simp only [List.length_map]
  by_cases h : t < (ns.length : Int)
  · rw [decide_eq_true h]
    simp only [↓reduceIte]
    obtain ⟨n, rfl⟩ := Int.eq_ofNat_of_zero_le t0
    have hn : n < ns.length := by omega
    refine v_ixR (x := .int ns[n]) (atI_nat (by rw [List.getElem?_map, List.getElem?_eq_getElem hn]; rfl)) ?_
    walk_at "wp"
    exact hk _ (fin _ _)
  · rw [decide_eq_false h]
    simp only [Bool.false_eq_true, ↓reduceIte]
    rw [slR, cutI4]
    walk_at "wp"
    refine lcB_map rfl (fun _ => true) (fun d => .int ((toInt d).fmod 1000003)) ?_ ?_ ?_ ?_
    · rw [List.length_map, List.length_take]
      show _ ≤ 2 ^ 24
      omega
    · intro d q m h
      obtain ⟨x, hx, rfl⟩ := List.mem_map.mp m
      simp only [outer, inner]
      walk_at "wp"
      exact h
    · intro d q m _ h
      obtain ⟨x, hx, rfl⟩ := List.mem_map.mp m
      simp only [outer, inner]
      walk_at "wp"
      refine ⟨by decide, ?_⟩
      exact h
    · have e : ((ns.take 4).map D.int).filter (fun _ => true) = (ns.take 4).map D.int := List.filter_eq_self.mpr fun _ _ => rfl
      rw [e, List.map_map]
      walk_at "wp"
      rw [show ((fun d => D.int ((toInt d).fmod 1000003)) ∘ D.int) = D.int ∘ (fun i : Int => i.fmod 1000003) from rfl, ← List.map_map]
      refine v_sumL ?_
      walk_at "wp"
      exact ⟨C1 _, hk _ (fin _ _)⟩
theorem mix_spec {a b c : Int} {sv : List Nat} (hl : sv.length ≤ 100) {R : SD → List (Option SD) → Prop} (hR : ∀ a b c (sw : List Nat), sw.length = sv.length → (∀ d ∈ sw, d ∈ sv) → R (.o .f, nL sw) [some (.o .f, stL a b c), none]) : m_l_mix [(.o .f, stL a b c), (.f, nL sv)] R := by
  refine ⟨rfl, ?_⟩
  show t_l_mix _ [(true, some (.o .f, stL a b c)), (false, some (.f, nL sv)), (false, none), (false, none), (false, none)]
  unfold t_l_mix
  refine sq_of fun nx hk => ?_
  walk_at "wp"
  refine hk _ ?_
  clear hk nx
  refine sq_of fun nx hk => ?_
  walk_at "wp"
  refine ⟨by decide, hk _ ?_⟩
  clear hk nx
  refine sq_of fun nx hk => ?_
  walk_at "wp"
  simp only [List.length_map]
  refine ⟨by omega, by omega, ?_⟩
  refine frB_of (fun i e => ∃ a b c l m o, m.length = i ∧ l.length + i = sv.length ∧ (∀ d ∈ l, d ∈ sv) ∧ (∀ d ∈ m, d ∈ sv) ∧ e = [(true, some (.o .f, stL a b c)), (false, some (.f, nL sv)), (false, some (.o .f, nL l)), (false, some (.o .f, nL m)), (false, o)]) ⟨a, b, c, sv, [], none, rfl, rfl, fun _ h => h, by simp, rfl⟩ ?_ ?_
  · rintro i d e nx2 hn ⟨a, b, c, l, m, o, h1, h2, h3, h4, rfl⟩ k
    obtain ⟨rfl, hi⟩ := rangeD_get0 hn
    walk_at "wp"
    refine ⟨⟨_, rfl⟩, ⟨_, rfl⟩, ?_⟩
    simp only [List.length_map]
    refine draw_spec (by omega) (by omega) fun r a b c r0 r1 => ?_
    walk_at "wp"
    obtain ⟨j, rfl⟩ := Int.eq_ofNat_of_zero_le r0
    have hj : j < l.length := by omega
    refine v_pop (j := j) (y := nI l[j]) (by rw [List.getElem?_map, List.getElem?_eq_getElem hj]; rfl) (by omega) ?_
    walk_at "wp"
    refine ⟨?_, ?_⟩
    · rw [List.length_map]; show _ < 2 ^ 24; omega
    · refine k _ ⟨a, b, c, l.eraseIdx j, m ++ [l[j]], some (.f, .int i), by simp [h1], ?_, ?_, ?_, ?_⟩
      · have := List.length_eraseIdx_of_lt hj; omega
      · exact fun d hd => h3 d (List.mem_of_mem_eraseIdx hd)
      · intro d hd
        rcases List.mem_append.mp hd with hd | hd
        · exact h4 d hd
        · rw [List.mem_singleton.mp hd]; exact h3 _ (List.getElem_mem hj)
      · simp [eraseIdx_map]
  · rintro e ⟨a, b, c, l, m, o, h1, h2, h3, h4, rfl⟩
    rw [rangeD_len] at h1
    refine hk _ ?_
    walk_at "wp"
    exact hR _ _ _ m (by omega) h4
theorem matches_int {n : Nat} {i j : Int} {R : SD → List (Option SD) → Prop} (hR : R (.f, .bl (decide (i = j))) [none, none]) : m_l_matches_ (n + 1) [(.f, .int i), (.f, .int j)] R := by
  refine ⟨rfl, ?_⟩
  show t_l_matches (m_l_matches_ n) _ [(false, some (.f, .int i)), (false, some (.f, .int j)), (false, none), (false, none)]
  unfold t_l_matches
  refine sq_of fun nx hk => ?_
  walk_at "wp"
  refine hk _ ?_
  clear hk nx
  refine sq_of fun nx hk => ?_
  walk_at "wp"
  simp only [isB, beq_self_eq_true, String.reduceBEq, Bool.false_eq_true, ↓reduceIte]
  refine hk _ ?_
  clear hk nx
  refine sq_of fun nx hk => ?_
  walk_at "wp"
  simp only [isB, beq_self_eq_true, String.reduceBEq, Bool.false_eq_true, ↓reduceIte]
  walk_at "wp"
  exact hR
theorem matches_non {n : Nat} {R : SD → List (Option SD) → Prop} (hR : R (.f, .bl true) [none, none]) : m_l_matches_ (n + 1) [(.f, .non), (.f, .non)] R := by
  refine ⟨rfl, ?_⟩
  show t_l_matches (m_l_matches_ n) _ [(false, some (.f, .non)), (false, some (.f, .non)), (false, none), (false, none)]
  unfold t_l_matches
  refine sq_of fun nx hk => ?_
  walk_at "wp"
  exact hR
theorem matches_due {n : Nat} {d : Option Int} {R : SD → List (Option SD) → Prop} (hR : R (.f, .bl true) [none, none]) : m_l_matches_ (n + 1) [(.f, dueD d), (.f, dueD d)] R := by
  cases d with
  | none => exact matches_non hR
  | some i => exact matches_int (by rw [decide_eq_true rfl]; exact hR)
theorem matches_list {n : Nat} {ns : List Int} (hl : ns.length ≤ 1000) {R : SD → List (Option SD) → Prop} (hR : R (.f, .bl true) [none, none]) : m_l_matches_ (n + 2) [(.f, iL ns), (.f, iL ns)] R := by
  refine ⟨rfl, ?_⟩
  show t_l_matches (m_l_matches_ (n + 1)) _ [(false, some (.f, iL ns)), (false, some (.f, iL ns)), (false, none), (false, none)]
  unfold t_l_matches
  refine sq_of fun nx hk => ?_
  walk_at "wp"
  refine hk _ ?_
  clear hk nx
  refine sq_of fun nx hk => ?_
  walk_at "wp"
  simp only [isB, beq_self_eq_true, String.reduceBEq, Bool.false_eq_true, ↓reduceIte]
  refine hk _ ?_
  clear hk nx
  refine sq_of fun nx hk => ?_
  walk_at "wp"
  simp only [isB, beq_self_eq_true, String.reduceBEq, Bool.false_eq_true, ↓reduceIte]
  refine hk _ ?_
  clear hk nx
  refine sq_of fun nx hk => ?_
  walk_at "wp"
  simp only [isB, beq_self_eq_true, String.reduceBEq, Bool.false_eq_true, ↓reduceIte]
  refine hk _ ?_
  clear hk nx
  refine sq_of fun nx hk => ?_
  walk_at "wp"
  simp only [isB, beq_self_eq_true, String.reduceBEq, Bool.false_eq_true, ↓reduceIte]
  refine hk _ ?_
  clear hk nx
  refine sq_of fun nx hk => ?_
  walk_at "wp"
  simp only [isB, beq_self_eq_true, String.reduceBEq, Bool.false_eq_true, ↓reduceIte]
  refine hk _ ?_
  clear hk nx
  refine sq_of fun nx hk => ?_
  walk_at "wp"
  simp only [isB, beq_self_eq_true, String.reduceBEq, Bool.false_eq_true, ↓reduceIte, Bool.not_true]
  refine hk _ ?_
  clear hk nx
  refine sq_of fun nx hk => ?_
  walk_at "wp"
  refine hk _ ?_
  clear hk nx
  refine sq_of fun nx hk => ?_
  walk_at "wp"
  simp only [List.length_map]
  refine ⟨by omega, by omega, ?_⟩
  refine frB_of (fun i e => ∃ o, e = [(false, some (.f, iL ns)), (false, some (.f, iL ns)), (false, none), (false, o)]) ⟨none, rfl⟩ ?_ ?_
  · rintro i d e nx2 hn ⟨o, rfl⟩ k
    obtain ⟨rfl, hi⟩ := rangeD_get0 hn
    have hi' : i < ns.length := by omega
    walk_at "wp"
    refine at_i hi' ?_
    walk_at "wp"
    refine at_i hi' ?_
    walk_at "wp"
    refine matches_int ?_
    walk_at "wp"
    exact k _ ⟨_, rfl⟩
  · rintro e ⟨o, rfl⟩
    refine hk _ ?_
    walk_at "wp"
    exact hR
end DL.K82
set_option Elab.async false
set_option linter.all false
set_option maxRecDepth 100000
set_option maxHeartbeats 4000000
namespace DL.K82
open PySem PySem.Spec PyProof.Rows L2
abbrev iT (ns : List Int) : D := .tup (ns.map .int)
abbrev tupT (N : Nat) (A : List Int) : D := .tup [.int N, iT A]
theorem at_iT {A : List Int} {i : Nat} (h : i < A.length) {k : SD → Prop} (q : k (.f, .int A[i])) : ixD (iT A) (.int (i : Int)) k := v_ixT (atI_nat (by rw [List.getElem?_map, List.getElem?_eq_getElem h]; rfl)) q
theorem flats_ints {n : Nat} : ∀ {ns : List Int}, flats n (ns.map .int) = true
  | [] => by simp [flats]
  | i :: ns => by simp [flats, flat, flats_ints]
theorem flat_tupT {N : Nat} {A : List Int} : flat 60 (tupT N A) = true := by simp [flat, flats, flats_ints]
theorem flat_iL {A : List Int} : flat 60 (iL A) = true := by simp [flat, flats_ints]
theorem flat_nL {A : List Nat} : flat 60 (nL A) = true := by
  have : A.map nI = (A.map fun (d : Nat) => (d : Int)).map .int := by rw [List.map_map]; rfl
  show flat 60 (.lst (A.map nI)) = true
  rw [this]; exact flat_iL
theorem ck_even : ((List.range 6).all fun p => (List.range 7).all fun d => ckI (XM.x m_l_even [(.f, .int (p + 1 : Nat)), (.f, .int (d + 1 : Nat))]) (Ez (p + 1) (d + 1)) 2) = true := by decide +kernel
theorem even_spec {p d : Nat} (x : PM p d) {R : SD → List (Option SD) → Prop} (hR : R (.o .f, iL (Ez p d)) [none, none]) : m_l_even [(.f, .int p), (.f, .int d)] R := by
  have := all2 ck_even (p := p - 1) (d := d - 1) (by have := x.p6; have := x.p1; omega) (by have := x.m7; have := x.m1; omega)
  rw [show p - 1 + 1 = p by have := x.p1; omega, show d - 1 + 1 = d by have := x.m1; omega] at this
  exact XM.ok _ _ _ _ (ckI_eq this) hR
local macro_rules | `(tactic| walk_at "wp") => `(tactic| try simp only [↓x_sq, ↓x_skp, ↓x_brk, ↓x_cnt, ↓x_nvr, ↓x_drp, ↓x_ret, ↓x_retN, ↓x_iff, ↓x_asn, ↓x_asg, ↓x_gn, ↓x_gt, ↓x_gsnil, ↓x_gscons, ↓x_aug, ↓x_setS, ↓x_augS, ↓x_cst, ↓x_rd, ↓x_mv, ↓x_bi, ↓x_tst, ↓x_tnot, ↓x_tand, ↓x_tor, ↓x_tru, ↓x_vand, ↓x_vor, ↓x_vnot, ↓x_neg, ↓x_cnd, ↓x_chn, ↓x_ixS, ↓x_ix, ↓x_lenS, ↓x_inS, ↓x_anil, ↓x_acons, ↓x_bc, ↓x_tupE, ↓x_lstE, ↓x_dctE, ↓x_dc1, ↓x_mt, ↓x_cntS, ↓x_isi, ↓x_wix, ↓x_cnil, ↓x_cva, ↓x_cln, ↓x_cl, ↓x_sl, ↓x_onil, ↓x_osm, ↓x_fr, ↓x_frn, ↓x_ilst, ↓x_irg1, ↓x_irg2, ↓x_lc, ↓x_lcn, ↓look0, ↓lookS, ↓pin0, ↓pinS, ↓put0, ↓putSS, ↓set0, ↓setSu, ↓v_add, ↓v_addL, ↓v_addT, ↓v_mul, ↓v_mulL, ↓v_J, ↓v_I, ↓v_eq, ↓v_ne, ↓v_is, ↓v_isN, ↓v_isi, ↓v_isn, e_int, e_ni, e_in, e_nn, ↓f_int, ↓f_non, ↓f_bl, true_and, and_true, eq_self, ↓reduceIte, Bool.not_true, Bool.not_false, Bool.false_eq_true, List.map_cons, List.map_nil, List.length_cons, List.length_nil, Option.isSome_some, lendA, backA, okB, Option.map_some, isF, Bool.not_false, Bool.not_true, peek, lenD, itemsOf, lstOf, seqOf, backs, v_inK, v_setK, v_max2, v_min2, v_lenL, v_lenT, v_listL, v_tupL, v_intI, v_absI, ix30, ix31, ix32, st30, st31, st32, ix20, ix21, decide_true, decide_false, List.getElem?_cons_zero, List.getElem?_cons_succ, Bool.and_true])
theorem near_spec {k N1 N2 : Nat} {A B : List Int} {kk : Int} {R : SD → List (Option SD) → Prop} (hR : ∀ c, R (.f, .bl c) [none, none, none]) : m_l_near [(.f, .int kk), (.f, tupT N1 A), (.f, tupT N2 B)] R := by
  refine ⟨rfl, ?_⟩
  show t_l_near _ [(false, some (.f, .int kk)), (false, some (.f, tupT N1 A)), (false, some (.f, tupT N2 B))]
  unfold t_l_near
  walk_at "wp"
  generalize decide (kk = 2) = b
  cases b
  · simp only [Bool.false_eq_true, ↓reduceIte]
    generalize decide ((N2 : Int) = (N1 : Int)) = b
    cases b
    · walk_at "wp"
      exact hR _
    · walk_at "wp"
      rw [flat_tupT, flat_tupT]
      exact ⟨rfl, rfl, hR _⟩
  · simp only [↓reduceIte]
    rw [flat_tupT, flat_tupT]
    exact ⟨rfl, rfl, hR _⟩
theorem Zs_count {p : Nat} {sv : List Nat} (s : Sv p sv) : (Zs p sv).count 0 = ((sv.flatMap (Rz p)).filter fun a => decide (a = 0)).length := by
  rw [Zs_perm.count_eq, List.count_eq_countP, List.countP_filter, List.countP_eq_length_filter]
  congr 1
  refine List.filter_congr fun a _ => ?_
  have := s.1.1
  by_cases h : a = 0
  · subst h; simp; omega
  · simp [h]
theorem Ps_perm {p : Nat} {sv : List Nat} : (Ps p sv).Perm ((sv.flatMap (Rz p)).filter fun a => decide (0 < a) && decide (a < (p : Int))) := by
  unfold Ps
  refine (Zs_perm.filter _).trans ?_
  rw [List.filter_filter]
theorem Ps_up {p : Nat} {sv : List Nat} (s : Sv p sv) : Up (Ps p sv) := (Zs_up s).sublist List.filter_sublist
theorem list_spec {p : Nat} {sv ks : List Nat} (s : Sv p sv) (hl : sv.length ≤ 4) (T : Tb p ks) {R : SD → List (Option SD) → Prop} (hR : ∀ ks, Tb p ks → R (.f, tupT (Ns p sv) (Ps p sv)) [none, none, some (.o .f, .dct (tb p ks))]) : m_l_list [(.f, .int p), (.f, nL sv), (.o .f, .dct (tb p ks))] R := by
  have p1 := s.1.1
  refine ⟨rfl, ?_⟩
  show t_l_list _ [(false, some (.f, .int p)), (false, some (.f, nL sv)), (true, some (.o .f, .dct (tb p ks))), (false, none), (false, none), (false, none), (false, none)]
  unfold t_l_list
  refine sq_of fun nx hk => ?_
  walk_at "wp"
  refine ⟨by decide, hk _ ?_⟩
  clear hk nx
  refine sq_of fun nx hk => ?_
  walk_at "wp"
  refine frB_of (fun i e => ∃ ks o, Tb p ks ∧ e = [(false, some (.f, .int p)), (false, some (.f, nL sv)), (true, some (.o .f, .dct (tb p ks))), (false, some (.o .f, iL ((sv.take i).flatMap (Rz p)))), (false, o), (false, none), (false, none)]) ⟨ks, none, T, rfl⟩ ?_ ?_
  · skip
    rintro i d e nx hn ⟨ks, o, T, rfl⟩ k
    obtain ⟨x, hx, rfl⟩ := getM hn
    have xp : PM p x := ⟨s.1.1, s.1.2, (s.2 x (List.mem_of_getElem? hx)).1, (s.2 x (List.mem_of_getElem? hx)).2⟩
    refine gn_of rfl (sq_of fun nx hk => ?_)
    have go : ∀ ks, Tb p ks → x ∈ ks → nx [(false, some (.f, .int p)), (false, some (.f, nL sv)), (true, some (.o .f, .dct (tb p ks))), (false, some (.o .f, iL ((sv.take i).flatMap (Rz p)))), (false, some (.f, nI x)), (false, none), (false, none)] := by
      intro ks T m
      refine hk _ ?_
      walk_at "wp"
      refine v_ixK (by rw [tb_look, if_pos m]) ?_
      walk_at "wp"
      refine ⟨?_, ?_⟩
      · have h1 : (sv.take i).length ≤ 4 := Nat.le_trans (List.length_take_le' ..) hl
        have h2 := flat_len (sv := sv.take i) ⟨s.1, fun d m => s.2 d (List.mem_of_mem_take m)⟩
        have h3 := xp.all.2.2.1
        simp only [List.length_map]
        show _ ≤ 2 ^ 24
        omega
      · refine k _ ⟨ks, some (.f, nI x), T, ?_⟩
        rw [List.take_add_one, hx]
        simp
    walk_at "wp"
    rw [tb_look]
    by_cases m : x ∈ ks
    · rw [if_pos m]
      simp only [Option.isSome_some, bne_self_eq_false, Bool.false_eq_true, ↓reduceIte]
      exact go ks T m
    · rw [if_neg m]
      simp only [Option.isSome_none, bne_iff_ne, ne_eq, Bool.true_eq_false, not_false_eq_true, ↓reduceIte]
      refine lrises_spec xp ?_
      walk_at "wp"
      refine ⟨T.len, ?_⟩
      rw [tb_put m]
      exact go _ (T.add xp m) (by simp)
  · skip
    rintro e ⟨ks, o, T, rfl⟩
    refine hk _ ?_
    clear hk nx
    refine sq_of fun nx hk => ?_
    simp only [List.length_map, List.take_length]
    have len2 : (List.map D.int (sv.flatMap (Rz p))).length ≤ sizeLine := by
      have h2 := flat_len s
      simp only [List.length_map]
      show _ ≤ 2 ^ 24
      omega
    walk_at "wp"
    refine lcB_map rfl (fun d => decide (toInt d = 0)) id len2 ?_ ?_ ?_
    · intro d q m h
      obtain ⟨x, hx, rfl⟩ := List.mem_map.mp m
      simp only [outer, inner]
      walk_at "wp"
      by_cases hx0 : x = 0
      · rw [decide_eq_true hx0, decide_eq_true (by omega : (0 : Int) < p)]
        simp only [↓reduceIte]
        have : decide (toInt (D.int x) = 0) = true := decide_eq_true hx0
        rw [this] at h
        exact h
      · rw [decide_eq_false hx0]
        simp only [Bool.false_eq_true, ↓reduceIte]
        have : decide (toInt (D.int x) = 0) = false := decide_eq_false hx0
        rw [this] at h
        exact h
    · intro d q m _ h
      obtain ⟨x, hx, rfl⟩ := List.mem_map.mp m
      simp only [outer, inner]
      walk_at "wp"
      exact h
    rw [List.map_id, filt_ints (f := fun a => decide (a = 0))]
    walk_at "wp"
    refine hk _ ?_
    clear hk nx
    walk_at "wp"
    refine lcB_map rfl (fun d => decide (0 < toInt d) && decide (toInt d < p)) id len2 ?_ ?_ ?_
    · intro d q m h
      obtain ⟨x, hx, rfl⟩ := List.mem_map.mp m
      simp only [outer, inner]
      walk_at "wp"
      have h : q (decide (0 < x) && decide (x < (p : Int))) (inner (outer _ 6) 6 (D.int x)) := h
      by_cases hx0 : 0 < x
      · rw [decide_eq_true hx0] at h ⊢
        exact h
      · rw [decide_eq_false hx0] at h ⊢
        exact h
    · intro d q m _ h
      obtain ⟨x, hx, rfl⟩ := List.mem_map.mp m
      simp only [outer, inner]
      walk_at "wp"
      exact h
    rw [List.map_id, filt_ints (f := fun a => decide (0 < a) && decide (a < (p : Int)))]
    walk_at "wp"
    refine ⟨?_, fun ns h1 h2 => ?_⟩
    · rw [List.all_eq_true]; intro d m
      obtain ⟨x, hx, rfl⟩ := List.mem_map.mp m
      rfl
    · rw [List.map_map, show toInt ∘ D.int = id from rfl, List.map_id] at h1
      have e : ns = Ps p sv := Up.eq h2 (Ps_up s) (h1.trans Ps_perm.symm)
      subst e
      walk_at "wp"
      refine ⟨by decide, ?_⟩
      have := hR ks T
      have hN : (Ns p sv : Int) = (sv.length : Int) + (((sv.flatMap (Rz p)).filter fun a => decide (a = 0)).length : Int) := by
        rw [← Zs_count s]; unfold Ns; push_cast; rfl
      simp only [List.length_map]
      rw [← hN]
      exact this
theorem lparted_spec {p N1 N2 : Nat} {A B : List Int} (iA : In1 p A) (iB : In1 p B) (lA : A.length ≤ 28) (lB : B.length ≤ 28) {R : SD → List (Option SD) → Prop} (hR : R (.f, dueD (if N1 = N2 then pt A B else some 0)) [none, none, none]) : m_l_parted [(.f, .int p), (.f, tupT N1 A), (.f, tupT N2 B)] R := by
  refine ⟨rfl, ?_⟩
  show t_l_parted _ [(false, some (.f, .int p)), (false, some (.f, tupT N1 A)), (false, some (.f, tupT N2 B)), (false, none), (false, none), (false, none), (false, none)]
  unfold t_l_parted
  refine sq_of fun nx hk => ?_
  walk_at "wp"
  by_cases hN : N1 = N2
  · rw [if_pos hN] at hR
    rw [decide_eq_true (by omega : (N1 : Int) = (N2 : Int))]
    simp only [Bool.not_true, Bool.false_eq_true, ↓reduceIte]
    refine hk _ ?_
    clear hk nx
    refine sq_of fun nx hk => ?_
    walk_at "wp"
    refine hk _ ?_
    clear hk nx
    refine sq_of fun nx hk => ?_
    walk_at "wp"
    simp only [List.length_map]
    rw [max_nat]
    refine ⟨by omega, by omega, ?_⟩
    refine frB_of (fun i e => ∃ a o4 o5 o6, i ≤ A.length ∧ i ≤ B.length ∧ (pt (A.drop i) (B.drop i)).map (a + ·) = pt A B ∧ e = [(false, some (.f, .int p)), (false, some (.f, tupT N1 A)), (false, some (.f, tupT N2 B)), (false, some (.f, .int a)), (false, o4), (false, o5), (false, o6)]) ⟨0, none, none, none, Nat.zero_le _, Nat.zero_le _, by simp, rfl⟩ ?_ ?_
    · rintro i d e nx2 hn ⟨a, o6, o7, o8, hA, hB, hp, rfl⟩ k
      obtain ⟨rfl, hi⟩ := rangeD_get0 hn
      have go : ∀ x y : Int, (A[i]?.getD p = x) → (B[i]?.getD p = y) → (if x = y then (pt (A.drop (i + 1)) (B.drop (i + 1))).map (a + x + ·) = pt A B ∧ i < A.length ∧ i < B.length else pt A B = some (a + min x y)) := by
        intro x y hx hy
        by_cases iA' : i < A.length
        · rw [List.getElem?_eq_getElem iA'] at hx
          by_cases iB' : i < B.length
          · rw [List.getElem?_eq_getElem iB'] at hy
            have := pt_step iA' iB' hp
            simp only [Option.getD_some] at hx hy
            rw [hx, hy] at this
            split
            · rename_i e; rw [if_pos e] at this; exact ⟨this, iA', iB'⟩
            · rename_i e; rw [if_neg e] at this; exact this
          · rw [List.getElem?_eq_none (by omega)] at hy
            have := pt_endB iA' (by omega) hp
            simp only [Option.getD_some, Option.getD_none] at hx hy
            have h3 := (iA A[i] (List.getElem_mem iA')).2
            rw [if_neg (by omega), this, hx, ← hy]
            congr 1
            omega
        · rw [List.getElem?_eq_none (by omega)] at hx
          have iB' : i < B.length := by omega
          rw [List.getElem?_eq_getElem iB'] at hy
          have := pt_endA (by omega) iB' hp
          simp only [Option.getD_some, Option.getD_none] at hx hy
          have h3 := (iB B[i] (List.getElem_mem iB')).2
          rw [if_neg (by omega), this, hy, ← hx]
          congr 1
          omega
      have fx : ∀ (C : List Int) (k : SD → Prop), k (.f, .int (C[i]?.getD p)) → (if decide ((i : Int) < (C.length : Int)) = true then ixD (iT C) (.int (i : Int)) k else k (.f, .int p)) := by
        intro C k h
        by_cases iC : i < C.length
        · rw [if_pos (by simpa using iC)]
          rw [List.getElem?_eq_getElem iC] at h
          exact at_iT iC h
        · rw [if_neg (by simpa using iC)]
          rw [List.getElem?_eq_none (by omega)] at h
          exact h
      refine gn_of rfl (sq_of fun nx3 hk3 => ?_)
      walk_at "wp"
      simp only [List.length_map]
      refine fx A _ ?_
      walk_at "wp"
      refine hk3 _ ?_
      clear hk3 nx3
      refine sq_of fun nx3 hk3 => ?_
      walk_at "wp"
      simp only [List.length_map]
      refine fx B _ ?_
      walk_at "wp"
      refine hk3 _ ?_
      clear hk3 nx3
      generalize hx : A[i]?.getD (p : Int) = x
      generalize hy : B[i]?.getD (p : Int) = y
      have g := go x y hx hy
      walk_at "wp"
      rw [show (if y < x then y else x) = min x y by split <;> omega]
      by_cases e : x = y
      · rw [if_pos e] at g
        subst e
        simp only [decide_true, Bool.not_true, Bool.false_eq_true, ↓reduceIte]
        exact k _ ⟨_, _, _, _, g.2.1, g.2.2, by rw [← g.1, Int.min_self], rfl⟩
      · rw [if_neg e] at g
        rw [decide_eq_false e]
        simp only [Bool.not_false, ↓reduceIte]
        rw [g] at hR
        exact hR
    · rintro e ⟨a, o6, o7, o8, hA, hB, hp, rfl⟩
      rw [rangeD_len] at hA hB hp
      refine hk _ ?_
      walk_at "wp"
      rw [List.drop_eq_nil_of_le (by omega), List.drop_eq_nil_of_le (by omega)] at hp
      rw [show pt A B = none from hp.symm] at hR
      exact hR
  · rw [if_neg hN] at hR
    rw [decide_eq_false (by omega : ¬ (N1 : Int) = (N2 : Int))]
    simp only [Bool.not_false, ↓reduceIte]
    exact hR
theorem round_spec {p d : Nat} (x : PM p d) {R : SD → List (Option SD) → Prop} (hR : R (.o .f, iL (Rz p d)) [none, none]) : m_round_rises [(.f, .int p), (.f, .int d)] R := by
  have p1 := x.p1
  have p6 := x.p6
  have m1 := x.m1
  have m7 := x.m7
  refine ⟨rfl, ?_⟩
  show t_round_rises _ [(false, some (.f, .int p)), (false, some (.f, .int d))]
  unfold t_round_rises
  refine sq_of fun nx hk => ?_
  walk_at "wp"
  refine check_spec rfl (by omega) ?_
  walk_at "wp"
  refine hk _ ?_
  clear hk nx
  refine sq_of fun nx hk => ?_
  walk_at "wp"
  refine check_spec rfl (by omega) ?_
  walk_at "wp"
  refine hk _ ?_
  clear hk nx
  refine sq_of fun nx hk => ?_
  walk_at "wp"
  rw [show decide ((p : Int) < 1) = false by simp; omega]
  simp only [Bool.false_eq_true, ↓reduceIte]
  refine hk _ ?_
  clear hk nx
  refine sq_of fun nx hk => ?_
  walk_at "wp"
  rw [show decide ((d : Int) < 1) = false by simp; omega]
  simp only [Bool.false_eq_true, ↓reduceIte]
  refine hk _ ?_
  clear hk nx
  walk_at "wp"
  refine rises_spec x ?_
  walk_at "wp"
  exact hR
end DL.K82
set_option Elab.async false
set_option linter.all false
set_option maxRecDepth 100000
set_option maxHeartbeats 4000000
namespace DL.K82
open PySem PySem.Spec PyProof.Rows L2
def rowT (p : Nat) (sv : List Nat) (m M : Nat) : List Int := (List.range M).map fun (q : Nat) => Tv p sv m (q : Int)
theorem rowT_len {p sv m M} : (rowT p sv m M).length = M := by unfold rowT; simp
theorem rowT_get {p sv m M} {q : Nat} (h : q < (rowT p sv m M).length) : (rowT p sv m M)[q] = Tv p sv m (q : Int) := by simp [rowT]
theorem rowT_nil {p M : Nat} : rowT p [] 0 M = List.replicate M 0 := by
  unfold rowT
  refine List.eq_replicate_iff.mpr ⟨by simp, fun x hx => ?_⟩
  obtain ⟨q, _, rfl⟩ := List.mem_map.mp hx
  simp [Tv, Bt, gs]
theorem rowT_cons {p d : Nat} {sv : List Nat} {M : Nat} (hd : d ≠ 0) : rowT p sv d M = rowT p (d :: sv) 0 M := by
  unfold rowT
  refine List.map_congr_left fun q _ => ?_
  unfold Tv
  rw [if_neg hd, if_pos rfl, List.length_cons]
  show _ = _ + (gs (mg (Az p d) (Bt p sv)) (q : Int) : Int)
  push_cast
  rfl
theorem rowT_succ {p sv m M} : rowT p sv m (M + 1) = rowT p sv m M ++ [Tv p sv m (M : Int)] := by
  unfold rowT; rw [List.range_succ, List.map_append]; rfl
abbrev tabT (p : Nat) (sv : List Nat) (n M : Nat) : List D := (List.range n).map fun m => iL (rowT p sv m M)
theorem tabT_succ {p sv n M} : tabT p sv (n + 1) M = tabT p sv n M ++ [iL (rowT p sv n M)] := by
  unfold tabT; rw [List.range_succ, List.map_append]; rfl
theorem cz_step {p m h : Nat} (x : PM p m) (h1 : h < m) : cz p m (h + 1) = cz p m h + (Ez p m)[h]'(by have := x.all.2.2.2.2.2.2.2; omega) := by
  unfold cz
  exact Ls_succ (List.getElem?_eq_getElem _)
local macro_rules | `(tactic| walk_at "wp") => `(tactic| try simp only [↓x_sq, ↓x_skp, ↓x_brk, ↓x_cnt, ↓x_nvr, ↓x_drp, ↓x_ret, ↓x_retN, ↓x_iff, ↓x_asn, ↓x_asg, ↓x_gn, ↓x_gt, ↓x_gsnil, ↓x_gscons, ↓x_aug, ↓x_setS, ↓x_augS, ↓x_cst, ↓x_rd, ↓x_mv, ↓x_bi, ↓x_tst, ↓x_tnot, ↓x_tand, ↓x_tor, ↓x_tru, ↓x_vand, ↓x_vor, ↓x_vnot, ↓x_neg, ↓x_cnd, ↓x_chn, ↓x_ixS, ↓x_ix, ↓x_lenS, ↓x_inS, ↓x_anil, ↓x_acons, ↓x_bc, ↓x_tupE, ↓x_lstE, ↓x_dctE, ↓x_dc1, ↓x_mt, ↓x_cntS, ↓x_isi, ↓x_wix, ↓x_cnil, ↓x_cva, ↓x_cln, ↓x_cl, ↓x_sl, ↓x_onil, ↓x_osm, ↓x_fr, ↓x_frn, ↓x_ilst, ↓x_irg1, ↓x_irg2, ↓x_lc, ↓x_lcn, ↓look0, ↓lookS, ↓pin0, ↓pinS, ↓put0, ↓putSS, ↓set0, ↓setSu, ↓v_add, ↓v_addL, ↓v_addT, ↓v_mul, ↓v_mulL, ↓v_J, ↓v_I, ↓v_eq, ↓v_ne, ↓v_is, ↓v_isN, ↓v_isi, ↓v_isn, e_int, e_ni, e_in, e_nn, ↓f_int, ↓f_non, ↓f_bl, true_and, and_true, eq_self, ↓reduceIte, Bool.not_true, Bool.not_false, Bool.false_eq_true, List.map_cons, List.map_nil, List.length_cons, List.length_nil, Option.isSome_some, lendA, backA, okB, Option.map_some, isF, Bool.not_false, Bool.not_true, peek, lenD, itemsOf, lstOf, seqOf, backs, v_inK, v_setK, v_max2, v_min2, v_lenL, v_lenT, v_listL, v_tupL, v_intI, v_absI, ix30, ix31, ix32, st30, st31, st32, ix20, ix21, decide_true, decide_false, List.getElem?_cons_zero, List.getElem?_cons_succ, Bool.and_true])
theorem longt_spec {p M : Nat} {sv : List Nat} (s : Sv p sv) (hs : sv ≠ []) (hl : sv.length ≤ 4) (hM : M ≤ 40) {R : SD → List (Option SD) → Prop} (hR : R (.f, iL (rowT p sv 0 (M + 1))) [none, none, none]) : m_l_longest [(.f, .int p), (.f, nL sv), (.f, .int M)] R := by
  have p1 := s.1.1
  have p6 := s.1.2
  have ln : 0 < sv.length := List.length_pos_iff.mpr hs
  refine ⟨rfl, ?_⟩
  show t_l_longest _ [(false, some (.f, .int p)), (false, some (.f, nL sv)), (false, some (.f, .int M)), (false, none), (false, none), (false, none), (false, none), (false, none), (false, none), (false, none), (false, none), (false, none), (false, none), (false, none)]
  unfold t_l_longest
  refine sq_of fun nx hk => ?_
  walk_at "wp"
  refine ⟨by decide, by omega, by omega, ?_, ?_⟩
  · show 1 * ((M : Int) + 1).toNat ≤ 2 ^ 24
    omega
  have e0 : repD ((M : Int) + 1).toNat [D.int 0] = (rowT p [] 0 (M + 1)).map .int := by
    rw [rowT_nil, show ((M : Int) + 1).toNat = M + 1 by omega]
    unfold repD
    rw [List.map_replicate]
    generalize M + 1 = k
    induction k with
    | zero => rfl
    | succ k ih => rw [List.replicate_succ, List.flatten_cons, ih, List.replicate_succ]; rfl
  rw [e0]
  refine hk _ ?_
  clear hk nx
  refine sq_of fun nx hk => ?_
  walk_at "wp"
  simp only [List.length_map]
  refine ⟨by omega, by omega, ?_⟩
  refine frB_of (fun i e => ∃ sh o4 o5 o6 o7 o8 o9 o10 o11 o12 o13, sh = (if i = 0 then Sh.o .f else Sh.f) ∧ e = [(false, some (.f, .int p)), (false, some (.f, nL sv)), (false, some (.f, .int M)), (false, some (sh, iL (rowT p (sv.drop (sv.length - i)) 0 (M + 1)))), (false, o4), (false, o5), (false, o6), (false, o7), (false, o8), (false, o9), (false, o10), (false, o11), (false, o12), (false, o13)]) ⟨_, none, none, none, none, none, none, none, none, none, none, rfl, by rw [Nat.sub_zero, List.drop_length]; rfl⟩ ?_ ?_
  · rintro i d e nx2 hn ⟨sh, o4, o5, o6, o7, o8, o9, o10, o11, o12, o13, hsh, rfl⟩ k
    obtain ⟨rfl, hi⟩ := rangeD_get0 hn
    have hi : i < sv.length := by omega
    have hj : sv.length - 1 - i < sv.length := by omega
    have dr : sv.drop (sv.length - (i + 1)) = sv[sv.length - 1 - i] :: sv.drop (sv.length - i) := by
      rw [show sv.length - (i + 1) = sv.length - 1 - i by omega, List.drop_eq_getElem_cons hj, show sv.length - 1 - i + 1 = sv.length - i by omega]
    have ss : Sv p (sv.drop (sv.length - (i + 1))) := ⟨s.1, fun d m => s.2 d (List.mem_of_mem_drop m)⟩
    rw [dr] at ss k
    generalize sv.drop (sv.length - i) = suf at ss k ⊢
    have xd := ss.hd
    have st := ss.tl
    refine gn_of rfl (sq_of fun nx3 hk3 => ?_)
    walk_at "wp"
    simp only [List.length_map]
    rw [show (sv.length : Int) - 1 - (i : Int) = ((sv.length - 1 - i : Nat) : Int) by omega]
    refine v_ixL (x := nI sv[sv.length - 1 - i]) (atI_nat (by rw [List.getElem?_map, List.getElem?_eq_getElem hj]; rfl)) ?_
    generalize sv[sv.length - 1 - i] = d at xd k ⊢
    walk_at "wp"
    refine hk3 _ ?_
    clear hk3 nx3
    have d1 := xd.m1
    have d7 := xd.m7
    refine sq_of fun nx3 hk3 => ?_
    have go : nx3 [(false, some (.f, .int p)), (false, some (.f, nL sv)), (false, some (.f, .int M)), (false, some (.f, iL (rowT p suf 0 (M + 1)))), (false, some (.f, .int i)), (false, some (.f, nI d)), (false, some (.o .f, .lst [iL (rowT p suf 0 (M + 1))])), (false, o7), (false, o8), (false, o9), (false, o10), (false, o11), (false, o12), (false, o13)] := by
      refine hk3 _ ?_
      clear hk3 nx3 hsh sh
      refine sq_of fun nx3 hk3 => ?_
      walk_at "wp"
      refine ⟨by omega, ?_⟩
      refine frB_of (fun j e => ∃ o7 o8 o9 o10 o11 o12 o13, e = [(false, some (.f, .int p)), (false, some (.f, nL sv)), (false, some (.f, .int M)), (false, some (.f, iL (rowT p suf 0 (M + 1)))), (false, some (.f, .int i)), (false, some (.f, nI d)), (false, some (.o .f, .lst (tabT p suf (j + 1) (M + 1)))), (false, o7), (false, o8), (false, o9), (false, o10), (false, o11), (false, o12), (false, o13)]) ⟨_, _, _, _, _, _, _, rfl⟩ ?_ ?_
      · rintro j dd e nx4 hn ⟨o7, o8, o9, o10, o11, o12, o13, rfl⟩ k4
        obtain ⟨rfl, hj'⟩ := rangeD_get hn
        have xm : PM p (j + 1) := xd.of (by omega) (by omega)
        rw [show (1 : Int) + (j : Int) = ((j + 1 : Nat) : Int) by push_cast; omega]
        generalize hm : j + 1 = m at xm k4 ⊢
        have m1 := xm.m1
        have m7 := xm.m7
        refine gn_of rfl (sq_of fun nx5 hk5 => ?_)
        walk_at "wp"
        refine even_spec xm ?_
        walk_at "wp"
        refine hk5 _ ?_
        clear hk5 nx5
        refine sq_of fun nx5 hk5 => ?_
        walk_at "wp"
        refine ⟨by decide, hk5 _ ?_⟩
        clear hk5 nx5
        refine sq_of fun nx5 hk5 => ?_
        walk_at "wp"
        refine ⟨by omega, by omega, ?_⟩
        refine frB_of (fun q e => ∃ o10 o11 o12 o13, e = [(false, some (.f, .int p)), (false, some (.f, nL sv)), (false, some (.f, .int M)), (false, some (.f, iL (rowT p suf 0 (M + 1)))), (false, some (.f, .int i)), (false, some (.f, nI d)), (false, some (.o .f, .lst (tabT p suf m (M + 1)))), (false, some (.f, nI m)), (false, some (.o .f, iL (Ez p m))), (false, some (.o .f, iL (rowT p suf m q))), (false, o10), (false, o11), (false, o12), (false, o13)]) ⟨_, _, _, _, rfl⟩ ?_ ?_
        · rintro q dd e nx6 hn ⟨o10, o11, o12, o13, rfl⟩ k6
          obtain ⟨rfl, hq⟩ := rangeD_get0 hn
          have hq : q < M + 1 := by omega
          refine gn_of rfl (sq_of fun nx7 hk7 => ?_)
          walk_at "wp"
          refine hk7 _ ?_
          clear hk7 nx7
          refine sq_of fun nx7 hk7 => ?_
          walk_at "wp"
          refine hk7 _ ?_
          clear hk7 nx7
          refine sq_of fun nx7 hk7 => ?_
          walk_at "wp"
          refine ⟨by omega, by omega, ?_⟩
          refine frB_of (fun h e => ∃ o13, e = [(false, some (.f, .int p)), (false, some (.f, nL sv)), (false, some (.f, .int M)), (false, some (.f, iL (rowT p suf 0 (M + 1)))), (false, some (.f, .int i)), (false, some (.f, nI d)), (false, some (.o .f, .lst (tabT p suf m (M + 1)))), (false, some (.f, nI m)), (false, some (.o .f, iL (Ez p m))), (false, some (.o .f, iL (rowT p suf m q))), (false, some (.f, .int q)), (false, some (.f, .int (bst p suf m q h))), (false, some (.f, .int (cz p m (h - 1)))), (false, o13)]) ⟨_, by rw [Nat.zero_sub, cz_zero]; rfl⟩ ?_ ?_
          · rintro h dd e nx8 hn ⟨o13, rfl⟩ k8
            obtain ⟨rfl, hh⟩ := rangeD_get0 hn
            have hh : h ≤ m := by omega
            refine gn_of rfl (sq_of fun nx9 hk9 => ?_)
            have g2 : nx9 [(false, some (.f, .int p)), (false, some (.f, nL sv)), (false, some (.f, .int M)), (false, some (.f, iL (rowT p suf 0 (M + 1)))), (false, some (.f, .int i)), (false, some (.f, nI d)), (false, some (.o .f, .lst (tabT p suf m (M + 1)))), (false, some (.f, nI m)), (false, some (.o .f, iL (Ez p m))), (false, some (.o .f, iL (rowT p suf m q))), (false, some (.f, .int q)), (false, some (.f, .int (bst p suf m q h))), (false, some (.f, .int (cz p m h))), (false, some (.f, .int h))] := by
              refine hk9 _ ?_
              clear hk9 nx9
              walk_at "wp"
              by_cases hc : cz p m h ≤ q
              · rw [decide_eq_true hc]
                simp only [↓reduceIte]
                have e8 : bst p suf m q (h + 1) = (if Tv p suf h (q - cz p m h) > bst p suf m q h then Tv p suf h (q - cz p m h) else bst p suf m q h) := if_pos hc
                have c0 := xm.all.2.2.2.2.2.2.1 h hh
                obtain ⟨w, hw⟩ := Int.eq_ofNat_of_zero_le (a := (q : Int) - cz p m h) (by omega)
                rw [hw] at e8 ⊢
                by_cases hm2 : h = m
                · rw [decide_eq_true (by omega : (h : Int) = (m : Int))]
                  simp only [↓reduceIte]
                  have cp := xm.all.2.2.2.2.2.1
                  have hwq : w < (rowT p suf m q).length := by rw [rowT_len]; rw [hm2, cp] at hw; omega
                  refine at_i hwq ?_
                  rw [rowT_get, show Tv p suf m (w : Int) = Tv p suf h (w : Int) by rw [hm2]]
                  walk_at "wp"
                  rw [← e8]
                  exact k8 _ ⟨_, rfl⟩
                · rw [decide_eq_false (by omega : ¬ (h : Int) = (m : Int))]
                  simp only [Bool.false_eq_true, ↓reduceIte]
                  refine v_ixL (x := iL (rowT p suf h (M + 1))) (atI_nat (by rw [List.getElem?_map, List.getElem?_range (by omega)]; rfl)) ?_
                  have hwq : w < (rowT p suf h (M + 1)).length := by rw [rowT_len]; omega
                  refine at_i hwq ?_
                  rw [rowT_get]
                  walk_at "wp"
                  rw [← e8]
                  exact k8 _ ⟨_, rfl⟩
              · rw [decide_eq_false hc]
                simp only [Bool.false_eq_true, ↓reduceIte]
                have e8 : bst p suf m q (h + 1) = bst p suf m q h := if_neg hc
                rw [← e8]
                exact k8 _ ⟨_, rfl⟩
            walk_at "wp"
            by_cases h0 : h = 0
            · subst h0
              rw [decide_eq_false (by simp : ¬ (0 : Int) < ((0 : Nat) : Int))]
              simp only [Bool.false_eq_true, ↓reduceIte]
              rw [Nat.zero_sub, Int.add_zero]
              exact g2
            · rw [decide_eq_true (by omega : (0 : Int) < (h : Int))]
              simp only [↓reduceIte]
              rw [show (h : Int) - 1 = ((h - 1 : Nat) : Int) by omega]
              have hE : h - 1 < (Ez p m).length := by rw [xm.all.2.2.2.2.2.2.2]; omega
              refine at_i hE ?_
              have := cz_step xm (h := h - 1) (by omega)
              rw [show h - 1 + 1 = h by omega] at this
              walk_at "wp"
              rw [← this]
              exact g2
          · rintro e ⟨o13, rfl⟩
            refine hk7 _ ?_
            clear hk7 nx7
            rw [rangeD_len, show ((m : Int) + 1 - 0).toNat = m + 1 by omega, bst_eq xm st (by omega) (by omega)]
            walk_at "wp"
            refine ⟨⟨_, rfl⟩, ?_, ?_⟩
            · rw [List.length_map, rowT_len]
              show _ < 2 ^ 24
              omega
            · refine k6 _ ⟨some (.f, .int q), some (.f, .int (Tv p suf m q - 1)), some (.f, .int (cz p m (m + 1 - 1))), o13, ?_⟩
              rw [rowT_succ (m := m) (M := q), show Tv p suf m q - 1 + 1 = Tv p suf m q by omega]
              rw [show (iL (rowT p suf m q ++ [Tv p suf m q])) = .lst ((rowT p suf m q).map .int ++ [.int (Tv p suf m q)]) from congrArg D.lst (List.map_append ..)]
        · rintro e ⟨o10, o11, o12, o13, rfl⟩
          refine hk5 _ ?_
          clear hk5 nx5
          rw [rangeD_len, show ((M : Int) + 1 - 0).toNat = M + 1 by omega]
          walk_at "wp"
          refine ⟨⟨_, rfl⟩, ?_, ?_⟩
          · simp only [List.length_map, List.length_range]
            show _ < 2 ^ 24
            omega
          · refine k4 _ ⟨some (.f, nI m), some (.o .f, iL (Ez p m)), some (.f, iL (rowT p suf m (M + 1))), o10, o11, o12, o13, ?_⟩
            rw [tabT_succ]
      · rintro e ⟨o7, o8, o9, o10, o11, o12, o13, rfl⟩
        refine hk3 _ ?_
        clear hk3 nx3
        rw [rangeD_len, show ((d : Int) + 1 - 1).toNat = d by omega]
        walk_at "wp"
        refine v_ixL (x := iL (rowT p suf d (M + 1))) (atI_nat (by rw [List.getElem?_map, List.getElem?_range (by omega)]; rfl)) ?_
        rw [rowT_cons (by omega)]
        walk_at "wp"
        refine k _ ⟨.f, some (.f, .int i), some (.f, nI d), some (.o .f, .lst (tabT p suf (d + 1) (M + 1))), o7, o8, o9, o10, o11, o12, o13, by simp, rfl⟩
    split at hsh
    · subst hsh
      walk_at "wp"
      exact ⟨by decide, go⟩
    · subst hsh
      walk_at "wp"
      exact ⟨by decide, go⟩
  · rintro e ⟨sh, o4, o5, o6, o7, o8, o9, o10, o11, o12, o13, hsh, rfl⟩
    rw [rangeD_len] at hsh ⊢
    refine hk _ ?_
    walk_at "wp"
    rw [show ((sv.length : Int) - 0).toNat = sv.length by omega] at hsh ⊢
    rw [if_neg (by omega)] at hsh
    subst hsh
    rw [Nat.sub_self, List.drop_zero]
    exact hR
end DL.K82
set_option Elab.async false
set_option linter.all false
set_option maxRecDepth 100000
set_option maxHeartbeats 4000000
namespace DL.K82
open PySem PySem.Spec PyProof.Rows L2
theorem v_sumT {ns : List Int} {k : SD → Prop} : rSum [iT ns] k = k (.f, .int ns.sum) := by
  have a : (ns.map D.int).all isInt = true := by
    rw [List.all_eq_true]; intro d m
    obtain ⟨x, hx, rfl⟩ := List.mem_map.mp m
    rfl
  have b : (ns.map D.int).map toInt = ns := by rw [List.map_map, show toInt ∘ D.int = id from rfl, List.map_id]
  show ((ns.map D.int).all isInt = true ∧ k (.f, .int ((ns.map D.int).map toInt).sum)) = _
  rw [a, b]
  simp
def Ev1 (sv : List Nat) : Prop := sv ≠ [] ∧ sv.length ≤ 4 ∧ ∀ d ∈ sv, 1 ≤ d ∧ d ≤ 7
theorem Ev1.sv {p : Nat} {sv : List Nat} (h : Ev1 sv) (h1 : 1 ≤ p ∧ p ≤ 6) : Sv p sv := ⟨h1, h.2.2⟩
def natsX : List D → Option (List Nat)
  | [] => some []
  | .int i :: ds => if 0 ≤ i then (natsX ds).map (i.toNat :: ·) else none
  | _ => none
theorem natsX_eq : ∀ {ds sv}, natsX ds = some sv → ds = sv.map nI
  | [], sv, h => by cases h; rfl
  | d :: ds, sv, h => by
    cases d with
    | int i =>
      simp only [natsX] at h
      split at h
      · simp only [Option.map_eq_some_iff] at h
        obtain ⟨ms, h1, rfl⟩ := h
        rw [natsX_eq h1, List.map_cons]
        congr 1
        show D.int i = D.int ((i.toNat : Nat) : Int)
        rw [Int.toNat_of_nonneg (by assumption)]
      · cases h
    | _ => cases h
def evX : List D → Option (List (List Nat))
  | [] => some []
  | .lst ds :: r => match natsX ds, evX r with
    | some sv, some l => some (sv :: l)
    | _, _ => none
  | _ => none
theorem evX_eq : ∀ {ds l}, evX ds = some l → ds = l.map nL
  | [], l, h => by cases h; rfl
  | d :: ds, l, h => by
    cases d with
    | lst es =>
      simp only [evX] at h
      split at h
      · rename_i sv l h1 h2
        cases h
        rw [natsX_eq h1, evX_eq h2, List.map_cons]
      · cases h
    | _ => cases h
def ckE (o : Option (SD × List (Option SD))) : Bool := match o with
  | some ((.o .f, .lst ds), [none]) => match evX ds with
    | some l => decide (0 < l.length) && decide (l.length ≤ 1000) && l.all fun sv => decide (0 < sv.length) && decide (sv.length ≤ 4) && sv.all fun d => decide (1 ≤ d) && decide (d ≤ 7)
    | none => false
  | _ => false
theorem ckE_eq {o : Option (SD × List (Option SD))} (h : ckE o = true) : ∃ l : List (List Nat), o = some ((.o .f, .lst (l.map nL)), [none]) ∧ 0 < l.length ∧ l.length ≤ 1000 ∧ ∀ sv ∈ l, Ev1 sv := by
  unfold ckE at h
  split at h
  · split at h
    · rename_i l hl
      simp only [Bool.and_eq_true, decide_eq_true_eq, List.all_eq_true] at h
      obtain ⟨⟨h1, h2⟩, h3⟩ := h
      rw [evX_eq hl]
      refine ⟨l, rfl, h1, h2, fun sv m => ?_⟩
      obtain ⟨⟨a, b⟩, c⟩ := h3 sv m
      exact ⟨List.length_pos_iff.mp a, b, c⟩
    · cases h
  · cases h
theorem ck_ev : ((List.range 2).all fun t => ckE (XM.x m_l_small_evenings [(.f, .int (4 + (t : Nat)))])) = true := by decide +kernel
theorem ev_spec {t : Nat} (h : t < 2) {R : SD → List (Option SD) → Prop} (hR : ∀ l : List (List Nat), 0 < l.length → l.length ≤ 1000 → (∀ sv ∈ l, Ev1 sv) → R (.o .f, .lst (l.map nL)) [none]) : m_l_small_evenings [(.f, .int (4 + t))] R := by
  obtain ⟨l, h1, h2, h3, h4⟩ := ckE_eq (allR ck_ev h)
  exact XM.ok _ _ _ _ h1 (hR l h2 h3 h4)
local macro_rules | `(tactic| walk_at "wp") => `(tactic| try simp only [↓x_sq, ↓x_skp, ↓x_brk, ↓x_cnt, ↓x_nvr, ↓x_drp, ↓x_ret, ↓x_retN, ↓x_iff, ↓x_asn, ↓x_asg, ↓x_gn, ↓x_gt, ↓x_gsnil, ↓x_gscons, ↓x_aug, ↓x_setS, ↓x_augS, ↓x_cst, ↓x_rd, ↓x_mv, ↓x_bi, ↓x_tst, ↓x_tnot, ↓x_tand, ↓x_tor, ↓x_tru, ↓x_vand, ↓x_vor, ↓x_vnot, ↓x_neg, ↓x_cnd, ↓x_chn, ↓x_ixS, ↓x_ix, ↓x_lenS, ↓x_inS, ↓x_anil, ↓x_acons, ↓x_bc, ↓x_tupE, ↓x_lstE, ↓x_dctE, ↓x_dc1, ↓x_mt, ↓x_cntS, ↓x_isi, ↓x_wix, ↓x_cnil, ↓x_cva, ↓x_cln, ↓x_cl, ↓x_sl, ↓x_onil, ↓x_osm, ↓x_fr, ↓x_frn, ↓x_ilst, ↓x_irg1, ↓x_irg2, ↓x_lc, ↓x_lcn, ↓look0, ↓lookS, ↓pin0, ↓pinS, ↓put0, ↓putSS, ↓set0, ↓setSu, ↓v_add, ↓v_addL, ↓v_addT, ↓v_mul, ↓v_mulL, ↓v_J, ↓v_I, ↓v_eq, ↓v_ne, ↓v_is, ↓v_isN, ↓v_isi, ↓v_isn, e_int, e_ni, e_in, e_nn, ↓f_int, ↓f_non, ↓f_bl, true_and, and_true, eq_self, ↓reduceIte, Bool.not_true, Bool.not_false, Bool.false_eq_true, List.map_cons, List.map_nil, List.length_cons, List.length_nil, Option.isSome_some, lendA, backA, okB, Option.map_some, isF, Bool.not_false, Bool.not_true, peek, lenD, itemsOf, lstOf, seqOf, backs, v_inK, v_setK, v_max2, v_min2, v_lenL, v_lenT, v_listL, v_tupL, v_intI, v_absI, ix30, ix31, ix32, st30, st31, st32, ix20, ix21, decide_true, decide_false, List.getElem?_cons_zero, List.getElem?_cons_succ, Bool.and_true, v_sumT])
/-- a row of drawn servings -/
theorem drawn_row {a b c : Int} {n : Int} (hn : n ≤ 4) {s1 s2 s3 s4 s5 s6 s7 s9 : Bool × Option SD} {Q : SD → Env → Prop}
    (hQ : ∀ a b c sv, sv.length = n.toNat → (∀ d ∈ sv, 1 ≤ d ∧ d ≤ 7) → Q (.o .f, nL sv) [(true, some (.o .f, stL a b c)), s1, s2, s3, s4, s5, s6, s7, (false, none), s9]) :
    lcB 8 tru (bi rAdd (cst (.int 1)) (cl m_l_draw (cln 0 (cva (cst (.int 7)) cnil)))) (rangeD 0 n) [(true, some (.o .f, stL a b c)), s1, s2, s3, s4, s5, s6, s7, (false, none), s9] Q := by
  refine lcB_of rfl (fun i acc e => ∃ a b c sv, sv.length = i ∧ (∀ d ∈ sv, 1 ≤ d ∧ d ≤ 7) ∧ acc = sv.map nI ∧ e = [(true, some (.o .f, stL a b c)), s1, s2, s3, s4, s5, s6, s7, (false, none), s9]) ⟨a, b, c, [], rfl, by simp, rfl, rfl⟩ ?_ ?_
  · rintro i d acc e hi ⟨a, b, c, sv, h1, h2, rfl, rfl⟩
    obtain ⟨rfl, hlt⟩ := rangeD_get0 hi
    simp only [inner, outer]
    walk_at "wp"
    refine draw_spec (by decide) (by decide) fun r a b c r0 r1 => ?_
    walk_at "wp"
    obtain ⟨k, rfl⟩ := Int.eq_ofNat_of_zero_le r0
    refine ⟨by rw [List.length_map]; show _ < 2 ^ 24; omega, a, b, c, sv ++ [1 + k], by simp [h1], ?_, ?_, rfl⟩
    · intro d hd
      rcases List.mem_append.mp hd with hd | hd
      · exact h2 d hd
      · rw [List.mem_singleton.mp hd]; omega
    · rw [List.map_append]
      congr 1
  · rintro acc e ⟨a, b, c, sv, h1, h2, rfl, rfl⟩
    rw [rangeD_len] at h1
    walk_at "wp"
    exact hQ a b c sv (by omega) h2
theorem couple_spec {p : Nat} {ks : List Nat} {a b c : Int} (hp : 1 ≤ p ∧ p ≤ 6) (T : Tb p ks) {R : SD → List (Option SD) → Prop}
    (hR : ∀ a b c sv sw ks, Ev1 sv → Ev1 sw → Tb p ks → R (.f, .tup [nL sv, nL sw]) [some (.o .f, stL a b c), none, some (.o .f, .dct (tb p ks))]) :
    m_l_couple [(.o .f, stL a b c), (.f, .int p), (.o .f, .dct (tb p ks))] R := by
  refine ⟨rfl, ?_⟩
  show t_l_couple _ [(true, some (.o .f, stL a b c)), (false, some (.f, .int p)), (true, some (.o .f, .dct (tb p ks))), (false, none), (false, none), (false, none), (false, none), (false, none), (false, none), (false, none)]
  unfold t_l_couple
  refine sq_of fun nx hk => ?_
  walk_at "wp"
  refine draw_spec (by decide) (by decide) fun kind a b c k0 k1 => ?_
  walk_at "wp"
  refine hk _ ?_
  clear hk nx
  refine sq_of fun nx hk => ?_
  walk_at "wp"
  by_cases hk0 : kind = 0
  · rw [decide_eq_true hk0]
    simp only [↓reduceIte]
    refine draw_spec (by decide) (by decide) fun r a b c r0 r1 => ?_
    walk_at "wp"
    refine ⟨by omega, by omega, drawn_row (by omega) fun a b c sv h1 h2 => ?_⟩
    walk_at "wp"
    refine draw_spec (by decide) (by decide) fun r2 a b c r02 r12 => ?_
    walk_at "wp"
    refine ⟨by omega, by omega, drawn_row (by omega) fun a b c sw h3 h4 => ?_⟩
    walk_at "wp"
    refine ⟨by decide, ?_⟩
    exact hR a b c sv sw ks ⟨List.length_pos_iff.mp (by omega), by omega, h2⟩ ⟨List.length_pos_iff.mp (by omega), by omega, h4⟩ T
  rw [decide_eq_false hk0]
  simp only [Bool.false_eq_true, ↓reduceIte]
  refine hk _ ?_
  clear hk nx
  refine sq_of fun nx hk => ?_
  walk_at "wp"
  refine draw_spec (by decide) (by decide) fun r a b c r0 r1 => ?_
  walk_at "wp"
  obtain ⟨t, rfl⟩ := Int.eq_ofNat_of_zero_le r0
  refine ev_spec (t := t) (by omega) fun evs l0 l1 hev => ?_
  walk_at "wp"
  refine hk _ ?_
  clear hk nx
  refine sq_of fun nx hk => ?_
  walk_at "wp"
  simp only [List.length_map]
  refine draw_spec (by omega) (by omega) fun r a b c r0 r1 => ?_
  walk_at "wp"
  obtain ⟨j, rfl⟩ := Int.eq_ofNat_of_zero_le r0
  have hj : j < evs.length := by omega
  refine v_ixL (x := nL evs[j]) (atI_nat (by rw [List.getElem?_map, List.getElem?_eq_getElem hj]; rfl)) ?_
  have one1 : Ev1 evs[j] := hev _ (List.getElem_mem hj)
  generalize evs[j] = one at one1 ⊢
  walk_at "wp"
  refine hk _ ?_
  clear hk nx
  have mixed : ∀ {sv : List Nat}, Ev1 sv → ∀ sw : List Nat, sw.length = sv.length → (∀ d ∈ sw, d ∈ sv) → Ev1 sw := fun h sw e m => ⟨fun z => by
    have := List.length_pos_iff.mpr h.1
    rw [z] at e
    simp at e
    omega, by have := h.2.1; omega, fun d hd => h.2.2 d (m d hd)⟩
  refine sq_of fun nx hk => ?_
  walk_at "wp"
  by_cases hk1 : kind = 1
  · rw [decide_eq_true hk1]
    simp only [↓reduceIte]
    refine mix_spec (by have := one1.2.1; omega) fun a b c sw e m => ?_
    walk_at "wp"
    refine ⟨by decide, ?_⟩
    exact hR a b c one sw ks one1 (mixed one1 sw e m) T
  rw [decide_eq_false hk1]
  simp only [Bool.false_eq_true, ↓reduceIte]
  refine hk _ ?_
  clear hk nx
  refine sq_of fun nx hk => ?_
  walk_at "wp"
  refine list_spec (one1.sv hp) one1.2.1 T fun ks T => ?_
  walk_at "wp"
  refine hk _ ?_
  clear hk nx
  refine sq_of fun nx hk => ?_
  walk_at "wp"
  refine lcB_of rfl (fun i acc e => ∃ ks al, Tb p ks ∧ al.length ≤ i ∧ (∀ sv ∈ al, Ev1 sv) ∧ acc = al.map nL ∧ e = [(true, some (.o .f, stL a b c)), (false, some (.f, .int p)), (true, some (.o .f, .dct (tb p ks))), (false, some (.f, .int kind)), (false, some (.f, nL one)), (false, some (.f, .lst (evs.map nL))), (false, some (.f, tupT (Ns p one) (Ps p one))), (false, none), (false, none), (false, none)]) ⟨ks, [], T, Nat.le_refl _, by simp, rfl, rfl⟩ ?_ ?_
  · rintro i d acc e hi ⟨ks, al, T, h1, h2, rfl, rfl⟩
    obtain ⟨row, hrow, rfl⟩ := getM hi
    have row1 : Ev1 row := hev _ (List.mem_of_getElem? hrow)
    have hlt := (List.getElem?_eq_some_iff.mp hrow).1
    simp only [inner, outer]
    walk_at "wp"
    rw [flat_nL, flat_nL]
    refine ⟨rfl, rfl, ?_⟩
    generalize (!eqD (nL row) (nL one)) = bb
    cases bb
    · simp only [Bool.false_eq_true, ↓reduceIte]
      exact ⟨ks, al, T, by omega, h2, rfl, rfl⟩
    · simp only [↓reduceIte]
      refine list_spec (row1.sv hp) row1.2.1 T fun ks T => ?_
      walk_at "wp"
      refine near_spec (k := 0) fun bb => ?_
      walk_at "wp"
      cases bb
      · simp only [Bool.false_eq_true, ↓reduceIte]
        exact ⟨ks, al, T, by omega, h2, rfl, rfl⟩
      · simp only [↓reduceIte]
        walk_at "wp"
        refine ⟨by rw [List.length_map]; show _ < 2 ^ 24; omega, ks, al ++ [row], T, by simp; omega, ?_, by simp, rfl⟩
        intro sv hsv
        rcases List.mem_append.mp hsv with hsv | hsv
        · exact h2 sv hsv
        · rw [List.mem_singleton.mp hsv]; exact row1
  · rintro acc e ⟨ks, al, T, h1, h2, rfl, rfl⟩
    rw [List.length_map] at h1
    walk_at "wp"
    refine hk _ ?_
    clear hk nx
    refine sq_of fun nx hk => ?_
    walk_at "wp"
    simp only [List.length_map]
    by_cases ha : (al.length : Int) = 0
    · rw [decide_eq_true ha]
      simp only [↓reduceIte]
      refine mix_spec (by have := one1.2.1; omega) fun a b c sw e m => ?_
      walk_at "wp"
      refine ⟨by decide, ?_⟩
      exact hR a b c one sw ks one1 (mixed one1 sw e m) T
    rw [decide_eq_false ha]
    simp only [Bool.false_eq_true, ↓reduceIte]
    refine hk _ ?_
    clear hk nx
    walk_at "wp"
    refine mix_spec (by have := one1.2.1; omega) fun a b c sv e m => ?_
    walk_at "wp"
    simp only [List.length_map]
    refine draw_spec (by omega) (by omega) fun r a b c r0 r1 => ?_
    walk_at "wp"
    obtain ⟨j, rfl⟩ := Int.eq_ofNat_of_zero_le r0
    have hj : j < al.length := by omega
    refine v_ixL (x := nL al[j]) (atI_nat (by rw [List.getElem?_map, List.getElem?_eq_getElem hj]; rfl)) ?_
    have two1 : Ev1 al[j] := h2 _ (List.getElem_mem hj)
    generalize al[j] = two at two1 ⊢
    walk_at "wp"
    refine mix_spec (by have := two1.2.1; omega) fun a b c sw e2 m2 => ?_
    walk_at "wp"
    refine ⟨by decide, ?_⟩
    exact hR a b c sv sw ks (mixed one1 sv e m) (mixed two1 sw e2 m2) T
end DL.K82
set_option Elab.async false
set_option linter.all false
set_option maxRecDepth 100000
set_option maxHeartbeats 4000000
namespace DL.K82
open PySem PySem.Spec PyProof.Rows L2
theorem flat_due {n : Nat} {o : Option Int} : flat n (dueD o) = true := by cases o <;> first | exact f_non | exact f_int
theorem eq_due {i : Int} {o : Option Int} : eqD (.int i) (dueD o) = decide (o = some i) := by
  cases o with
  | none => rw [show dueD none = .non from rfl, e_in]; simp
  | some j =>
    rw [show dueD (some j) = .int j from rfl, e_int]
    by_cases h : i = j
    · simp [h]
    · have : ¬ j = i := fun e => h e.symm
      simp [h, this]
theorem iff_any {c : TTd} {t u : TSd} {D : EndsD} {env : Env} (hc : ∀ q : Bool → Env → Prop, (∀ b, q b env) → c env q) (ht : t D env) (hu : u D env) : iff c t u D env := hc _ fun b => by
  cases b
  · rw [if_neg (by simp)]; exact hu
  · rw [if_pos rfl]; exact ht
def Gv (p : Nat) (sv : List Nat) (q : Int) : Int := Ns p sv + gr p (Ps p sv) q
theorem Tv_Gv {p : Nat} {sv : List Nat} (s : Sv p sv) (hs : sv ≠ []) {q : Int} (h0 : 0 ≤ q) (hq : q ≤ 40) : Tv p sv 0 q = Gv p sv q := by
  unfold Tv Gv
  rw [if_pos rfl]
  exact long_eq s hs h0 hq
theorem due_ne {p : Nat} {sv sw : List Nat} (s : Sv p sv) (t : Sv p sw) {q : Int} (h0 : 0 ≤ q) (h : Gv p sv q ≠ Gv p sw q) : ∃ d, due p sv sw = some d ∧ d ≤ q := by
  unfold due
  have hp : (1 : Int) ≤ p := by have := s.1.1; omega
  by_cases hN : Ns p sv = Ns p sw
  · rw [if_pos hN]
    cases hd : pt (Ps p sv) (Ps p sw) with
    | none => exact (h (by unfold Gv; rw [hN, pt_none hd])).elim
    | some d =>
      obtain ⟨h1, h2, h3⟩ := pt_some hp (Ps_in s) (Ps_in t) hd
      refine ⟨d, rfl, ?_⟩
      rcases Int.lt_or_le q d with l | l
      · exact (h (by unfold Gv; rw [hN, h2 q h0 l])).elim
      · exact l
  · rw [if_neg hN]; exact ⟨0, rfl, h0⟩
theorem due_at {p : Nat} {sv sw : List Nat} (s : Sv p sv) (t : Sv p sw) {d : Int} (h : due p sv sw = some d) : Gv p sv d ≠ Gv p sw d := by
  unfold due at h
  have hp : (1 : Int) ≤ p := by have := s.1.1; omega
  by_cases hN : Ns p sv = Ns p sw
  · rw [if_pos hN] at h
    obtain ⟨h1, h2, h3⟩ := pt_some hp (Ps_in s) (Ps_in t) h
    unfold Gv
    omega
  · rw [if_neg hN] at h
    cases h
    unfold Gv
    rw [gr_zero hp (Ps_in s), gr_zero hp (Ps_in t)]
    omega
theorem due_comm {p : Nat} {sv sw : List Nat} : due p sw sv = due p sv sw := by
  unfold due
  rw [pt_comm]
  by_cases h : Ns p sv = Ns p sw
  · rw [if_pos h, if_pos h.symm]
  · rw [if_neg h, if_neg fun e => h e.symm]
theorem sum_nn : ∀ {A : List Int}, NN A → 0 ≤ A.sum
  | [], _ => Int.le_refl _
  | a :: A, h => by
    have := sum_nn h.tl
    have := h.hd
    rw [List.sum_cons]; omega
theorem m2_cons {a : SD} {l : List SD} : List.map (fun x : SD => x.2) (a :: l) = a.2 :: List.map (fun x : SD => x.2) l := rfl
local macro_rules | `(tactic| walk_at "wp") => `(tactic| try simp -implicitDefEqProofs only [↓x_sq, ↓x_skp, ↓x_brk, ↓x_cnt, ↓x_nvr, ↓x_drp, ↓x_ret, ↓x_retN, ↓x_iff, ↓x_asn, ↓x_asg, ↓x_gn, ↓x_gt, ↓x_gsnil, ↓x_gscons, ↓x_aug, ↓x_setS, ↓x_augS, ↓x_cst, ↓x_rd, ↓x_mv, ↓x_bi, ↓x_tst, ↓x_tnot, ↓x_tand, ↓x_tor, ↓x_tru, ↓x_vand, ↓x_vor, ↓x_vnot, ↓x_neg, ↓x_cnd, ↓x_chn, ↓x_ixS, ↓x_ix, ↓x_lenS, ↓x_inS, ↓x_anil, ↓x_acons, ↓x_bc, ↓x_tupE, ↓x_lstE, ↓x_dctE, ↓x_dc1, ↓x_mt, ↓x_cntS, ↓x_isi, ↓x_wix, ↓x_cnil, ↓x_cva, ↓x_cln, ↓x_cl, ↓x_sl, ↓x_onil, ↓x_osm, ↓x_fr, ↓x_frn, ↓x_ilst, ↓x_irg1, ↓x_irg2, ↓x_lc, ↓x_lcn, ↓look0, ↓lookS, ↓pin0, ↓pinS, ↓put0, ↓putSS, ↓set0, ↓setSu, ↓v_add, ↓v_addL, ↓v_addT, ↓v_mul, ↓v_mulL, ↓v_J, ↓v_I, ↓v_eq, ↓v_ne, ↓v_is, ↓v_isN, ↓v_isi, ↓v_isn, e_int, e_ni, e_in, e_nn, ↓f_int, ↓f_non, ↓f_bl, true_and, and_true, eq_self, ↓reduceIte, Bool.not_true, Bool.not_false, Bool.false_eq_true, m2_cons, List.map_nil, List.length_cons, List.length_nil, Option.isSome_some, lendA, backA, okB, Option.map_some, isF, Bool.not_false, Bool.not_true, peek, lenD, itemsOf, lstOf, seqOf, backs, v_inK, v_setK, v_max2, v_min2, v_lenL, v_lenT, v_listL, v_tupL, v_intI, v_absI, ix30, ix31, ix32, st30, st31, st32, ix20, ix21, decide_true, decide_false, List.getElem?_cons_zero, List.getElem?_cons_succ, Bool.and_true, v_sumT, flat_due, eq_due])
theorem right_spec {p : Nat} {sv sw ks : List Nat} (hp : 1 ≤ p ∧ p ≤ 6) (e1 : Ev1 sv) (e2 : Ev1 sw) (T : Tb p ks) {R : SD → List (Option SD) → Prop} (hR : ∀ ks, Tb p ks → R (.f, .bl true) [none, none, none, some (.o .f, .dct (tb p ks))]) : m_l_couple_right [(.f, .int p), (.f, nL sv), (.f, nL sw), (.o .f, .dct (tb p ks))] R := by
  have s := e1.sv hp
  have t := e2.sv hp
  have la := Ps_len s e1.2.1
  have lb := Ps_len t e2.2.1
  refine ⟨rfl, ?_⟩
  show t_l_couple_right _ [(false, some (.f, .int p)), (false, some (.f, nL sv)), (false, some (.f, nL sw)), (true, some (.o .f, .dct (tb p ks))), (false, none), (false, none), (false, none), (false, none), (false, none), (false, none), (false, none)]
  unfold t_l_couple_right
  have fd : ∀ {d : Option Int} {R : SD → List (Option SD) → Prop}, R (.f, .bl true) [none, none] → m_l_matches [(.f, dueD d), (.f, dueD d)] R := fun h => matches_due h
  have fi : ∀ {i j : Int} {R : SD → List (Option SD) → Prop}, R (.f, .bl (decide (i = j))) [none, none] → m_l_matches [(.f, .int i), (.f, .int j)] R := fun h => matches_int h
  have fl : ∀ {ns : List Int} {R : SD → List (Option SD) → Prop}, ns.length ≤ 1000 → R (.f, .bl true) [none, none] → m_l_matches [(.f, iL ns), (.f, iL ns)] R := fun h k => matches_list h k
  revert fd fi fl
  generalize m_l_matches = MM
  intro fd fi fl
  have h_part_spec := @part_spec
  revert h_part_spec
  generalize m_parting_purse = F_part_spec
  intro h_part_spec
  have h_longest_spec := @longest_spec
  revert h_longest_spec
  generalize m_longest_evening = F_longest_spec
  intro h_longest_spec
  have h_longt_spec := @longt_spec
  revert h_longt_spec
  generalize m_l_longest = F_longt_spec
  intro h_longt_spec
  have h_list_spec := @list_spec
  revert h_list_spec
  generalize m_l_list = F_list_spec
  intro h_list_spec
  have h_lparted_spec := @lparted_spec
  revert h_lparted_spec
  generalize m_l_parted = F_lparted_spec
  intro h_lparted_spec
  have h_round_spec := @round_spec
  revert h_round_spec
  generalize m_round_rises = F_round_spec
  intro h_round_spec
  have h_lrises_spec := @lrises_spec
  revert h_lrises_spec
  generalize m_l_rises = F_lrises_spec
  intro h_lrises_spec
  refine sq_of fun nx hk => ?_
  walk_at "wp"
  refine h_list_spec s e1.2.1 T fun ks T => ?_
  walk_at "wp"
  refine hk _ ?_
  clear hk nx
  refine sq_of fun nx hk => ?_
  walk_at "wp"
  refine h_list_spec t e2.2.1 T fun ks T => ?_
  walk_at "wp"
  refine hk _ ?_
  clear hk nx
  refine sq_of fun nx hk => ?_
  walk_at "wp"
  refine h_lparted_spec (Ps_in s) (Ps_in t) la lb ?_
  rw [show (if Ns p sv = Ns p sw then pt (Ps p sv) (Ps p sw) else some 0) = due p sv sw from rfl]
  walk_at "wp"
  refine hk _ ?_
  clear hk nx
  refine sq_of fun nx hk => ?_
  walk_at "wp"
  refine h_part_spec s t e1.1 e2.1 e1.2.1 e2.2.1 ?_
  walk_at "wp"
  refine fd ?_
  walk_at "wp"
  refine hk _ ?_
  clear hk nx
  refine sq_of fun nx hk => ?_
  walk_at "wp"
  refine h_part_spec t s e2.1 e1.1 e2.2.1 e1.2.1 ?_
  rw [due_comm (sv := sv) (sw := sw)]
  walk_at "wp"
  refine fd ?_
  walk_at "wp"
  refine hk _ ?_
  clear hk nx
  refine sq_of fun nx hk => ?_
  walk_at "wp"
  refine ⟨.inl (by decide), ?_⟩
  have n1 := sum_nn (A := Ps p sv) fun a m => by have := (Ps_in s a m).1; omega
  have n2 := sum_nn (A := Ps p sw) fun a m => by have := (Ps_in t a m).1; omega
  generalize (Ps p sv).sum = u1 at n1 ⊢
  generalize (Ps p sw).sum = u2 at n2 ⊢
  have hM : ∃ M : Nat, (if (if u2 > u1 then u2 else u1) + 2 * (p : Int) < 40 then (if u2 > u1 then u2 else u1) + 2 * (p : Int) else 40) = (M : Int) ∧ M ≤ 40 := by
    refine ⟨(if (if u2 > u1 then u2 else u1) + 2 * (p : Int) < 40 then (if u2 > u1 then u2 else u1) + 2 * (p : Int) else 40).toNat, ?_, ?_⟩
    · rw [Int.toNat_of_nonneg]
      split
      · split <;> omega
      · omega
    · split
      · omega
      · omega
  obtain ⟨M, eM, hM⟩ := hM
  rw [eM]
  refine hk _ ?_
  clear hk nx
  refine sq_of fun nx hk => ?_
  walk_at "wp"
  refine h_longt_spec s e1.1 e1.2.1 hM ?_
  walk_at "wp"
  refine hk _ ?_
  clear hk nx
  refine sq_of fun nx hk => ?_
  walk_at "wp"
  refine h_longt_spec t e2.1 e2.2.1 hM ?_
  walk_at "wp"
  refine hk _ ?_
  clear hk nx
  have row : ∀ {sv : List Nat} (s : Sv p sv) (hs : sv ≠ []) {q : Nat}, q < M + 1 → ∀ {k : SD → Prop}, k (.f, .int (Gv p sv q)) → ixD (iL (rowT p sv 0 (M + 1))) (.int (q : Int)) k := by
    intro sv s hs q hq k h
    refine at_i (by rw [rowT_len]; exact hq) ?_
    rw [rowT_get, Tv_Gv s hs (by omega) (by omega)]
    exact h
  have rowS : ∀ {sv : List Nat} (s : Sv p sv) (hs : sv ≠ []) {q : Nat}, q < M + 1 → ∀ {k : SD → Prop}, k (.f, .int (Gv p sv q)) → ixD (.lst ((rowT p sv 0 (M + 1)).map .int)) (.int (q : Int)) k := fun s hs _ hq _ h => row s hs hq h
  refine sq_of fun nx hk => ?_
  walk_at "wp"
  refine ⟨by omega, by omega, ?_⟩
  refine frB_of (fun i e => ∃ o, e = [(false, some (.f, .int p)), (false, some (.f, nL sv)), (false, some (.f, nL sw)), (true, some (.o .f, .dct (tb p ks))), (false, some (.f, tupT (Ns p sv) (Ps p sv))), (false, some (.f, tupT (Ns p sw) (Ps p sw))), (false, some (.f, dueD (due p sv sw))), (false, some (.f, .int M)), (false, some (.f, iL (rowT p sv 0 (M + 1)))), (false, some (.f, iL (rowT p sw 0 (M + 1)))), (false, o)]) ⟨none, rfl⟩ ?_ ?_
  · rintro i d e nx2 hn ⟨o, rfl⟩ k
    obtain ⟨rfl, hi⟩ := rangeD_get0 hn
    have hi : i < M + 1 := by omega
    refine gn_of rfl (sq_of fun nx3 hk3 => ?_)
    walk_at "wp"
    refine row s e1.1 hi ?_
    walk_at "wp"
    refine row t e2.1 hi ?_
    walk_at "wp"
    have go : nx3 [(false, some (.f, .int p)), (false, some (.f, nL sv)), (false, some (.f, nL sw)), (true, some (.o .f, .dct (tb p ks))), (false, some (.f, tupT (Ns p sv) (Ps p sv))), (false, some (.f, tupT (Ns p sw) (Ps p sw))), (false, some (.f, dueD (due p sv sw))), (false, some (.f, .int M)), (false, some (.f, iL (rowT p sv 0 (M + 1)))), (false, some (.f, iL (rowT p sw 0 (M + 1)))), (false, some (.f, .int i))] := by
      refine hk3 _ ?_
      clear hk3 nx3
      refine sq_of fun nx4 hk4 => ?_
      have go : nx4 [(false, some (.f, .int p)), (false, some (.f, nL sv)), (false, some (.f, nL sw)), (true, some (.o .f, .dct (tb p ks))), (false, some (.f, tupT (Ns p sv) (Ps p sv))), (false, some (.f, tupT (Ns p sw) (Ps p sw))), (false, some (.f, dueD (due p sv sw))), (false, some (.f, .int M)), (false, some (.f, iL (rowT p sv 0 (M + 1)))), (false, some (.f, iL (rowT p sw 0 (M + 1)))), (false, some (.f, .int i))] := by
        refine hk4 _ (iff_any ?_ ?_ ?_)
        · intro q h
          walk_at "wp"
          refine ⟨by decide, by decide, ?_⟩
          split
          · exact h _
          · split
            · exact h _
            · exact h _
        · refine sq_of fun nx5 hk5 => ?_
          walk_at "wp"
          refine h_longest_spec s e1.1 e1.2.1 (by omega) (by omega) ?_
          walk_at "wp"
          refine row s e1.1 hi ?_
          walk_at "wp"
          refine fi ?_
          rw [show decide ((Ns p sv : Int) + gr p (Ps p sv) i = Gv p sv i) = true from decide_eq_true rfl]
          walk_at "wp"
          refine hk5 _ ?_
          walk_at "wp"
          refine h_longest_spec t e2.1 e2.2.1 (by omega) (by omega) ?_
          walk_at "wp"
          refine row t e2.1 hi ?_
          walk_at "wp"
          refine fi ?_
          rw [show decide ((Ns p sw : Int) + gr p (Ps p sw) i = Gv p sw i) = true from decide_eq_true rfl]
          walk_at "wp"
          exact k _ ⟨_, rfl⟩
        · walk_at "wp"
          exact k _ ⟨_, rfl⟩
      walk_at "wp"
      by_cases hd : due p sv sw = some (i : Int)
      · rw [decide_eq_true hd]
        simp only [↓reduceIte]
        refine row s e1.1 hi ?_
        walk_at "wp"
        refine row t e2.1 hi ?_
        walk_at "wp"
        rw [decide_eq_false (due_at s t hd)]
        simp only [Bool.false_eq_true, ↓reduceIte]
        exact go
      · rw [decide_eq_false hd]
        simp only [Bool.false_eq_true, ↓reduceIte]
        exact go
    by_cases hG : Gv p sv i = Gv p sw i
    · rw [decide_eq_true hG]
      simp only [Bool.not_true, Bool.false_eq_true, ↓reduceIte]
      exact go
    · rw [decide_eq_false hG]
      obtain ⟨d, hd, hle⟩ := due_ne s t (q := i) (by omega) hG
      rw [hd] at go ⊢
      simp only [dueD, Bool.not_false, ↓reduceIte]
      walk_at "wp"
      rw [decide_eq_false (by omega : ¬ (i : Int) < d)]
      simp only [Bool.false_eq_true, ↓reduceIte]
      exact go
  · rintro e ⟨o, rfl⟩
    refine hk _ ?_
    clear hk nx
    walk_at "wp"
    cases sv with
    | nil => exact (e1.1 rfl).elim
    | cons d sv =>
      refine v_ixL (x := nI d) (atI_nat (i := 0) rfl) ?_
      walk_at "wp"
      refine h_round_spec s.hd ?_
      walk_at "wp"
      refine v_ixL (x := nI d) (atI_nat (i := 0) rfl) ?_
      walk_at "wp"
      refine h_lrises_spec s.hd ?_
      walk_at "wp"
      refine fl (by have := s.hd.all.2.2.1; omega) ?_
      walk_at "wp"
      exact hR ks T
theorem law_true (ns : List Int) (h : ns.length ≤ 63) : m_law [(.f, .ro (ns.map .int))] fun sd _ => sd.2 = .bl true := by
  refine ⟨rfl, ?_⟩
  show t_law _ [(false, some (.f, .ro (ns.map .int))), (false, none), (false, none), (false, none), (false, none), (false, none), (false, none), (false, none)]
  unfold t_law
  have h_stock_spec := @stock_spec
  revert h_stock_spec
  generalize m_l_stock = F_stock_spec
  intro h_stock_spec
  have h_draw_spec := @draw_spec
  revert h_draw_spec
  generalize m_l_draw = F_draw_spec
  intro h_draw_spec
  have h_couple_spec := @couple_spec
  revert h_couple_spec
  generalize m_l_couple = F_couple_spec
  intro h_couple_spec
  have h_right_spec := @right_spec
  revert h_right_spec
  generalize m_l_couple_right = F_right_spec
  intro h_right_spec
  refine sq_of fun nx hk => ?_
  walk_at "wp"
  refine ⟨by decide, by decide, ?_⟩
  refine frB_of (fun i e => ∃ o1 o2 o3 o4 o5 o6 o7, e = [(false, some (.f, .ro (ns.map .int))), (false, o1), (false, o2), (false, o3), (false, o4), (false, o5), (false, o6), (false, o7)]) ⟨none, none, none, none, none, none, none, rfl⟩ ?_ ?_
  · rintro i d e nx2 hn ⟨o1, o2, o3, o4, o5, o6, o7, rfl⟩ k
    obtain ⟨rfl, hi⟩ := rangeD_get0 hn
    refine gn_of rfl (sq_of fun nx3 hk3 => ?_)
    walk_at "wp"
    refine h_stock_spec (by omega) fun a b c => ?_
    walk_at "wp"
    refine hk3 _ ?_
    clear hk3 nx3
    refine sq_of fun nx3 hk3 => ?_
    walk_at "wp"
    refine h_draw_spec (by decide) (by decide) fun r a b c r0 r1 => ?_
    walk_at "wp"
    obtain ⟨p, rfl⟩ := Int.eq_ofNat_of_zero_le r0
    rw [show (1 : Int) + (p : Int) = ((1 + p : Nat) : Int) by omega]
    refine hk3 _ ?_
    clear hk3 nx3
    have hp : 1 ≤ 1 + p ∧ 1 + p ≤ 6 := by omega
    generalize 1 + p = p at hp ⊢
    refine sq_of fun nx3 hk3 => ?_
    walk_at "wp"
    refine hk3 _ ?_
    clear hk3 nx3
    walk_at "wp"
    refine ⟨by decide, by decide, ?_⟩
    refine frB_of (fun j e => ∃ a b c ks o5 o6 o7, Tb p ks ∧ e = [(false, some (.f, .ro (ns.map .int))), (false, some (.f, .int i)), (false, some (.o .f, stL a b c)), (false, some (.f, .int p)), (false, some (.o .f, .dct (tb p ks))), (false, o5), (false, o6), (false, o7)]) ⟨a, b, c, [], o5, o6, o7, ⟨by simp, .nil⟩, rfl⟩ ?_ ?_
    · rintro j d e nx3 hn ⟨a, b, c, ks, o5, o6, o7, T, rfl⟩ k3
      obtain ⟨rfl, hj⟩ := rangeD_get0 hn
      refine gn_of rfl (sq_of fun nx4 hk4 => ?_)
      walk_at "wp"
      refine h_couple_spec hp T fun a b c sv sw ks e1 e2 T => ?_
      walk_at "wp"
      refine hk4 _ ?_
      clear hk4 nx4
      walk_at "wp"
      refine h_right_spec hp e1 e2 T fun ks T => ?_
      walk_at "wp"
      exact k3 _ ⟨a, b, c, ks, _, _, _, T, rfl⟩
    · rintro e ⟨a, b, c, ks, o5, o6, o7, T, rfl⟩
      exact k _ ⟨_, _, _, _, _, _, _, rfl⟩
  · rintro e ⟨o1, o2, o3, o4, o5, o6, o7, rfl⟩
    refine hk _ ?_
    walk_at "wp"
end DL.K82
set_option Elab.async false
set_option linter.all false
set_option maxRecDepth 100000
set_option maxHeartbeats 4000000
namespace DL.K82
open PySem PySem.Spec PyProof.Rows L2
/-! the end -/
theorem all_mk {l : PySem.W.OpenLaw} {w : World} {K : PySem.W.Frag} {h : Heap} {mg : Str → Option Value} {fa : Addr} (X : K.In h) (G : h.Ns mainGlobals mg) (hfa : mg "law" = some (.ref fa))
    {f_check : Addr} {oc_check kV_check dc_check pm_check cd_check ct_check : Value} {od_check an_check : Option Addr} {sl_check : Array (Option Value)}
    {f_check_each : Addr} {oc_check_each kV_check_each dc_check_each pm_check_each cd_check_each ct_check_each : Value} {od_check_each an_check_each : Option Addr} {sl_check_each : Array (Option Value)}
    {f_sums_behind : Addr} {oc_sums_behind kV_sums_behind dc_sums_behind pm_sums_behind cd_sums_behind ct_sums_behind : Value} {od_sums_behind an_sums_behind : Option Addr} {sl_sums_behind : Array (Option Value)}
    {f_rises_of : Addr} {oc_rises_of kV_rises_of dc_rises_of pm_rises_of cd_rises_of ct_rises_of : Value} {od_rises_of an_rises_of : Option Addr} {sl_rises_of : Array (Option Value)}
    {f_check_servings : Addr} {oc_check_servings kV_check_servings dc_check_servings pm_check_servings cd_check_servings ct_check_servings : Value} {od_check_servings an_check_servings : Option Addr} {sl_check_servings : Array (Option Value)}
    {f_all_rises : Addr} {oc_all_rises kV_all_rises dc_all_rises pm_all_rises cd_all_rises ct_all_rises : Value} {od_all_rises an_all_rises : Option Addr} {sl_all_rises : Array (Option Value)}
    {f_longest_evening : Addr} {oc_longest_evening kV_longest_evening dc_longest_evening pm_longest_evening cd_longest_evening ct_longest_evening : Value} {od_longest_evening an_longest_evening : Option Addr} {sl_longest_evening : Array (Option Value)}
    {f_parting_purse : Addr} {oc_parting_purse kV_parting_purse dc_parting_purse pm_parting_purse cd_parting_purse ct_parting_purse : Value} {od_parting_purse an_parting_purse : Option Addr} {sl_parting_purse : Array (Option Value)}
    {f_round_rises : Addr} {oc_round_rises kV_round_rises dc_round_rises pm_round_rises cd_round_rises ct_round_rises : Value} {od_round_rises an_round_rises : Option Addr} {sl_round_rises : Array (Option Value)}
    {f_l_even : Addr} {oc_l_even kV_l_even dc_l_even pm_l_even cd_l_even ct_l_even : Value} {od_l_even an_l_even : Option Addr} {sl_l_even : Array (Option Value)}
    {f_l_least_sum : Addr} {oc_l_least_sum kV_l_least_sum dc_l_least_sum pm_l_least_sum cd_l_least_sum ct_l_least_sum : Value} {od_l_least_sum an_l_least_sum : Option Addr} {sl_l_least_sum : Array (Option Value)}
    {f_l_rises : Addr} {oc_l_rises kV_l_rises dc_l_rises pm_l_rises cd_l_rises ct_l_rises : Value} {od_l_rises an_l_rises : Option Addr} {sl_l_rises : Array (Option Value)}
    {f_l_longest : Addr} {oc_l_longest kV_l_longest dc_l_longest pm_l_longest cd_l_longest ct_l_longest : Value} {od_l_longest an_l_longest : Option Addr} {sl_l_longest : Array (Option Value)}
    {f_l_stock : Addr} {oc_l_stock kV_l_stock dc_l_stock pm_l_stock cd_l_stock ct_l_stock : Value} {od_l_stock an_l_stock : Option Addr} {sl_l_stock : Array (Option Value)}
    {f_l_draw : Addr} {oc_l_draw kV_l_draw dc_l_draw pm_l_draw cd_l_draw ct_l_draw : Value} {od_l_draw an_l_draw : Option Addr} {sl_l_draw : Array (Option Value)}
    {f_l_mix : Addr} {oc_l_mix kV_l_mix dc_l_mix pm_l_mix cd_l_mix ct_l_mix : Value} {od_l_mix an_l_mix : Option Addr} {sl_l_mix : Array (Option Value)}
    {f_l_matches : Addr} {oc_l_matches kV_l_matches dc_l_matches pm_l_matches cd_l_matches ct_l_matches : Value} {od_l_matches an_l_matches : Option Addr} {sl_l_matches : Array (Option Value)}
    {f_l_list : Addr} {oc_l_list kV_l_list dc_l_list pm_l_list cd_l_list ct_l_list : Value} {od_l_list an_l_list : Option Addr} {sl_l_list : Array (Option Value)}
    {f_l_small_evenings : Addr} {oc_l_small_evenings kV_l_small_evenings dc_l_small_evenings pm_l_small_evenings cd_l_small_evenings ct_l_small_evenings : Value} {od_l_small_evenings an_l_small_evenings : Option Addr} {sl_l_small_evenings : Array (Option Value)}
    {f_l_parted : Addr} {oc_l_parted kV_l_parted dc_l_parted pm_l_parted cd_l_parted ct_l_parted : Value} {od_l_parted an_l_parted : Option Addr} {sl_l_parted : Array (Option Value)}
    {f_l_near : Addr} {oc_l_near kV_l_near dc_l_near pm_l_near cd_l_near ct_l_near : Value} {od_l_near an_l_near : Option Addr} {sl_l_near : Array (Option Value)}
    {f_l_couple : Addr} {oc_l_couple kV_l_couple dc_l_couple pm_l_couple cd_l_couple ct_l_couple : Value} {od_l_couple an_l_couple : Option Addr} {sl_l_couple : Array (Option Value)}
    {f_l_couple_right : Addr} {oc_l_couple_right kV_l_couple_right dc_l_couple_right pm_l_couple_right cd_l_couple_right ct_l_couple_right : Value} {od_l_couple_right an_l_couple_right : Option Addr} {sl_l_couple_right : Array (Option Value)}
    {f_law : Addr} {oc_law kV_law dc_law pm_law cd_law ct_law : Value} {od_law an_law : Option Addr} {sl_law : Array (Option Value)}
    {ta_LIMITS : Addr} {te_LIMITS : Array DictEntry} {tn_LIMITS : Nat} {tt_LIMITS_0 : Tok} {tt_LIMITS_1 : Tok} {tt_LIMITS_2 : Tok} {tt_LIMITS_3 : Tok}
    (a_check : PySem.W.nsIn K mainGlobals "check" = some (some (.ref f_check))) (l_check : K.lookup f_check = some ⟨oc_check, od_check, .func (PySem.W.fnOf "check" "check" (defArgs s_check) (defBody s_check) (defScope s_check) .none kV_check dc_check pm_check an_check cd_check ct_check), sl_check⟩) (c_check : PySem.W.codeIn K cd_check "check" = true) (k_check : PySem.W.keepIn K (.ref f_check) = true)
    (a_check_each : PySem.W.nsIn K mainGlobals "check_each" = some (some (.ref f_check_each))) (l_check_each : K.lookup f_check_each = some ⟨oc_check_each, od_check_each, .func (PySem.W.fnOf "check_each" "check_each" (defArgs s_check_each) (defBody s_check_each) (defScope s_check_each) .none kV_check_each dc_check_each pm_check_each an_check_each cd_check_each ct_check_each), sl_check_each⟩) (c_check_each : PySem.W.codeIn K cd_check_each "check_each" = true) (k_check_each : PySem.W.keepIn K (.ref f_check_each) = true)
    (a_sums_behind : PySem.W.nsIn K mainGlobals "sums_behind" = some (some (.ref f_sums_behind))) (l_sums_behind : K.lookup f_sums_behind = some ⟨oc_sums_behind, od_sums_behind, .func (PySem.W.fnOf "sums_behind" "sums_behind" (defArgs s_sums_behind) (defBody s_sums_behind) (defScope s_sums_behind) .none kV_sums_behind dc_sums_behind pm_sums_behind an_sums_behind cd_sums_behind ct_sums_behind), sl_sums_behind⟩) (c_sums_behind : PySem.W.codeIn K cd_sums_behind "sums_behind" = true) (k_sums_behind : PySem.W.keepIn K (.ref f_sums_behind) = true)
    (a_rises_of : PySem.W.nsIn K mainGlobals "rises_of" = some (some (.ref f_rises_of))) (l_rises_of : K.lookup f_rises_of = some ⟨oc_rises_of, od_rises_of, .func (PySem.W.fnOf "rises_of" "rises_of" (defArgs s_rises_of) (defBody s_rises_of) (defScope s_rises_of) .none kV_rises_of dc_rises_of pm_rises_of an_rises_of cd_rises_of ct_rises_of), sl_rises_of⟩) (c_rises_of : PySem.W.codeIn K cd_rises_of "rises_of" = true) (k_rises_of : PySem.W.keepIn K (.ref f_rises_of) = true)
    (a_check_servings : PySem.W.nsIn K mainGlobals "check_servings" = some (some (.ref f_check_servings))) (l_check_servings : K.lookup f_check_servings = some ⟨oc_check_servings, od_check_servings, .func (PySem.W.fnOf "check_servings" "check_servings" (defArgs s_check_servings) (defBody s_check_servings) (defScope s_check_servings) .none kV_check_servings dc_check_servings pm_check_servings an_check_servings cd_check_servings ct_check_servings), sl_check_servings⟩) (c_check_servings : PySem.W.codeIn K cd_check_servings "check_servings" = true) (k_check_servings : PySem.W.keepIn K (.ref f_check_servings) = true)
    (a_all_rises : PySem.W.nsIn K mainGlobals "all_rises" = some (some (.ref f_all_rises))) (l_all_rises : K.lookup f_all_rises = some ⟨oc_all_rises, od_all_rises, .func (PySem.W.fnOf "all_rises" "all_rises" (defArgs s_all_rises) (defBody s_all_rises) (defScope s_all_rises) .none kV_all_rises dc_all_rises pm_all_rises an_all_rises cd_all_rises ct_all_rises), sl_all_rises⟩) (c_all_rises : PySem.W.codeIn K cd_all_rises "all_rises" = true) (k_all_rises : PySem.W.keepIn K (.ref f_all_rises) = true)
    (a_longest_evening : PySem.W.nsIn K mainGlobals "longest_evening" = some (some (.ref f_longest_evening))) (l_longest_evening : K.lookup f_longest_evening = some ⟨oc_longest_evening, od_longest_evening, .func (PySem.W.fnOf "longest_evening" "longest_evening" (defArgs s_longest_evening) (defBody s_longest_evening) (defScope s_longest_evening) .none kV_longest_evening dc_longest_evening pm_longest_evening an_longest_evening cd_longest_evening ct_longest_evening), sl_longest_evening⟩) (c_longest_evening : PySem.W.codeIn K cd_longest_evening "longest_evening" = true) (k_longest_evening : PySem.W.keepIn K (.ref f_longest_evening) = true)
    (a_parting_purse : PySem.W.nsIn K mainGlobals "parting_purse" = some (some (.ref f_parting_purse))) (l_parting_purse : K.lookup f_parting_purse = some ⟨oc_parting_purse, od_parting_purse, .func (PySem.W.fnOf "parting_purse" "parting_purse" (defArgs s_parting_purse) (defBody s_parting_purse) (defScope s_parting_purse) .none kV_parting_purse dc_parting_purse pm_parting_purse an_parting_purse cd_parting_purse ct_parting_purse), sl_parting_purse⟩) (c_parting_purse : PySem.W.codeIn K cd_parting_purse "parting_purse" = true) (k_parting_purse : PySem.W.keepIn K (.ref f_parting_purse) = true)
    (a_round_rises : PySem.W.nsIn K mainGlobals "round_rises" = some (some (.ref f_round_rises))) (l_round_rises : K.lookup f_round_rises = some ⟨oc_round_rises, od_round_rises, .func (PySem.W.fnOf "round_rises" "round_rises" (defArgs s_round_rises) (defBody s_round_rises) (defScope s_round_rises) .none kV_round_rises dc_round_rises pm_round_rises an_round_rises cd_round_rises ct_round_rises), sl_round_rises⟩) (c_round_rises : PySem.W.codeIn K cd_round_rises "round_rises" = true) (k_round_rises : PySem.W.keepIn K (.ref f_round_rises) = true)
    (a_l_even : PySem.W.nsIn K mainGlobals "_law_even" = some (some (.ref f_l_even))) (l_l_even : K.lookup f_l_even = some ⟨oc_l_even, od_l_even, .func (PySem.W.fnOf "_law_even" "_law_even" (defArgs s_l_even) (defBody s_l_even) (defScope s_l_even) .none kV_l_even dc_l_even pm_l_even an_l_even cd_l_even ct_l_even), sl_l_even⟩) (c_l_even : PySem.W.codeIn K cd_l_even "_law_even" = true) (k_l_even : PySem.W.keepIn K (.ref f_l_even) = true)
    (a_l_least_sum : PySem.W.nsIn K mainGlobals "_law_least_sum" = some (some (.ref f_l_least_sum))) (l_l_least_sum : K.lookup f_l_least_sum = some ⟨oc_l_least_sum, od_l_least_sum, .func (PySem.W.fnOf "_law_least_sum" "_law_least_sum" (defArgs s_l_least_sum) (defBody s_l_least_sum) (defScope s_l_least_sum) .none kV_l_least_sum dc_l_least_sum pm_l_least_sum an_l_least_sum cd_l_least_sum ct_l_least_sum), sl_l_least_sum⟩) (c_l_least_sum : PySem.W.codeIn K cd_l_least_sum "_law_least_sum" = true) (k_l_least_sum : PySem.W.keepIn K (.ref f_l_least_sum) = true)
    (a_l_rises : PySem.W.nsIn K mainGlobals "_law_rises" = some (some (.ref f_l_rises))) (l_l_rises : K.lookup f_l_rises = some ⟨oc_l_rises, od_l_rises, .func (PySem.W.fnOf "_law_rises" "_law_rises" (defArgs s_l_rises) (defBody s_l_rises) (defScope s_l_rises) .none kV_l_rises dc_l_rises pm_l_rises an_l_rises cd_l_rises ct_l_rises), sl_l_rises⟩) (c_l_rises : PySem.W.codeIn K cd_l_rises "_law_rises" = true) (k_l_rises : PySem.W.keepIn K (.ref f_l_rises) = true)
    (a_l_longest : PySem.W.nsIn K mainGlobals "_law_longest" = some (some (.ref f_l_longest))) (l_l_longest : K.lookup f_l_longest = some ⟨oc_l_longest, od_l_longest, .func (PySem.W.fnOf "_law_longest" "_law_longest" (defArgs s_l_longest) (defBody s_l_longest) (defScope s_l_longest) .none kV_l_longest dc_l_longest pm_l_longest an_l_longest cd_l_longest ct_l_longest), sl_l_longest⟩) (c_l_longest : PySem.W.codeIn K cd_l_longest "_law_longest" = true) (k_l_longest : PySem.W.keepIn K (.ref f_l_longest) = true)
    (a_l_stock : PySem.W.nsIn K mainGlobals "_law_stock" = some (some (.ref f_l_stock))) (l_l_stock : K.lookup f_l_stock = some ⟨oc_l_stock, od_l_stock, .func (PySem.W.fnOf "_law_stock" "_law_stock" (defArgs s_l_stock) (defBody s_l_stock) (defScope s_l_stock) .none kV_l_stock dc_l_stock pm_l_stock an_l_stock cd_l_stock ct_l_stock), sl_l_stock⟩) (c_l_stock : PySem.W.codeIn K cd_l_stock "_law_stock" = true) (k_l_stock : PySem.W.keepIn K (.ref f_l_stock) = true)
    (a_l_draw : PySem.W.nsIn K mainGlobals "_law_draw" = some (some (.ref f_l_draw))) (l_l_draw : K.lookup f_l_draw = some ⟨oc_l_draw, od_l_draw, .func (PySem.W.fnOf "_law_draw" "_law_draw" (defArgs s_l_draw) (defBody s_l_draw) (defScope s_l_draw) .none kV_l_draw dc_l_draw pm_l_draw an_l_draw cd_l_draw ct_l_draw), sl_l_draw⟩) (c_l_draw : PySem.W.codeIn K cd_l_draw "_law_draw" = true) (k_l_draw : PySem.W.keepIn K (.ref f_l_draw) = true)
    (a_l_mix : PySem.W.nsIn K mainGlobals "_law_mix" = some (some (.ref f_l_mix))) (l_l_mix : K.lookup f_l_mix = some ⟨oc_l_mix, od_l_mix, .func (PySem.W.fnOf "_law_mix" "_law_mix" (defArgs s_l_mix) (defBody s_l_mix) (defScope s_l_mix) .none kV_l_mix dc_l_mix pm_l_mix an_l_mix cd_l_mix ct_l_mix), sl_l_mix⟩) (c_l_mix : PySem.W.codeIn K cd_l_mix "_law_mix" = true) (k_l_mix : PySem.W.keepIn K (.ref f_l_mix) = true)
    (a_l_matches : PySem.W.nsIn K mainGlobals "_law_matches" = some (some (.ref f_l_matches))) (l_l_matches : K.lookup f_l_matches = some ⟨oc_l_matches, od_l_matches, .func (PySem.W.fnOf "_law_matches" "_law_matches" (defArgs s_l_matches) (defBody s_l_matches) (defScope s_l_matches) .none kV_l_matches dc_l_matches pm_l_matches an_l_matches cd_l_matches ct_l_matches), sl_l_matches⟩) (c_l_matches : PySem.W.codeIn K cd_l_matches "_law_matches" = true) (k_l_matches : PySem.W.keepIn K (.ref f_l_matches) = true)
    (a_l_list : PySem.W.nsIn K mainGlobals "_law_list" = some (some (.ref f_l_list))) (l_l_list : K.lookup f_l_list = some ⟨oc_l_list, od_l_list, .func (PySem.W.fnOf "_law_list" "_law_list" (defArgs s_l_list) (defBody s_l_list) (defScope s_l_list) .none kV_l_list dc_l_list pm_l_list an_l_list cd_l_list ct_l_list), sl_l_list⟩) (c_l_list : PySem.W.codeIn K cd_l_list "_law_list" = true) (k_l_list : PySem.W.keepIn K (.ref f_l_list) = true)
    (a_l_small_evenings : PySem.W.nsIn K mainGlobals "_law_small_evenings" = some (some (.ref f_l_small_evenings))) (l_l_small_evenings : K.lookup f_l_small_evenings = some ⟨oc_l_small_evenings, od_l_small_evenings, .func (PySem.W.fnOf "_law_small_evenings" "_law_small_evenings" (defArgs s_l_small_evenings) (defBody s_l_small_evenings) (defScope s_l_small_evenings) .none kV_l_small_evenings dc_l_small_evenings pm_l_small_evenings an_l_small_evenings cd_l_small_evenings ct_l_small_evenings), sl_l_small_evenings⟩) (c_l_small_evenings : PySem.W.codeIn K cd_l_small_evenings "_law_small_evenings" = true) (k_l_small_evenings : PySem.W.keepIn K (.ref f_l_small_evenings) = true)
    (a_l_parted : PySem.W.nsIn K mainGlobals "_law_parted" = some (some (.ref f_l_parted))) (l_l_parted : K.lookup f_l_parted = some ⟨oc_l_parted, od_l_parted, .func (PySem.W.fnOf "_law_parted" "_law_parted" (defArgs s_l_parted) (defBody s_l_parted) (defScope s_l_parted) .none kV_l_parted dc_l_parted pm_l_parted an_l_parted cd_l_parted ct_l_parted), sl_l_parted⟩) (c_l_parted : PySem.W.codeIn K cd_l_parted "_law_parted" = true) (k_l_parted : PySem.W.keepIn K (.ref f_l_parted) = true)
    (a_l_near : PySem.W.nsIn K mainGlobals "_law_near" = some (some (.ref f_l_near))) (l_l_near : K.lookup f_l_near = some ⟨oc_l_near, od_l_near, .func (PySem.W.fnOf "_law_near" "_law_near" (defArgs s_l_near) (defBody s_l_near) (defScope s_l_near) .none kV_l_near dc_l_near pm_l_near an_l_near cd_l_near ct_l_near), sl_l_near⟩) (c_l_near : PySem.W.codeIn K cd_l_near "_law_near" = true) (k_l_near : PySem.W.keepIn K (.ref f_l_near) = true)
    (a_l_couple : PySem.W.nsIn K mainGlobals "_law_couple" = some (some (.ref f_l_couple))) (l_l_couple : K.lookup f_l_couple = some ⟨oc_l_couple, od_l_couple, .func (PySem.W.fnOf "_law_couple" "_law_couple" (defArgs s_l_couple) (defBody s_l_couple) (defScope s_l_couple) .none kV_l_couple dc_l_couple pm_l_couple an_l_couple cd_l_couple ct_l_couple), sl_l_couple⟩) (c_l_couple : PySem.W.codeIn K cd_l_couple "_law_couple" = true) (k_l_couple : PySem.W.keepIn K (.ref f_l_couple) = true)
    (a_l_couple_right : PySem.W.nsIn K mainGlobals "_law_couple_right" = some (some (.ref f_l_couple_right))) (l_l_couple_right : K.lookup f_l_couple_right = some ⟨oc_l_couple_right, od_l_couple_right, .func (PySem.W.fnOf "_law_couple_right" "_law_couple_right" (defArgs s_l_couple_right) (defBody s_l_couple_right) (defScope s_l_couple_right) .none kV_l_couple_right dc_l_couple_right pm_l_couple_right an_l_couple_right cd_l_couple_right ct_l_couple_right), sl_l_couple_right⟩) (c_l_couple_right : PySem.W.codeIn K cd_l_couple_right "_law_couple_right" = true) (k_l_couple_right : PySem.W.keepIn K (.ref f_l_couple_right) = true)
    (a_law : PySem.W.nsIn K mainGlobals "law" = some (some (.ref f_law))) (l_law : K.lookup f_law = some ⟨oc_law, od_law, .func (PySem.W.fnOf "law" "law" (defArgs s_law) (defBody s_law) (defScope s_law) .none kV_law dc_law pm_law an_law cd_law ct_law), sl_law⟩) (c_law : PySem.W.codeIn K cd_law "law" = true) (k_law : PySem.W.keepIn K (.ref f_law) = true)
    (z_abs : PySem.W.nsIn K mainGlobals "abs" = some none)
    (z_bool : PySem.W.nsIn K mainGlobals "bool" = some none)
    (z_dict : PySem.W.nsIn K mainGlobals "dict" = some none)
    (z_int : PySem.W.nsIn K mainGlobals "int" = some none)
    (z_isinstance : PySem.W.nsIn K mainGlobals "isinstance" = some none)
    (z_len : PySem.W.nsIn K mainGlobals "len" = some none)
    (z_list : PySem.W.nsIn K mainGlobals "list" = some none)
    (z_max : PySem.W.nsIn K mainGlobals "max" = some none)
    (z_min : PySem.W.nsIn K mainGlobals "min" = some none)
    (z_range : PySem.W.nsIn K mainGlobals "range" = some none)
    (z_sorted : PySem.W.nsIn K mainGlobals "sorted" = some none)
    (z_str : PySem.W.nsIn K mainGlobals "str" = some none)
    (z_sum : PySem.W.nsIn K mainGlobals "sum" = some none)
    (z_tuple : PySem.W.nsIn K mainGlobals "tuple" = some none)
    (ga_LIMITS : PySem.W.nsIn K mainGlobals "LIMITS" = some (some (.ref ta_LIMITS))) (gl_LIMITS : K.lookup ta_LIMITS = some ⟨.type "dict", none, .dict te_LIMITS tn_LIMITS, #[]⟩)
    (gt_LIMITS_0 : PySem.W.nsIn K ta_LIMITS "pots" = some (some (.int 60 tt_LIMITS_0)))
    (gt_LIMITS_1 : PySem.W.nsIn K ta_LIMITS "dishes" = some (some (.int 60 tt_LIMITS_1)))
    (gt_LIMITS_2 : PySem.W.nsIn K ta_LIMITS "purse" = some (some (.int 2400 tt_LIMITS_2)))
    (gt_LIMITS_3 : PySem.W.nsIn K ta_LIMITS "servings" = some (some (.int 12 tt_LIMITS_3)))
    (gk_LIMITS : PySem.W.KeysLit w.params te_LIMITS.toList) :
    ∃ fd : FuncData, (∀ (s : Shared) (v : Value), BindsTo s fd ⟨[v], []⟩ [("script", v)]) ∧ ∀ base : Heap, K.In base → base.Ns mainGlobals mg → FnOk l.prog w K mg base CX0 6 fa fd ["script"] (SpD K 1 m_law) := by
  have e := hfa.symm.trans (PySem.W.mg_of X G a_law)
  cases e
  have D_check := df_of (ps := ["what", "number"]) X G a_check l_check c_check k_check fun _ _ _ _ _ _ us hl => match us, hl with | [_, _], _ => rfl
  have D_check_each := df_of (ps := ["what", "numbers"]) X G a_check_each l_check_each c_check_each k_check_each fun _ _ _ _ _ _ us hl => match us, hl with | [_, _], _ => rfl
  have D_sums_behind := df_of (ps := ["sums", "pots", "lack"]) X G a_sums_behind l_sums_behind c_sums_behind k_sums_behind fun _ _ _ _ _ _ us hl => match us, hl with | [_, _, _], _ => rfl
  have D_rises_of := df_of (ps := ["pots", "dishes"]) X G a_rises_of l_rises_of c_rises_of k_rises_of fun _ _ _ _ _ _ us hl => match us, hl with | [_, _], _ => rfl
  have D_check_servings := df_of (ps := ["servings"]) X G a_check_servings l_check_servings c_check_servings k_check_servings fun _ _ _ _ _ _ us hl => match us, hl with | [_], _ => rfl
  have D_all_rises := df_of (ps := ["pots", "servings"]) X G a_all_rises l_all_rises c_all_rises k_all_rises fun _ _ _ _ _ _ us hl => match us, hl with | [_, _], _ => rfl
  have D_longest_evening := df_of (ps := ["pots", "servings", "purse"]) X G a_longest_evening l_longest_evening c_longest_evening k_longest_evening fun _ _ _ _ _ _ us hl => match us, hl with | [_, _, _], _ => rfl
  have D_parting_purse := df_of (ps := ["pots", "servings", "others"]) X G a_parting_purse l_parting_purse c_parting_purse k_parting_purse fun _ _ _ _ _ _ us hl => match us, hl with | [_, _, _], _ => rfl
  have D_round_rises := df_of (ps := ["pots", "dishes"]) X G a_round_rises l_round_rises c_round_rises k_round_rises fun _ _ _ _ _ _ us hl => match us, hl with | [_, _], _ => rfl
  have D_l_even := df_of (ps := ["pots", "dishes"]) X G a_l_even l_l_even c_l_even k_l_even fun _ _ _ _ _ _ us hl => match us, hl with | [_, _], _ => rfl
  have D_l_least_sum := df_of (ps := ["rows", "dishes", "lack"]) X G a_l_least_sum l_l_least_sum c_l_least_sum k_l_least_sum fun _ _ _ _ _ _ us hl => match us, hl with | [_, _, _], _ => rfl
  have D_l_rises := df_of (ps := ["pots", "dishes"]) X G a_l_rises l_l_rises c_l_rises k_l_rises fun _ _ _ _ _ _ us hl => match us, hl with | [_, _], _ => rfl
  have D_l_longest := df_of (ps := ["pots", "servings", "most"]) X G a_l_longest l_l_longest c_l_longest k_l_longest fun _ _ _ _ _ _ us hl => match us, hl with | [_, _, _], _ => rfl
  have D_l_stock := df_of (ps := ["script", "at"]) X G a_l_stock l_l_stock c_l_stock k_l_stock fun _ _ _ _ _ _ us hl => match us, hl with | [_, _], _ => rfl
  have D_l_draw := df_of (ps := ["stock", "many"]) X G a_l_draw l_l_draw c_l_draw k_l_draw fun _ _ _ _ _ _ us hl => match us, hl with | [_, _], _ => rfl
  have D_l_mix := df_of (ps := ["stock", "things"]) X G a_l_mix l_l_mix c_l_mix k_l_mix fun _ _ _ _ _ _ us hl => match us, hl with | [_, _], _ => rfl
  have D_l_matches := df_of (ps := ["answer", "due"]) X G a_l_matches l_l_matches c_l_matches k_l_matches fun _ _ _ _ _ _ us hl => match us, hl with | [_, _], _ => rfl
  have D_l_list := df_of (ps := ["pots", "servings", "tables"]) X G a_l_list l_l_list c_l_list k_l_list fun _ _ _ _ _ _ us hl => match us, hl with | [_, _, _], _ => rfl
  have D_l_small_evenings := df_of (ps := ["top"]) X G a_l_small_evenings l_l_small_evenings c_l_small_evenings k_l_small_evenings fun _ _ _ _ _ _ us hl => match us, hl with | [_], _ => rfl
  have D_l_parted := df_of (ps := ["pots", "one", "other"]) X G a_l_parted l_l_parted c_l_parted k_l_parted fun _ _ _ _ _ _ us hl => match us, hl with | [_, _, _], _ => rfl
  have D_l_near := df_of (ps := ["kind", "due", "other"]) X G a_l_near l_l_near c_l_near k_l_near fun _ _ _ _ _ _ us hl => match us, hl with | [_, _, _], _ => rfl
  have D_l_couple := df_of (ps := ["stock", "pots", "tables"]) X G a_l_couple l_l_couple c_l_couple k_l_couple fun _ _ _ _ _ _ us hl => match us, hl with | [_, _, _], _ => rfl
  have D_l_couple_right := df_of (ps := ["pots", "one", "other", "tables"]) X G a_l_couple_right l_l_couple_right c_l_couple_right k_l_couple_right fun _ _ _ _ _ _ us hl => match us, hl with | [_, _, _, _], _ => rfl
  have D_law := df_of (ps := ["script"]) X G a_law l_law c_law k_law fun _ _ _ _ _ _ us hl => match us, hl with | [_], _ => rfl
  have T : Gs K w mg := ⟨PySem.W.mg_none_of X G z_abs, PySem.W.mg_none_of X G z_bool, PySem.W.mg_none_of X G z_dict, PySem.W.mg_none_of X G z_int, PySem.W.mg_none_of X G z_isinstance, PySem.W.mg_none_of X G z_len, PySem.W.mg_none_of X G z_list, PySem.W.mg_none_of X G z_max, PySem.W.mg_none_of X G z_min, PySem.W.mg_none_of X G z_range, PySem.W.mg_none_of X G z_sorted, PySem.W.mg_none_of X G z_str, PySem.W.mg_none_of X G z_sum, PySem.W.mg_none_of X G z_tuple, ta_LIMITS, PySem.W.mg_of X G ga_LIMITS, wtab_of gl_LIMITS gk_LIMITS (.cons gt_LIMITS_0 (.cons gt_LIMITS_1 (.cons gt_LIMITS_2 (.cons gt_LIMITS_3 .nil))))⟩
  refine ⟨PySem.W.fnOf "law" "law" (defArgs s_law) (defBody s_law) (defScope s_law) .none kV_law dc_law pm_law an_law cd_law ct_law, fun s v => .of_eq rfl, fun base _ _ => ?_⟩
  have H_check := ok_check (P := l.prog) (base := base) D_check T 
  have H_check_each := ok_check_each (P := l.prog) (base := base) D_check_each T H_check
  have H_sums_behind := ok_sums_behind (P := l.prog) (base := base) D_sums_behind T 
  have H_rises_of := ok_rises_of (P := l.prog) (base := base) D_rises_of T H_sums_behind
  have H_check_servings := ok_check_servings (P := l.prog) (base := base) D_check_servings T 
  have H_all_rises := ok_all_rises (P := l.prog) (base := base) D_all_rises T H_rises_of
  have H_longest_evening := ok_longest_evening (P := l.prog) (base := base) D_longest_evening T H_all_rises H_check H_check_each H_check_servings
  have H_parting_purse := ok_parting_purse (P := l.prog) (base := base) D_parting_purse T H_all_rises H_check H_check_each H_check_servings
  have H_round_rises := ok_round_rises (P := l.prog) (base := base) D_round_rises T H_check H_rises_of
  have H_l_even := ok_l_even (P := l.prog) (base := base) D_l_even T 
  have H_l_least_sum := ok_l_least_sum (P := l.prog) (base := base) D_l_least_sum T H_l_even
  have H_l_rises := ok_l_rises (P := l.prog) (base := base) D_l_rises T H_l_least_sum
  have H_l_longest := ok_l_longest (P := l.prog) (base := base) D_l_longest T H_l_even
  have H_l_stock := ok_l_stock (P := l.prog) (base := base) D_l_stock T 
  have H_l_draw := ok_l_draw (P := l.prog) (base := base) D_l_draw T 
  have H_l_mix := ok_l_mix (P := l.prog) (base := base) D_l_mix T H_l_draw
  have H_l_matches := ok_l_matches (P := l.prog) (base := base) D_l_matches T  4
  have H_l_list := ok_l_list (P := l.prog) (base := base) D_l_list T H_l_rises
  have H_l_small_evenings := ok_l_small_evenings (P := l.prog) (base := base) D_l_small_evenings T 
  have H_l_parted := ok_l_parted (P := l.prog) (base := base) D_l_parted T 
  have H_l_near := ok_l_near (P := l.prog) (base := base) D_l_near T 
  have H_l_couple := ok_l_couple (P := l.prog) (base := base) D_l_couple T H_l_draw H_l_list H_l_mix H_l_near H_l_small_evenings
  have H_l_couple_right := ok_l_couple_right (P := l.prog) (base := base) D_l_couple_right T H_l_list H_l_longest H_l_matches H_l_parted H_l_rises H_longest_evening H_parting_purse H_round_rises
  exact ok_law (P := l.prog) (base := base) D_law T H_l_couple H_l_couple_right H_l_draw H_l_stock
theorem walk {l : PySem.W.OpenLaw} {q : Program} {loose : List Str} {XP : (Str → Option Value) → Heap → Prop} {YP : World → Heap → Prop} {d : DefRec} {K : Params → PySem.W.Frag} (hn : l.most = some 63) (hdf : d.params.defaults = [])
    (hY : ∀ (w : World) (h : Heap), YP w h → (K w.params).In h)
    (F : ∀ (w : World) (mg : Str → Option Value) (fa : Addr) (h : Heap), (K w.params).In h → h.Ns mainGlobals mg → mg d.name = some (.ref fa) →
      ∃ fd : FuncData, (∀ (s : Shared) (u : Value), BindsTo s fd ⟨[u], []⟩ [("script", u)]) ∧ ∀ base : Heap, (K w.params).In base → base.Ns mainGlobals mg → FnOk l.prog w (K w.params) mg base CX0 6 fa fd ["script"] (SpD (K w.params) 1 m_law)) :
    PySem.W.WalkO q loose XP YP l.row.toRowW d [] (fun f vs => PySem.call f vs) :=
  L2.walk_of (n := 63) (k := 6) (x := "script") (CX := fun _ => CX0) (sp := fun w => SpD (K w.params) 1 m_law) hn (by decide) hdf ⟨rfl, by decide, by decide⟩ hY F (fun _ H a ns hl _ hS => sp_law hS (law_true ns hl)) fun _ _ _ _ _ z => z
end DL.K82
open PySem PySem.W PyProof.Rows in
set_option maxRecDepth 100000 in
set_option maxHeartbeats 0 in
theorem PySem.Challenge.cw_neverlifted_k82_whole_alike_evenings_for_holds : PySem.Challenge.rw_neverlifted_k82_whole_alike_evenings_for.Holds := by
  w_on; o_law; k_head; (case hw => w_witness2)
  k_fill
  refine DL.K82.walk (l := PySem.Challenge.rw_neverlifted_k82_whole_alike_evenings_for) rfl rfl (fun w h Y => PySem.W.kIn_of Y) ?F
  case F =>
    intro w mg fa h KX G hmg
    refine' DL.K82.all_mk (w := w) KX G hmg ?a_check ?l_check ?c_check ?k_check ?a_check_each ?l_check_each ?c_check_each ?k_check_each ?a_sums_behind ?l_sums_behind ?c_sums_behind ?k_sums_behind ?a_rises_of ?l_rises_of ?c_rises_of ?k_rises_of ?a_check_servings ?l_check_servings ?c_check_servings ?k_check_servings ?a_all_rises ?l_all_rises ?c_all_rises ?k_all_rises ?a_longest_evening ?l_longest_evening ?c_longest_evening ?k_longest_evening ?a_parting_purse ?l_parting_purse ?c_parting_purse ?k_parting_purse ?a_round_rises ?l_round_rises ?c_round_rises ?k_round_rises ?a_l_even ?l_l_even ?c_l_even ?k_l_even ?a_l_least_sum ?l_l_least_sum ?c_l_least_sum ?k_l_least_sum ?a_l_rises ?l_l_rises ?c_l_rises ?k_l_rises ?a_l_longest ?l_l_longest ?c_l_longest ?k_l_longest ?a_l_stock ?l_l_stock ?c_l_stock ?k_l_stock ?a_l_draw ?l_l_draw ?c_l_draw ?k_l_draw ?a_l_mix ?l_l_mix ?c_l_mix ?k_l_mix ?a_l_matches ?l_l_matches ?c_l_matches ?k_l_matches ?a_l_list ?l_l_list ?c_l_list ?k_l_list ?a_l_small_evenings ?l_l_small_evenings ?c_l_small_evenings ?k_l_small_evenings ?a_l_parted ?l_l_parted ?c_l_parted ?k_l_parted ?a_l_near ?l_l_near ?c_l_near ?k_l_near ?a_l_couple ?l_l_couple ?c_l_couple ?k_l_couple ?a_l_couple_right ?l_l_couple_right ?c_l_couple_right ?k_l_couple_right ?a_law ?l_law ?c_law ?k_law ?z_abs ?z_bool ?z_dict ?z_int ?z_isinstance ?z_len ?z_list ?z_max ?z_min ?z_range ?z_sorted ?z_str ?z_sum ?z_tuple ?ga_LIMITS ?gl_LIMITS ?gt_LIMITS_0 ?gt_LIMITS_1 ?gt_LIMITS_2 ?gt_LIMITS_3 ?gk_LIMITS
    (case a_check => k_is)
    (case l_check => k_is)
    (case c_check => k_is)
    (case k_check => k_is)
    (case a_check_each => k_is)
    (case l_check_each => k_is)
    (case c_check_each => k_is)
    (case k_check_each => k_is)
    (case a_sums_behind => k_is)
    (case l_sums_behind => k_is)
    (case c_sums_behind => k_is)
    (case k_sums_behind => k_is)
    (case a_rises_of => k_is)
    (case l_rises_of => k_is)
    (case c_rises_of => k_is)
    (case k_rises_of => k_is)
    (case a_check_servings => k_is)
    (case l_check_servings => k_is)
    (case c_check_servings => k_is)
    (case k_check_servings => k_is)
    (case a_all_rises => k_is)
    (case l_all_rises => k_is)
    (case c_all_rises => k_is)
    (case k_all_rises => k_is)
    (case a_longest_evening => k_is)
    (case l_longest_evening => k_is)
    (case c_longest_evening => k_is)
    (case k_longest_evening => k_is)
    (case a_parting_purse => k_is)
    (case l_parting_purse => k_is)
    (case c_parting_purse => k_is)
    (case k_parting_purse => k_is)
    (case a_round_rises => k_is)
    (case l_round_rises => k_is)
    (case c_round_rises => k_is)
    (case k_round_rises => k_is)
    (case a_l_even => k_is)
    (case l_l_even => k_is)
    (case c_l_even => k_is)
    (case k_l_even => k_is)
    (case a_l_least_sum => k_is)
    (case l_l_least_sum => k_is)
    (case c_l_least_sum => k_is)
    (case k_l_least_sum => k_is)
    (case a_l_rises => k_is)
    (case l_l_rises => k_is)
    (case c_l_rises => k_is)
    (case k_l_rises => k_is)
    (case a_l_longest => k_is)
    (case l_l_longest => k_is)
    (case c_l_longest => k_is)
    (case k_l_longest => k_is)
    (case a_l_stock => k_is)
    (case l_l_stock => k_is)
    (case c_l_stock => k_is)
    (case k_l_stock => k_is)
    (case a_l_draw => k_is)
    (case l_l_draw => k_is)
    (case c_l_draw => k_is)
    (case k_l_draw => k_is)
    (case a_l_mix => k_is)
    (case l_l_mix => k_is)
    (case c_l_mix => k_is)
    (case k_l_mix => k_is)
    (case a_l_matches => k_is)
    (case l_l_matches => k_is)
    (case c_l_matches => k_is)
    (case k_l_matches => k_is)
    (case a_l_list => k_is)
    (case l_l_list => k_is)
    (case c_l_list => k_is)
    (case k_l_list => k_is)
    (case a_l_small_evenings => k_is)
    (case l_l_small_evenings => k_is)
    (case c_l_small_evenings => k_is)
    (case k_l_small_evenings => k_is)
    (case a_l_parted => k_is)
    (case l_l_parted => k_is)
    (case c_l_parted => k_is)
    (case k_l_parted => k_is)
    (case a_l_near => k_is)
    (case l_l_near => k_is)
    (case c_l_near => k_is)
    (case k_l_near => k_is)
    (case a_l_couple => k_is)
    (case l_l_couple => k_is)
    (case c_l_couple => k_is)
    (case k_l_couple => k_is)
    (case a_l_couple_right => k_is)
    (case l_l_couple_right => k_is)
    (case c_l_couple_right => k_is)
    (case k_l_couple_right => k_is)
    (case a_law => k_is)
    (case l_law => k_is)
    (case c_law => k_is)
    (case k_law => k_is)
    (case z_abs => k_is)
    (case z_bool => k_is)
    (case z_dict => k_is)
    (case z_int => k_is)
    (case z_isinstance => k_is)
    (case z_len => k_is)
    (case z_list => k_is)
    (case z_max => k_is)
    (case z_min => k_is)
    (case z_range => k_is)
    (case z_sorted => k_is)
    (case z_str => k_is)
    (case z_sum => k_is)
    (case z_tuple => k_is)
    (case ga_LIMITS => k_is)
    (case gl_LIMITS => k_is)
    (case gt_LIMITS_0 => k_is)
    (case gt_LIMITS_1 => k_is)
    (case gt_LIMITS_2 => k_is)
    (case gt_LIMITS_3 => k_is)
    (case gk_LIMITS => repeat (first | exact trivial | refine ⟨⟨_, _, rfl, rfl⟩, ?_⟩))
