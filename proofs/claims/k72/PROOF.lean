import PyProof.Rows.All
import Wide.All
import OpenK.AllK
import Wide.FinOn
import HandS.ForMost
import HandS.ForExc
import HandS.TupAny
import HandS.Wide
import HandS.WideBits
import HandS.Zip
import KE.GoesMore
import KE.GoesEnum
import KE.DataMinMax
import HandS.RevTup
import HandS.Rev
import HandS.TupMul
import HandS.Style
import PySem.Challenge.RW_comparenets_k72_whole_step_rows_told
import HandS.Text
set_option linter.all false
set_option autoImplicit false
set_option maxRecDepth 100000
set_option maxHeartbeats 4000000
set_option Elab.async false
/-! Part 1: values, results, denotations, and how they lie in the abstract heap. -/
namespace Vq
open PySem L2

inductive D where
  | non
  | bl (b : Bool)
  | int (i : Int)
  | str (s : Str)
  | tup (l : List D)
  | ref (n : Nat)

inductive Cell where
  | lst (l : List D)
  | ro (l : List D)

abbrev VH := List Cell
abbrev VS := List (Option D)

structure Exn where
  cls : Str
  fs : List (Str × D)

inductive Res (α : Type) where
  | ok (a : α)
  | ex (x : Exn) (s : VS) (h : VH)
  | bad
instance {α : Type} : Inhabited (Res α) := ⟨.bad⟩

def Res.bind {α β : Type} (r : Res α) (f : α → Res β) : Res β :=
  match r with
  | .ok a => f a
  | .ex x s h => .ex x s h
  | .bad => .bad
@[simp] theorem Res.ok_bind {α β : Type} (a : α) (f : α → Res β) : (Res.ok a).bind f = f a := rfl
@[simp] theorem Res.ex_bind {α β : Type} (x : Exn) (s : VS) (h : VH) (f : α → Res β) : (Res.ex x s h : Res α).bind f = .ex x s h := rfl
@[simp] theorem Res.bad_bind {α β : Type} (f : α → Res β) : (Res.bad : Res α).bind f = .bad := rfl

inductive Out where
  | nx
  | rt (d : D)
  | bk
  | ct

abbrev VE := VS → VH → Res (D × VH)
abbrev VT := VS → VH → Res (Bool × VH)
abbrev VA := VS → VH → Res (List D × VH)
abbrev VSt := VS → VH → Res (Out × VS × VH)
abbrev VG := D → VS → VH → Res (VS × VH)
abbrev Fn := List D → VH → Res (D × VH)

/-! ### worlds -/
structure Wd where
  ι : Nat → Addr
  h : VH
  H : Hp

mutual
inductive RepV (K : PySem.W.Frag) (ι : Nat → Addr) (n : Nat) (H : Hp) : D → V → Prop where
  | non : RepV K ι n H .non .non
  | bl (b : Bool) : RepV K ι n H (.bl b) (.bl b)
  | int (i : Int) : RepV K ι n H (.int i) (.int i)
  | str (s : Str) : RepV K ι n H (.str s) (.str s)
  | tup {a : Addr} {vs : List V} {ds : List D} (h : SqT K H a vs) (r : RepL K ι n H ds vs) : RepV K ι n H (.tup ds) (.ref a)
  | ref {k : Nat} (h : k < n) : RepV K ι n H (.ref k) (.ref (ι k))
inductive RepL (K : PySem.W.Frag) (ι : Nat → Addr) (n : Nat) (H : Hp) : List D → List V → Prop where
  | nil : RepL K ι n H [] []
  | cons {d : D} {ds : List D} {v : V} {vs : List V} (h : RepV K ι n H d v) (r : RepL K ι n H ds vs) : RepL K ι n H (d :: ds) (v :: vs)
end

/-- a list that nobody writes to -/
def RoL (K : PySem.W.Frag) (H : Hp) (a : Addr) (vs : List V) : Prop :=
  (∃ ob, H a = some (.frz ob (.lst vs))) ∨
    ∃ (o : Obj) (its : Array Value) (n : Nat), K.lookup a = some o ∧ o.cls = .type "list" ∧ o.dict = none ∧ o.data = .seq its n ∧ its.size ≤ sizeLine ∧ Vals vs its.toList
theorem RoL.sq {K : PySem.W.Frag} {H : Hp} {a : Addr} {vs : List V} (h : RoL K H a vs) : SqL K H a vs := h.elim (fun q => .inl (.inr q)) .inr
def Cell.mut : Cell → Bool
  | .lst _ => true
  | .ro _ => false

def RepC (K : PySem.W.Frag) (ι : Nat → Addr) (n : Nat) (H : Hp) (c : Cell) (a : Addr) : Prop :=
  match c with
  | .lst ds => ∃ vs, H a = some (.lst vs) ∧ RepL K ι n H ds vs
  | .ro ds => ∃ vs, RoL K H a vs ∧ RepL K ι n H ds vs

abbrev Rp (K : PySem.W.Frag) (w : Wd) : D → V → Prop := RepV K w.ι w.h.length w.H
abbrev Rps (K : PySem.W.Frag) (w : Wd) : List D → List V → Prop := RepL K w.ι w.h.length w.H

structure Wd.Ok (K : PySem.W.Frag) (w : Wd) : Prop where
  cell : ∀ n c, w.h[n]? = some c → RepC K w.ι w.h.length w.H c (w.ι n)
  inj : ∀ n m c e, w.h[n]? = some c → w.h[m]? = some e → c.mut = true → e.mut = true → w.ι n = w.ι m → n = m

structure Wd.Ext (K : PySem.W.Frag) (w w' : Wd) : Prop where
  len : w.h.length ≤ w'.h.length
  ι : ∀ n, n < w.h.length → w'.ι n = w.ι n
  tup : ∀ a vs, SqT K w.H a vs → SqT K w'.H a vs

theorem Wd.Ext.refl {K : PySem.W.Frag} (w : Wd) : Wd.Ext K w w := ⟨Nat.le_refl _, fun _ _ => rfl, fun _ _ h => h⟩
theorem Wd.Ext.trans {K : PySem.W.Frag} {a b c : Wd} (x : Wd.Ext K a b) (y : Wd.Ext K b c) : Wd.Ext K a c :=
  ⟨Nat.le_trans x.len y.len, fun n h => (y.ι n (Nat.lt_of_lt_of_le h x.len)).trans (x.ι n h), fun q vs h => y.tup q vs (x.tup q vs h)⟩

mutual
theorem RepV.ext {K : PySem.W.Frag} {ι ι' : Nat → Addr} {n n' : Nat} {H H' : Hp} (hn : n ≤ n') (hι : ∀ k, k < n → ι' k = ι k) (ht : ∀ a vs, SqT K H a vs → SqT K H' a vs) :
    ∀ {d : D} {v : V}, RepV K ι n H d v → RepV K ι' n' H' d v
  | _, _, .non => .non
  | _, _, .bl b => .bl b
  | _, _, .int i => .int i
  | _, _, .str s => .str s
  | _, _, .tup h r => .tup (ht _ _ h) (RepL.ext hn hι ht r)
  | _, _, .ref h => by
    rw [← hι _ h]
    exact .ref (Nat.lt_of_lt_of_le h hn)
theorem RepL.ext {K : PySem.W.Frag} {ι ι' : Nat → Addr} {n n' : Nat} {H H' : Hp} (hn : n ≤ n') (hι : ∀ k, k < n → ι' k = ι k) (ht : ∀ a vs, SqT K H a vs → SqT K H' a vs) :
    ∀ {d : List D} {v : List V}, RepL K ι n H d v → RepL K ι' n' H' d v
  | _, _, .nil => .nil
  | _, _, .cons h r => .cons (RepV.ext hn hι ht h) (RepL.ext hn hι ht r)
end
theorem Wd.Ext.rp {K : PySem.W.Frag} {w w' : Wd} (x : Wd.Ext K w w') {d : D} {v : V} (h : Rp K w d v) : Rp K w' d v := RepV.ext x.len x.ι x.tup h
theorem Wd.Ext.rps {K : PySem.W.Frag} {w w' : Wd} (x : Wd.Ext K w w') {d : List D} {v : List V} (h : Rps K w d v) : Rps K w' d v := RepL.ext x.len x.ι x.tup h

theorem RepL.length {K : PySem.W.Frag} {ι : Nat → Addr} {n : Nat} {H : Hp} : ∀ {ds : List D} {vs : List V}, RepL K ι n H ds vs → ds.length = vs.length
  | _, _, .nil => rfl
  | _, _, .cons _ r => congrArg (· + 1) r.length
theorem RepL.get {K : PySem.W.Frag} {ι : Nat → Addr} {n : Nat} {H : Hp} : ∀ {ds : List D} {vs : List V} {i : Nat} {d : D}, RepL K ι n H ds vs → ds[i]? = some d → ∃ v, vs[i]? = some v ∧ RepV K ι n H d v
  | _, _, i, _, .nil, h => by simp at h
  | _, _, 0, _, .cons r _, h => by
    simp at h
    subst h
    exact ⟨_, rfl, r⟩
  | _, _, i + 1, _, .cons _ r, h => by
    simp at h
    obtain ⟨v, e, q⟩ := r.get h
    exact ⟨v, by simpa using e, q⟩
theorem RepL.getv {K : PySem.W.Frag} {ι : Nat → Addr} {n : Nat} {H : Hp} : ∀ {ds : List D} {vs : List V} {i : Nat} {v : V}, RepL K ι n H ds vs → vs[i]? = some v → ∃ d, ds[i]? = some d ∧ RepV K ι n H d v
  | _, _, i, _, .nil, h => by simp at h
  | _, _, 0, _, .cons r _, h => by
    simp at h
    subst h
    exact ⟨_, rfl, r⟩
  | _, _, i + 1, _, .cons _ r, h => by
    simp at h
    obtain ⟨d, e, q⟩ := r.getv h
    exact ⟨d, by simpa using e, q⟩
theorem RepL.append {K : PySem.W.Frag} {ι : Nat → Addr} {n : Nat} {H : Hp} : ∀ {ds es : List D} {vs us : List V}, RepL K ι n H ds vs → RepL K ι n H es us → RepL K ι n H (ds ++ es) (vs ++ us)
  | _, _, _, _, .nil, r => r
  | _, _, _, _, .cons h t, r => .cons h (t.append r)
theorem RepL.set {K : PySem.W.Frag} {ι : Nat → Addr} {n : Nat} {H : Hp} {d : D} {v : V} (q : RepV K ι n H d v) : ∀ {ds : List D} {vs : List V} (i : Nat), RepL K ι n H ds vs → RepL K ι n H (ds.set i d) (vs.set i v)
  | _, _, _, .nil => .nil
  | _, _, 0, .cons _ t => .cons q t
  | _, _, i + 1, .cons h t => .cons h (t.set q i)
theorem RepL.take {K : PySem.W.Frag} {ι : Nat → Addr} {n : Nat} {H : Hp} : ∀ {ds : List D} {vs : List V} (i : Nat), RepL K ι n H ds vs → RepL K ι n H (ds.take i) (vs.take i)
  | _, _, _, .nil => by simp; exact .nil
  | _, _, 0, .cons _ t => .nil
  | _, _, i + 1, .cons h t => .cons h (t.take i)
theorem RepL.drop {K : PySem.W.Frag} {ι : Nat → Addr} {n : Nat} {H : Hp} : ∀ {ds : List D} {vs : List V} (i : Nat), RepL K ι n H ds vs → RepL K ι n H (ds.drop i) (vs.drop i)
  | _, _, _, .nil => by simp; exact .nil
  | _, _, 0, .cons h t => .cons h t
  | _, _, i + 1, .cons h t => t.drop i
theorem RepL.eraseIdx {K : PySem.W.Frag} {ι : Nat → Addr} {n : Nat} {H : Hp} : ∀ {ds : List D} {vs : List V} (i : Nat), RepL K ι n H ds vs → RepL K ι n H (ds.eraseIdx i) (vs.eraseIdx i)
  | _, _, _, .nil => .nil
  | _, _, 0, .cons h t => t
  | _, _, i + 1, .cons h t => .cons h (t.eraseIdx i)
theorem RepL.reverse {K : PySem.W.Frag} {ι : Nat → Addr} {n : Nat} {H : Hp} : ∀ {ds : List D} {vs : List V}, RepL K ι n H ds vs → RepL K ι n H ds.reverse vs.reverse
  | _, _, .nil => .nil
  | _, _, .cons h t => by
    simp only [List.reverse_cons]
    exact t.reverse.append (.cons h .nil)

/-! ### what a heap's step keeps -/
/-- a fresh object -/
theorem SqT.fresh {K : PySem.W.Frag} {H : Hp} {p a : Addr} {o : HO} {vs : List V} (hp : H p = none) (h : SqT K H a vs) : SqT K (upd H p o) a vs := by
  rcases h with h | h
  · refine .inl ?_
    have hne : a ≠ p := by
      rintro rfl
      rcases h with h | ⟨_, h⟩ <;> rw [hp] at h <;> cases h
    rcases h with h | ⟨ob, h⟩
    · exact .inl (by rw [upd_ne hne]; exact h)
    · exact .inr ⟨ob, by rw [upd_ne hne]; exact h⟩
  · exact .inr h
/-- a list's new items -/
theorem SqT.wrote {K : PySem.W.Frag} {H : Hp} {p a : Addr} {xs : List V} {o : HO} {vs : List V} (hp : H p = some (.lst xs)) (h : SqT K H a vs) : SqT K (upd H p o) a vs := by
  rcases h with h | h
  · refine .inl ?_
    have hne : a ≠ p := by
      rintro rfl
      rcases h with h | ⟨_, h⟩ <;> rw [hp] at h <;> cases h
    rcases h with h | ⟨ob, h⟩
    · exact .inl (by rw [upd_ne hne]; exact h)
    · exact .inr ⟨ob, by rw [upd_ne hne]; exact h⟩
  · exact .inr h
theorem RoL.fresh {K : PySem.W.Frag} {H : Hp} {p a : Addr} {o : HO} {vs : List V} (hp : H p = none) (h : RoL K H a vs) : RoL K (upd H p o) a vs := by
  rcases h with ⟨ob, h⟩ | h
  · have hne : a ≠ p := by
      rintro rfl
      rw [hp] at h
      cases h
    exact .inl ⟨ob, by rw [upd_ne hne]; exact h⟩
  · exact .inr h
theorem RoL.wrote {K : PySem.W.Frag} {H : Hp} {p a : Addr} {xs : List V} {o : HO} {vs : List V} (hp : H p = some (.lst xs)) (h : RoL K H a vs) : RoL K (upd H p o) a vs := by
  rcases h with ⟨ob, h⟩ | h
  · have hne : a ≠ p := by
      rintro rfl
      rw [hp] at h
      cases h
    exact .inl ⟨ob, by rw [upd_ne hne]; exact h⟩
  · exact .inr h

/-! ### worlds that step -/
/-- a new immutable object (a tuple) -/
def Wd.tupAt (w : Wd) (p : Addr) (o : HO) : Wd := ⟨w.ι, w.h, upd w.H p o⟩
theorem Wd.ext_tupAt {K : PySem.W.Frag} {w : Wd} {p : Addr} {o : HO} (hp : w.H p = none) : Wd.Ext K w (w.tupAt p o) :=
  ⟨Nat.le_refl _, fun _ _ => rfl, fun _ _ h => SqT.fresh hp h⟩
theorem Wd.Ok.tupAt {K : PySem.W.Frag} {w : Wd} (ok : w.Ok K) {p : Addr} {o : HO} (hp : w.H p = none) : (w.tupAt p o).Ok K := by
  refine ⟨fun n c e => ?_, ok.inj⟩
  have q := ok.cell n c e
  have x : Wd.Ext K w (w.tupAt p o) := Wd.ext_tupAt hp
  cases c with
  | lst ds =>
    obtain ⟨vs, h1, h2⟩ := q
    refine ⟨vs, ?_, x.rps h2⟩
    show upd w.H p o (w.ι n) = _
    rw [upd_ne (by intro z; rw [z, hp] at h1; cases h1)]
    exact h1
  | ro ds =>
    obtain ⟨vs, h1, h2⟩ := q
    exact ⟨vs, h1.fresh hp, x.rps h2⟩

/-- a new list -/
def Wd.newL (w : Wd) (p : Addr) (ds : List D) (vs : List V) : Wd := ⟨fun k => if k = w.h.length then p else w.ι k, w.h ++ [.lst ds], upd w.H p (.lst vs)⟩
theorem Wd.ext_newL {K : PySem.W.Frag} {w : Wd} {p : Addr} {ds : List D} {vs : List V} (hp : w.H p = none) : Wd.Ext K w (w.newL p ds vs) :=
  ⟨by simp [Wd.newL], fun n h => by
    show (if n = w.h.length then p else w.ι n) = w.ι n
    rw [if_neg (Nat.ne_of_lt h)], fun _ _ h => SqT.fresh hp h⟩
theorem Wd.Ok.newL {K : PySem.W.Frag} {w : Wd} (ok : w.Ok K) {p : Addr} {ds : List D} {vs : List V} (hp : w.H p = none) (r : Rps K w ds vs) : (w.newL p ds vs).Ok K := by
  have x : Wd.Ext K w (w.newL p ds vs) := Wd.ext_newL hp
  have at_ : ∀ n c, (w.newL p ds vs).h[n]? = some c → (n = w.h.length ∧ c = .lst ds) ∨ (n < w.h.length ∧ w.h[n]? = some c) := fun n c e => by
    have e' : (w.h ++ [Cell.lst ds])[n]? = some c := e
    by_cases hn : n < w.h.length
    · rw [List.getElem?_append_left hn] at e'
      exact .inr ⟨hn, e'⟩
    · rw [List.getElem?_append_right (by omega)] at e'
      have : n - w.h.length = 0 := by
        by_cases q : n - w.h.length = 0
        · exact q
        · rw [List.getElem?_eq_none (by simp; omega)] at e'
          cases e'
      rw [this] at e'
      exact .inl ⟨by omega, by simpa using e'.symm⟩
  have ι1 : ∀ n, n < w.h.length → (w.newL p ds vs).ι n = w.ι n := x.ι
  have ι2 : (w.newL p ds vs).ι w.h.length = p := if_pos rfl
  refine ⟨fun n c e => ?_, fun n m c e hn hm mc me q => ?_⟩
  · rcases at_ n c e with ⟨rfl, rfl⟩ | ⟨hn, e⟩
    · rw [ι2]
      exact ⟨vs, upd_same, x.rps r⟩
    · rw [ι1 n hn]
      have q := ok.cell n c e
      cases c with
      | lst es =>
        obtain ⟨us, h1, h2⟩ := q
        refine ⟨us, ?_, x.rps h2⟩
        show upd w.H p _ (w.ι n) = _
        rw [upd_ne (by intro z; rw [z, hp] at h1; cases h1)]
        exact h1
      | ro es =>
        obtain ⟨us, h1, h2⟩ := q
        exact ⟨us, h1.fresh hp, x.rps h2⟩
  · have there : ∀ n c, w.h[n]? = some c → c.mut = true → w.H (w.ι n) ≠ none := fun n c e mc => by
      have q := ok.cell n c e
      cases c with
      | lst es =>
        obtain ⟨us, h1, h2⟩ := q
        rw [h1]
        exact fun z => nomatch z
      | ro es => cases mc
    rcases at_ n c hn with ⟨rfl, rfl⟩ | ⟨hn', e1⟩
    · rcases at_ m e hm with ⟨rfl, rfl⟩ | ⟨hm', e2⟩
      · rfl
      · rw [ι2, ι1 m hm'] at q
        exact absurd (q ▸ hp) (there m e e2 me)
    · rcases at_ m e hm with ⟨rfl, rfl⟩ | ⟨hm', e2⟩
      · rw [ι2, ι1 n hn'] at q
        exact absurd (q ▸ hp) (there n c e1 mc)
      · rw [ι1 n hn', ι1 m hm'] at q
        exact ok.inj n m c e e1 e2 mc me q

/-- a list's new items -/
def Wd.putL (w : Wd) (n : Nat) (ds : List D) (vs : List V) : Wd := ⟨w.ι, w.h.set n (.lst ds), upd w.H (w.ι n) (.lst vs)⟩
theorem Wd.ext_putL {K : PySem.W.Frag} {w : Wd} {n : Nat} {xs : List V} {ds : List D} {vs : List V} (hp : w.H (w.ι n) = some (.lst xs)) : Wd.Ext K w (w.putL n ds vs) :=
  ⟨by simp [Wd.putL], fun _ _ => rfl, fun _ _ h => SqT.wrote hp h⟩
theorem Wd.Ok.putL {K : PySem.W.Frag} {w : Wd} (ok : w.Ok K) {n : Nat} {es ds : List D} {vs : List V} (hn : w.h[n]? = some (.lst es)) (r : Rps K w ds vs) : (w.putL n ds vs).Ok K ∧ Wd.Ext K w (w.putL n ds vs) := by
  obtain ⟨xs, hp, _⟩ := ok.cell n _ hn
  have x : Wd.Ext K w (w.putL n ds vs) := Wd.ext_putL hp
  have hl : n < w.h.length := (List.getElem?_eq_some_iff.mp hn).1
  have at_ : ∀ m c, (w.putL n ds vs).h[m]? = some c → (m = n ∧ c = .lst ds) ∨ (m ≠ n ∧ w.h[m]? = some c) := fun m c e => by
    have e' : (w.h.set n (.lst ds))[m]? = some c := e
    by_cases hm : m = n
    · subst hm
      rw [List.getElem?_set_self hl] at e'
      exact .inl ⟨rfl, by simpa using e'.symm⟩
    · rw [List.getElem?_set_ne (fun z => hm z.symm)] at e'
      exact .inr ⟨hm, e'⟩
  refine ⟨⟨fun m c e => ?_, fun m k c e hm hk mc me q => ?_⟩, x⟩
  · rcases at_ m c e with ⟨rfl, rfl⟩ | ⟨hm, e⟩
    · exact ⟨vs, upd_same, x.rps r⟩
    · have q := ok.cell m c e
      cases c with
      | lst fs =>
        obtain ⟨us, h1, h2⟩ := q
        refine ⟨us, ?_, x.rps h2⟩
        show upd w.H (w.ι n) _ (w.ι m) = _
        rw [upd_ne (fun z => hm (ok.inj m n _ _ e hn rfl rfl z))]
        exact h1
      | ro fs =>
        obtain ⟨us, h1, h2⟩ := q
        exact ⟨us, h1.wrote hp, x.rps h2⟩
  · have old : ∀ m (c : Cell), (w.putL n ds vs).h[m]? = some c → c.mut = true → ∃ c' : Cell, w.h[m]? = some c' ∧ c'.mut = true := fun m c e mc => by
      rcases at_ m c e with ⟨rfl, rfl⟩ | ⟨hm, e⟩
      · exact ⟨_, hn, rfl⟩
      · exact ⟨c, e, mc⟩
    obtain ⟨c1, a1, b1⟩ := old m c hm mc
    obtain ⟨c2, a2, b2⟩ := old k e hk me
    exact ok.inj m k c1 c2 a1 a2 b1 b2 q
end Vq

/-! Part 2: the readings of denotations; rules for expressions. -/
namespace Vq
open PySem PySem.Spec PyProof.Rows L2

def Slots (K : PySem.W.Frag) (w : Wd) (s : VS) (σ : L2.St) : Prop :=
  s.length = σ.length ∧ ∀ (i : Nat) (d : D), s[i]? = some (some d) → ∃ v, σ[i]? = some (some v) ∧ Rp K w d v
theorem Slots.ext {K : PySem.W.Frag} {w w' : Wd} {s : VS} {σ : L2.St} (h : Slots K w s σ) (x : Wd.Ext K w w') : Slots K w' s σ :=
  ⟨h.1, fun i d e => let ⟨v, a, b⟩ := h.2 i d e; ⟨v, a, x.rp b⟩⟩
theorem Slots.set {K : PySem.W.Frag} {w : Wd} {s : VS} {σ : L2.St} (h : Slots K w s σ) (i : Nat) {d : D} {v : V} (r : Rp K w d v) : Slots K w (s.set i (some d)) (σ.set i (some v)) := by
  refine ⟨by simp [h.1], fun j e q => ?_⟩
  by_cases hj : i = j
  · subst hj
    by_cases hl : i < s.length
    · rw [List.getElem?_set_self hl] at q
      cases q
      exact ⟨v, List.getElem?_set_self (h.1 ▸ hl), r⟩
    · rw [List.getElem?_eq_none (by simp; omega)] at q
      cases q
  · rw [List.getElem?_set_ne hj] at q
    obtain ⟨u, a, b⟩ := h.2 j e q
    exact ⟨u, by rw [List.getElem?_set_ne hj]; exact a, b⟩

def RepX (K : PySem.W.Frag) (mg : Str → Option Value) (w : Wd) (x : Exn) (cls : Value) (d : Option Addr) : Prop :=
  mg x.cls = some cls ∧ ((x.fs = [] ∧ d = none) ∨
    ∃ a fs, d = some a ∧ x.fs ≠ [] ∧ w.H a = some (.xd fs) ∧ fs.map (·.1) = x.fs.map (·.1) ∧ Rps K w (x.fs.map (·.2)) (fs.map (·.2)))

section
variable (X : Cx) (W : WX)
def PstX (w0 : Wd) (x : Exn) (s : VS) (h : VH) : Prop := ∀ (w : Wd) (cls : Value) (d : Option Addr) (σ : L2.St), w.Ok X.K → w.h = h → Wd.Ext X.K w0 w → Slots X.K w s σ → RepX X.K X.mg w x cls d → W cls d σ w.H
def PstE (w : Wd) (r : Res (D × VH)) (Q : VK) : Prop :=
  match r with
  | .ok p => ∀ w' v, w'.Ok X.K → w'.h = p.2 → Wd.Ext X.K w w' → Rp X.K w' p.1 v → Q v w'.H
  | .ex x s h => PstX X W w x s h
  | .bad => False
def PstT (w : Wd) (r : Res (Bool × VH)) (Q : Bool → Hp → Prop) : Prop :=
  match r with
  | .ok p => ∀ w', w'.Ok X.K → w'.h = p.2 → Wd.Ext X.K w w' → Q p.1 w'.H
  | .ex x s h => PstX X W w x s h
  | .bad => False
def PstA (w : Wd) (r : Res (List D × VH)) (Q : List V → Hp → Prop) : Prop :=
  match r with
  | .ok p => ∀ w' vs, w'.Ok X.K → w'.h = p.2 → Wd.Ext X.K w w' → Rps X.K w' p.1 vs → Q vs w'.H
  | .ex x s h => PstX X W w x s h
  | .bad => False
def PstS (w : Wd) (r : Res (Out × VS × VH)) (E : Ends) : Prop :=
  match r with
  | .ok (.nx, s, h) => ∀ w' σ, w'.Ok X.K → w'.h = h → Wd.Ext X.K w w' → Slots X.K w' s σ → E.nx σ w'.H
  | .ok (.rt d, s, h) => ∀ w' v, w'.Ok X.K → w'.h = h → Wd.Ext X.K w w' → Rp X.K w' d v → E.rt v w'.H
  | .ok (.bk, s, h) => ∀ w' σ, w'.Ok X.K → w'.h = h → Wd.Ext X.K w w' → Slots X.K w' s σ → E.bk σ w'.H
  | .ok (.ct, s, h) => ∀ w' σ, w'.Ok X.K → w'.h = h → Wd.Ext X.K w w' → Slots X.K w' s σ → E.ct σ w'.H
  | .ex x s h => PstX X W w x s h
  | .bad => False
def PstG (w : Wd) (r : Res (VS × VH)) (Q : L2.St → Hp → Prop) : Prop :=
  match r with
  | .ok p => ∀ w' σ, w'.Ok X.K → w'.h = p.2 → Wd.Ext X.K w w' → Slots X.K w' p.1 σ → Q σ w'.H
  | .ex x s h => PstX X W w x s h
  | .bad => False

def gE (f : VE) : TE := fun σ H Q => ∃ w s, w.H = H ∧ w.Ok X.K ∧ Slots X.K w s σ ∧ PstE X W w (f s w.h) Q
def gT (f : VT) : TT := fun σ H Q => ∃ w s, w.H = H ∧ w.Ok X.K ∧ Slots X.K w s σ ∧ PstT X W w (f s w.h) Q
def gA (f : VA) : TA := fun σ H Q => ∃ w s, w.H = H ∧ w.Ok X.K ∧ Slots X.K w s σ ∧ PstA X W w (f s w.h) Q
def gS (f : VSt) : TS := fun E σ H => ∃ w s, w.H = H ∧ w.Ok X.K ∧ Slots X.K w s σ ∧ PstS X W w (f s w.h) E
def gG (f : VG) : TG := fun v σ H Q => ∃ w s d, w.H = H ∧ w.Ok X.K ∧ Slots X.K w s σ ∧ Rp X.K w d v ∧ PstG X W w (f d s w.h) Q

/-- a rule that has nothing to do with exceptions -/
def PstO (K : PySem.W.Frag) (w : Wd) (r : Option (D × VH)) (Q : VK) : Prop :=
  match r with
  | some p => ∀ w' v, w'.Ok K → w'.h = p.2 → Wd.Ext K w w' → Rp K w' p.1 v → Q v w'.H
  | none => False
end
def lift {α : Type} : Option α → Res α
  | some a => .ok a
  | none => .bad
@[simp] theorem lift_some {α : Type} (a : α) : lift (some a) = .ok a := rfl
@[simp] theorem lift_none {α : Type} : lift (none : Option α) = .bad := rfl

section
variable {X : Cx} {W : WX}
theorem PstE.lift {w : Wd} {r : Option (D × VH)} {Q : VK} (h : PstE X W w (lift r) Q) : PstO X.K w r Q := by
  cases r with
  | none => exact h
  | some p => exact h
theorem PstX.mono {w w1 : Wd} {x : Exn} {s : VS} {h : VH} (e : Wd.Ext X.K w w1) (p : PstX X W w x s h) : PstX X W w1 x s h :=
  fun w' cls d σ ok eh x' sl rx => p w' cls d σ ok eh (e.trans x') sl rx
theorem PstE.mono {w w1 : Wd} {r : Res (D × VH)} {Q : VK} (x : Wd.Ext X.K w w1) (h : PstE X W w r Q) : PstE X W w1 r Q := by
  cases r with
  | ok p => exact fun w' v ok e x' rp => h w' v ok e (x.trans x') rp
  | ex _ _ _ => exact PstX.mono x h
  | bad => exact h
theorem PstT.mono {w w1 : Wd} {r : Res (Bool × VH)} {Q : Bool → Hp → Prop} (x : Wd.Ext X.K w w1) (h : PstT X W w r Q) : PstT X W w1 r Q := by
  cases r with
  | ok p => exact fun w' ok e x' => h w' ok e (x.trans x')
  | ex _ _ _ => exact PstX.mono x h
  | bad => exact h
theorem PstA.mono {w w1 : Wd} {r : Res (List D × VH)} {Q : List V → Hp → Prop} (x : Wd.Ext X.K w w1) (h : PstA X W w r Q) : PstA X W w1 r Q := by
  cases r with
  | ok p => exact fun w' v ok e x' rp => h w' v ok e (x.trans x') rp
  | ex _ _ _ => exact PstX.mono x h
  | bad => exact h
theorem PstS.mono {w w1 : Wd} {r : Res (Out × VS × VH)} {Q : Ends} (x : Wd.Ext X.K w w1) (h : PstS X W w r Q) : PstS X W w1 r Q := by
  cases r with
  | ok p =>
    obtain ⟨o, s, hp⟩ := p
    cases o <;> exact fun w' v ok e x' rp => h w' v ok e (x.trans x') rp
  | ex _ _ _ => exact PstX.mono x h
  | bad => exact h
theorem PstG.mono {w w1 : Wd} {r : Res (VS × VH)} {Q : L2.St → Hp → Prop} (x : Wd.Ext X.K w w1) (h : PstG X W w r Q) : PstG X W w1 r Q := by
  cases r with
  | ok p => exact fun w' v ok e x' rp => h w' v ok e (x.trans x') rp
  | ex _ _ _ => exact PstX.mono x h
  | bad => exact h
theorem PstO.mono {K : PySem.W.Frag} {w w1 : Wd} {r : Option (D × VH)} {Q : VK} (x : Wd.Ext K w w1) (h : PstO K w r Q) : PstO K w1 r Q := by
  cases r with
  | some p => exact fun w' v ok e x' rp => h w' v ok e (x.trans x') rp
  | none => exact h

/-- what a continuation wants, whatever kind it is -/
structure Wants (X : Cx) (W : WX) (w : Wd) {β : Type} (P : Res β → Prop) : Prop where
  bad : ¬ P .bad
  ex : ∀ x s h, P (.ex x s h) → PstX X W w x s h
theorem Wants.mono {w w1 : Wd} {β : Type} {P : Res β → Prop} (a : Wants X W w P) (x : Wd.Ext X.K w w1) : Wants X W w1 P := ⟨a.bad, fun e s h q => (a.ex e s h q).mono x⟩
theorem wE (w : Wd) (Q : VK) : Wants X W w (fun r => PstE X W w r Q) := ⟨id, fun _ _ _ h => h⟩
theorem wT (w : Wd) (Q : Bool → Hp → Prop) : Wants X W w (fun r => PstT X W w r Q) := ⟨id, fun _ _ _ h => h⟩
theorem wA (w : Wd) (Q : List V → Hp → Prop) : Wants X W w (fun r => PstA X W w r Q) := ⟨id, fun _ _ _ h => h⟩
theorem wS (w : Wd) (Q : Ends) : Wants X W w (fun r => PstS X W w r Q) := ⟨id, fun _ _ _ h => h⟩
theorem wG (w : Wd) (Q : L2.St → Hp → Prop) : Wants X W w (fun r => PstG X W w r Q) := ⟨id, fun _ _ _ h => h⟩

theorem gE.seq {f : VE} {β : Type} {k : D × VH → Res β} {P : Res β → Prop} {w : Wd} {s : VS} {σ : L2.St} {Q : VK} (ok : w.Ok X.K) (sl : Slots X.K w s σ) (hP : Wants X W w P) (hp : P ((f s w.h).bind k))
    (hq : ∀ d w1 v, w1.Ok X.K → Wd.Ext X.K w w1 → Slots X.K w1 s σ → Rp X.K w1 d v → P (k (d, w1.h)) → Q v w1.H) : gE X W f σ w.H Q := by
  refine ⟨w, s, rfl, ok, sl, ?_⟩
  cases e : f s w.h with
  | ok p =>
    rw [e] at hp
    obtain ⟨p1, p2⟩ := p
    intro w' v ok' q x r
    refine hq p1 w' v ok' x (sl.ext x) r ?_
    rw [show w'.h = p2 from q]
    exact hp
  | ex x s h => rw [e] at hp; exact hP.ex _ _ _ hp
  | bad => rw [e] at hp; exact (hP.bad hp).elim
theorem gT.seq {f : VT} {β : Type} {k : Bool × VH → Res β} {P : Res β → Prop} {w : Wd} {s : VS} {σ : L2.St} {Q : Bool → Hp → Prop} (ok : w.Ok X.K) (sl : Slots X.K w s σ) (hP : Wants X W w P) (hp : P ((f s w.h).bind k))
    (hq : ∀ d w1, w1.Ok X.K → Wd.Ext X.K w w1 → Slots X.K w1 s σ → P (k (d, w1.h)) → Q d w1.H) : gT X W f σ w.H Q := by
  refine ⟨w, s, rfl, ok, sl, ?_⟩
  cases e : f s w.h with
  | ok p =>
    rw [e] at hp
    obtain ⟨p1, p2⟩ := p
    intro w' ok' q x
    refine hq p1 w' ok' x (sl.ext x) ?_
    rw [show w'.h = p2 from q]
    exact hp
  | ex x s h => rw [e] at hp; exact hP.ex _ _ _ hp
  | bad => rw [e] at hp; exact (hP.bad hp).elim
theorem gA.seq {f : VA} {β : Type} {k : List D × VH → Res β} {P : Res β → Prop} {w : Wd} {s : VS} {σ : L2.St} {Q : List V → Hp → Prop} (ok : w.Ok X.K) (sl : Slots X.K w s σ) (hP : Wants X W w P) (hp : P ((f s w.h).bind k))
    (hq : ∀ d w1 v, w1.Ok X.K → Wd.Ext X.K w w1 → Slots X.K w1 s σ → Rps X.K w1 d v → P (k (d, w1.h)) → Q v w1.H) : gA X W f σ w.H Q := by
  refine ⟨w, s, rfl, ok, sl, ?_⟩
  cases e : f s w.h with
  | ok p =>
    rw [e] at hp
    obtain ⟨p1, p2⟩ := p
    intro w' v ok' q x r
    refine hq p1 w' v ok' x (sl.ext x) r ?_
    rw [show w'.h = p2 from q]
    exact hp
  | ex x s h => rw [e] at hp; exact hP.ex _ _ _ hp
  | bad => rw [e] at hp; exact (hP.bad hp).elim

theorem PEw {e : Expr} {t t' : TE} (h : PE X e t) (i : ∀ σ H Q, t' σ H Q → t σ H Q) : PE X e t' := ⟨fun pins s σ H Q I q => h.run pins s σ H Q I (i σ H Q q)⟩
theorem PTw {e : Expr} {t t' : TT} (h : PT X e t) (i : ∀ σ H Q, t' σ H Q → t σ H Q) : PT X e t' := ⟨fun pins s σ H Q I q => h.run pins s σ H Q I (i σ H Q q)⟩
theorem PWw {e : Expr} {t t' : TT} (h : PW X e t) (i : ∀ σ H Q, t' σ H Q → t σ H Q) : PW X e t' := ⟨fun wh pins s σ H Q I q => h.run wh pins s σ H Q I (i σ H Q q)⟩
theorem PAw {e : List Expr} {t t' : TA} (h : PA X e t) (i : ∀ σ H Q, t' σ H Q → t σ H Q) : PA X e t' := ⟨fun pos pins s σ H Q I q => h.run pos pins s σ H Q I (i σ H Q q)⟩
theorem PSw {e : Stmt} {t t' : TS} (h : PS X e t) (i : ∀ D σ H, t' D σ H → t D σ H) : PS X e t' := ⟨fun pins s σ H D I q => h.run pins s σ H D I (i D σ H q)⟩
theorem PSsw {e : List Stmt} {t t' : TS} (h : PSs X e t) (i : ∀ D σ H, t' D σ H → t D σ H) : PSs X e t' := ⟨fun pins s σ H D I q => h.run pins s σ H D I (i D σ H q)⟩
theorem PGw {e : Expr} {t t' : TG} (h : PG X e t) (i : ∀ v σ H Q, t' v σ H Q → t v σ H Q) : PG X e t' := ⟨fun pins s σ H v u Q I r q => h.run pins s σ H v u Q I r (i v σ H Q q)⟩

/-! ### names and constants -/
def vVar (i : Nat) : VE := fun s h => match s[i]? with
  | some (some d) => .ok (d, h)
  | _ => .bad
def vC (d : D) : VE := fun _ h => .ok (d, h)
theorem qV {x : Str} {pos : Pos} {i : Nat} (hN : X.N[i]? = some x := by rfl) (hv : Vis X.env.scope x := by first | exact Or.inl rfl | exact Or.inr (Or.inl rfl) | exact Or.inr (Or.inr rfl))
    (hd : (x == ("__debug__" : Str)) = false := by decide) (hcd : (x == ("__classdict__" : Str)) = false := by decide) : PE X (.Name x pos) (gE X W (vVar i)) :=
  PEw (pe_var (i := i) hN hv hd hcd) fun σ H Q ⟨w, s, hH, ok, sl, hp⟩ => by
    subst hH
    unfold vVar at hp
    split at hp
    · rename_i d e
      obtain ⟨v, e', r⟩ := sl.2 i d e
      exact ⟨v, e', hp w v ok rfl (.refl w) r⟩
    · exact hp.elim
theorem qC {e : Expr} {d : D} {v : V} (h : PE X e (tC v)) (r : ∀ w : Wd, Rp X.K w d v) : PE X e (gE X W (vC d)) :=
  PEw h fun σ H Q ⟨w, s, hH, ok, sl, hp⟩ => by
    subst hH
    exact hp w v ok rfl (.refl w) (r w)
theorem qI {i : Int} {j} {pos : Pos} : PE X (.Constant (.int i) j pos) (gE X W (vC (.int i))) := qC pe_int fun _ => .int i
theorem qB {b : Bool} {j} {pos : Pos} : PE X (.Constant (.bool b) j pos) (gE X W (vC (.bl b))) := qC pe_bl fun _ => .bl b
theorem qN {j} {pos : Pos} : PE X (.Constant .none j pos) (gE X W (vC .non)) := qC pe_non fun _ => .non
theorem qS {x : Str} {j} {pos : Pos} : PE X (.Constant (.str x) j pos) (gE X W (vC (.str x))) := qC pe_str fun _ => .str x

/-! ### argument lists, displays -/
def vNil : VA := fun _ h => .ok ([], h)
def vCons (f : VE) (g : VA) : VA := fun s h => (f s h).bind fun p => (g s p.2).bind fun q => .ok (p.1 :: q.1, q.2)
theorem qa0 : PA X [] (gA X W vNil) := PAw pa_nil fun σ H Q ⟨w, s, hH, ok, sl, hp⟩ => by
  subst hH
  exact hp w [] ok rfl (.refl w) .nil
theorem qa {e : Expr} {es : List Expr} {f : VE} {g : VA} (ha : PE X e (gE X W f)) (hr : PA X es (gA X W g)) (hs : starEach (e :: es) X.env = (false, eval e X.env) :: starEach es X.env := by rfl) : PA X (e :: es) (gA X W (vCons f g)) :=
  PAw (pa_cons ha hr hs) fun σ H Q ⟨w, s, hH, ok, sl, hp⟩ => by
    subst hH
    refine gE.seq ok sl (wA w Q) hp fun d w1 v ok1 x1 sl1 r1 hp1 => ?_
    refine gA.seq ok1 sl1 ((wA w Q).mono x1) hp1 fun d2 w2 v2 ok2 x2 sl2 r2 hp2 => ?_
    exact hp2 w2 (v :: v2) ok2 rfl (x1.trans x2) (.cons (x2.rp r1) r2)
def vTup (g : VA) : VE := fun s h => (g s h).bind fun p => if p.1.length ≤ sizeLine then .ok (.tup p.1, p.2) else .bad
def vLst (g : VA) : VE := fun s h => (g s h).bind fun p => if p.1.length ≤ sizeLine then .ok (.ref p.2.length, p.2 ++ [.lst p.1]) else .bad
theorem at_newL {K : PySem.W.Frag} {w : Wd} {p : Addr} {ds : List D} {vs : List V} : Rp K (w.newL p ds vs) (.ref w.h.length) (.ref p) := by
  have q : RepV K (w.newL p ds vs).ι (w.newL p ds vs).h.length (w.newL p ds vs).H (.ref w.h.length) (.ref ((w.newL p ds vs).ι w.h.length)) := .ref (by simp [Wd.newL])
  have e : (w.newL p ds vs).ι w.h.length = p := if_pos rfl
  rw [e] at q
  exact q
theorem qTup {es : List Expr} {g : VA} {pos : Pos} {x1} (ha : PA X es (gA X W g)) : PE X (.Tuple es x1 pos) (gE X W (vTup g)) :=
  PEw (pe_tup ha) fun σ H Q ⟨w, s, hH, ok, sl, hp⟩ => by
    subst hH
    refine gA.seq ok sl (wE w Q) hp fun ds w1 vs ok1 x1 sl1 r1 hp1 => ?_
    simp only at hp1
    by_cases hl : ds.length ≤ sizeLine
    · rw [if_pos hl] at hp1
      refine ⟨by rw [← r1.length]; exact hl, fun p hn => ?_⟩
      exact hp1 (w1.tupAt p (.tup vs)) (.ref p) (ok1.tupAt hn) rfl (x1.trans (Wd.ext_tupAt hn)) (.tup (SqT.of upd_same) ((Wd.ext_tupAt hn).rps r1))
    · rw [if_neg hl] at hp1
      exact hp1.elim
theorem qLst {es : List Expr} {g : VA} {pos : Pos} (ha : PA X es (gA X W g)) : PE X (.List es pos) (gE X W (vLst g)) :=
  PEw (pe_lst ha) fun σ H Q ⟨w, s, hH, ok, sl, hp⟩ => by
    subst hH
    refine gA.seq ok sl (wE w Q) hp fun ds w1 vs ok1 x1 sl1 r1 hp1 => ?_
    simp only at hp1
    by_cases hl : ds.length ≤ sizeLine
    · rw [if_pos hl] at hp1
      refine ⟨by rw [← r1.length]; exact hl, fun p hn => ?_⟩
      exact hp1 (w1.newL p ds vs) (.ref p) (ok1.newL hn r1) rfl (x1.trans (Wd.ext_newL hn)) at_newL
    · rw [if_neg hl] at hp1
      exact hp1.elim

/-! ### operators by values -/
/-- what a two-place operation does upon values -/
def OpD (K : PySem.W.Frag) (r : R2) (f : D → D → VH → Option (D × VH)) : Prop :=
  ∀ (w : Wd) (x y : D) (vx vy : V) (Q : VK), w.Ok K → Rp K w x vx → Rp K w y vy → PstO K w (f x y w.h) Q → r vx vy w.H Q
def vOp (f : D → D → VH → Option (D × VH)) (a b : VE) : VE := fun s h => (a s h).bind fun p => (b s p.2).bind fun q => lift (f p.1 q.1 q.2)
theorem vop_red {r : R2} {f : D → D → VH → Option (D × VH)} {a b : VE} (hf : OpD X.K r f) {σ : L2.St} {H : Hp} {Q : VK} (h : gE X W (vOp f a b) σ H Q) : tOp r (gE X W a) (gE X W b) σ H Q := by
  obtain ⟨w, s, hH, ok, sl, hp⟩ := h
  subst hH
  refine gE.seq ok sl (wE w Q) hp fun d w1 v ok1 x1 sl1 r1 hp1 => ?_
  refine gE.seq ok1 sl1 ((wE w Q).mono x1) hp1 fun d2 w2 v2 ok2 x2 sl2 r2 hp2 => ?_
  exact hf w2 d d2 v v2 Q ok2 (x2.rp r1) r2 (hp2.lift.mono (x1.trans x2))
theorem qOp {op : Operator} {r : R2} {f : D → D → VH → Option (D × VH)} {a b : Expr} {fa fb : VE} {pos : Pos} (ho : OpR X (binaryOp op) r) (hf : OpD X.K r f) (ha : PE X a (gE X W fa)) (hb : PE X b (gE X W fb)) : PE X (.BinOp a op b pos) (gE X W (vOp f fa fb)) :=
  PEw (pe_op ho ha hb) fun _ _ _ h => vop_red hf h
theorem qCm {op : CmpOp} {r : R2} {f : D → D → VH → Option (D × VH)} {a b : Expr} {fa fb : VE} {pos : Pos} (ho : OpR X (compareOp op) r) (hf : OpD X.K r f) (ha : PE X a (gE X W fa)) (hb : PE X b (gE X W fb))
    (hm : behindInMarks op b = false := by first | exact nomark _ | rfl) : PE X (.Compare a [op] [b] pos) (gE X W (vOp f fa fb)) :=
  PEw (pe_cmpR ho ha hb hm) fun _ _ _ h => vop_red hf h
/-- tests: the truth of a value -/
def vTr (f : VE) : VT := fun s h => (f s h).bind fun p => match p.1 with
  | .bl b => .ok (b, p.2)
  | _ => .bad
theorem vtr_red {a : VE} {σ : L2.St} {H : Hp} {Q : Bool → Hp → Prop} (h : gT X W (vTr a) σ H Q) : tB (gE X W a) σ H Q := by
  obtain ⟨w, s, hH, ok, sl, hp⟩ := h
  subst hH
  refine gE.seq ok sl (wT w Q) hp fun d w1 v ok1 x1 sl1 r1 hp1 => ?_
  cases r1 with
  | bl b => exact ⟨b, rfl, hp1 w1 ok1 rfl x1⟩
  | _ => exact hp1.elim
theorem qCmT {op : CmpOp} {r : R2} {f : D → D → VH → Option (D × VH)} {a b : Expr} {fa fb : VE} {pos : Pos} (ho : OpR X (compareOp op) r) (hf : OpD X.K r f) (ha : PE X a (gE X W fa)) (hb : PE X b (gE X W fb))
    (hm : behindInMarks op b = false := by first | exact nomark _ | rfl) : PT X (.Compare a [op] [b] pos) (gT X W (vTr (vOp f fa fb))) :=
  PTw (pt_cmpR ho ha hb hm) fun _ _ _ h => by
    have q := vtr_red h
    obtain ⟨w, s, hH, ok, sl, hp⟩ := q
    exact vop_red hf ⟨w, s, hH, ok, sl, hp⟩
/-- a value as a test -/
theorem qT {e : Expr} {f : VE} (h : PE X e (gE X W f)) (he : ∀ whole, isTrue e X.env whole = (do let v ← whole; standAt e.pos; holding [v] (truthy v)) := by intro _; rfl) : PT X e (gT X W (vTr f)) :=
  PTw (pt_val h he) fun _ _ _ h => vtr_red h

/-! ### and, or, not, if else -/
def vNotT (f : VT) : VT := fun s h => (f s h).bind fun p => .ok (!p.1, p.2)
def vAndT (f g : VT) : VT := fun s h => (f s h).bind fun p => if p.1 = true then g s p.2 else .ok (false, p.2)
def vOrT (f g : VT) : VT := fun s h => (f s h).bind fun p => if p.1 = true then .ok (true, p.2) else g s p.2
theorem qNotT {a : Expr} {f : VT} {pos : Pos} (ha : PT X a (gT X W f)) : PT X (.UnaryOp .Not a pos) (gT X W (vNotT f)) :=
  PTw (pt_not ha) fun σ H Q ⟨w, s, hH, ok, sl, hp⟩ => by
    subst hH
    exact gT.seq ok sl (wT w Q) hp fun d w1 ok1 x1 sl1 hp1 => hp1 w1 ok1 rfl x1
theorem qAnd1 {a : Expr} {f : VT} {pos : Pos} (ha : PT X a (gT X W f)) : PW X (.BoolOp .And [a] pos) (gT X W f) := pw_and1 ha
theorem qOr1 {a : Expr} {f : VT} {pos : Pos} (ha : PT X a (gT X W f)) : PW X (.BoolOp .Or [a] pos) (gT X W f) := pw_or1 ha
theorem qAndT {a b : Expr} {rest : List Expr} {f g : VT} {pos : Pos} (ha : PT X a (gT X W f)) (hb : PW X (.BoolOp .And (b :: rest) pos) (gT X W g)) : PW X (.BoolOp .And (a :: b :: rest) pos) (gT X W (vAndT f g)) :=
  PWw (pw_and ha hb) fun σ H Q ⟨w, s, hH, ok, sl, hp⟩ => by
    subst hH
    refine gT.seq ok sl (wT w Q) hp fun d w1 ok1 x1 sl1 hp1 => ?_
    cases d with
    | true =>
      simp only [if_true] at hp1 ⊢
      exact ⟨w1, s, rfl, ok1, sl1, hp1.mono x1⟩
    | false =>
      simp only [Bool.false_eq_true, if_false] at hp1 ⊢
      exact hp1 w1 ok1 rfl x1
theorem qOrT {a b : Expr} {rest : List Expr} {f g : VT} {pos : Pos} (ha : PT X a (gT X W f)) (hb : PW X (.BoolOp .Or (b :: rest) pos) (gT X W g)) : PW X (.BoolOp .Or (a :: b :: rest) pos) (gT X W (vOrT f g)) :=
  PWw (pw_or ha hb) fun σ H Q ⟨w, s, hH, ok, sl, hp⟩ => by
    subst hH
    refine gT.seq ok sl (wT w Q) hp fun d w1 ok1 x1 sl1 hp1 => ?_
    cases d with
    | true =>
      simp only [if_true] at hp1 ⊢
      exact hp1 w1 ok1 rfl x1
    | false =>
      simp only [Bool.false_eq_true, if_false] at hp1 ⊢
      exact ⟨w1, s, rfl, ok1, sl1, hp1.mono x1⟩
/-- as values: all but the last True or False -/
def vAnd (f g : VE) : VE := fun s h => (f s h).bind fun p => match p.1 with
  | .bl true => g s p.2
  | .bl false => .ok (.bl false, p.2)
  | _ => .bad
def vOr (f g : VE) : VE := fun s h => (f s h).bind fun p => match p.1 with
  | .bl true => .ok (.bl true, p.2)
  | .bl false => g s p.2
  | _ => .bad
def vNot (f : VE) : VE := fun s h => (f s h).bind fun p => match p.1 with
  | .bl b => .ok (.bl (!b), p.2)
  | _ => .bad
theorem qOne {op : PySem.BoolOp} {a : Expr} {f : VE} {pos : Pos} (h : PE X a (gE X W f)) : PE X (.BoolOp op [a] pos) (gE X W f) := pe_one h
theorem qAnd {a b : Expr} {rest : List Expr} {f g : VE} {pos : Pos} (ha : PE X a (gE X W f)) (hb : PE X (.BoolOp .And (b :: rest) pos) (gE X W g)) : PE X (.BoolOp .And (a :: b :: rest) pos) (gE X W (vAnd f g)) :=
  PEw (pe_and ha hb) fun σ H Q ⟨w, s, hH, ok, sl, hp⟩ => by
    subst hH
    refine gE.seq ok sl (wE w Q) hp fun d w1 v ok1 x1 sl1 r1 hp1 => ?_
    cases r1 with
    | bl b =>
      refine ⟨b, rfl, ?_⟩
      cases b with
      | true =>
        simp only [if_true] at hp1 ⊢
        exact ⟨w1, s, rfl, ok1, sl1, hp1.mono x1⟩
      | false =>
        simp only [Bool.false_eq_true, if_false] at hp1 ⊢
        exact hp1 w1 _ ok1 rfl x1 (.bl _)
    | _ => exact hp1.elim
theorem qOr {a b : Expr} {rest : List Expr} {f g : VE} {pos : Pos} (ha : PE X a (gE X W f)) (hb : PE X (.BoolOp .Or (b :: rest) pos) (gE X W g)) : PE X (.BoolOp .Or (a :: b :: rest) pos) (gE X W (vOr f g)) :=
  PEw (pe_or ha hb) fun σ H Q ⟨w, s, hH, ok, sl, hp⟩ => by
    subst hH
    refine gE.seq ok sl (wE w Q) hp fun d w1 v ok1 x1 sl1 r1 hp1 => ?_
    cases r1 with
    | bl b =>
      refine ⟨b, rfl, ?_⟩
      cases b with
      | false =>
        simp only [Bool.false_eq_true, if_false] at hp1 ⊢
        exact ⟨w1, s, rfl, ok1, sl1, hp1.mono x1⟩
      | true =>
        simp only [if_true] at hp1 ⊢
        exact hp1 w1 _ ok1 rfl x1 (.bl _)
    | _ => exact hp1.elim
theorem qNot {a : Expr} {f : VE} {pos : Pos} (ha : PE X a (gE X W f)) : PE X (.UnaryOp .Not a pos) (gE X W (vNot f)) :=
  PEw (pe_not ha) fun σ H Q ⟨w, s, hH, ok, sl, hp⟩ => by
    subst hH
    refine gE.seq ok sl (wE w Q) hp fun d w1 v ok1 x1 sl1 r1 hp1 => ?_
    cases r1 with
    | bl b => exact ⟨b, rfl, hp1 w1 _ ok1 rfl x1 (.bl _)⟩
    | _ => exact hp1.elim
def vIf (c : VT) (f g : VE) : VE := fun s h => (c s h).bind fun p => if p.1 = true then f s p.2 else g s p.2
theorem qIf {c a b : Expr} {t : VT} {f g : VE} {pos : Pos} (hc : PT X c (gT X W t)) (ha : PE X a (gE X W f)) (hb : PE X b (gE X W g)) : PE X (.IfExp c a b pos) (gE X W (vIf t f g)) :=
  PEw (pe_ifExp hc ha hb) fun σ H Q ⟨w, s, hH, ok, sl, hp⟩ => by
    subst hH
    refine gT.seq ok sl (wE w Q) hp fun d w1 ok1 x1 sl1 hp1 => ?_
    cases d with
    | true =>
      simp only [if_true] at hp1 ⊢
      exact ⟨w1, s, rfl, ok1, sl1, hp1.mono x1⟩
    | false =>
      simp only [Bool.false_eq_true, if_false] at hp1 ⊢
      exact ⟨w1, s, rfl, ok1, sl1, hp1.mono x1⟩

/-! ### one-place operations; calls of built-ins by values -/
def UnD (K : PySem.W.Frag) (r : V → Hp → VK → Prop) (f : D → VH → Option (D × VH)) : Prop :=
  ∀ (w : Wd) (x : D) (vx : V) (Q : VK), w.Ok K → Rp K w x vx → PstO K w (f x w.h) Q → r vx w.H Q
def vUn (f : D → VH → Option (D × VH)) (a : VE) : VE := fun s h => (a s h).bind fun p => lift (f p.1 p.2)
theorem qUn {op : UnaryOp} {r : V → Hp → VK → Prop} {f : D → VH → Option (D × VH)} {a : Expr} {fa : VE} {pos : Pos} (ho : UnR X (unaryOp op) r) (hf : UnD X.K r f) (ha : PE X a (gE X W fa)) : PE X (.UnaryOp op a pos) (gE X W (vUn f fa)) :=
  PEw (pe_un ho ha) fun σ H Q ⟨w, s, hH, ok, sl, hp⟩ => by
    subst hH
    refine gE.seq ok sl (wE w Q) hp fun d w1 v ok1 x1 sl1 r1 hp1 => ?_
    exact hf w1 d v Q ok1 r1 (hp1.lift.mono x1)
def CallD (K : PySem.W.Frag) (r : List V → Hp → VK → Prop) (f : List D → VH → Option (D × VH)) : Prop :=
  ∀ (w : Wd) (xs : List D) (vs : List V) (Q : VK), w.Ok K → Rps K w xs vs → PstO K w (f xs w.h) Q → r vs w.H Q
def vBl (f : List D → VH → Option (D × VH)) (a : VA) : VE := fun s h => (a s h).bind fun p => lift (f p.1 p.2)
theorem vbl_red {r : List V → Hp → VK → Prop} {f : List D → VH → Option (D × VH)} {a : VA} (hf : CallD X.K r f) {σ : L2.St} {H : Hp} {Q : VK} (h : gE X W (vBl f a) σ H Q) : tCB r (gA X W a) σ H Q := by
  obtain ⟨w, s, hH, ok, sl, hp⟩ := h
  subst hH
  refine gA.seq ok sl (wE w Q) hp fun d w1 v ok1 x1 sl1 r1 hp1 => ?_
  exact hf w1 d v Q ok1 r1 (hp1.lift.mono x1)
theorem qBl {x : Str} {id : String} {p pos : Pos} {e : Expr} {es : List Expr} {g : VA} {r : List V → Hp → VK → Prop} {f : List D → VH → Option (D × VH)} (hc : CallR X (.builtin id) r) (hf : CallD X.K r f) (hm : X.mg x = none) (ha : PA X (e :: es) (gA X W g))
    (hg : Gl X x := by rfl) (hv : bootBuiltins x = some (.builtin id) := by decide +kernel) (hn : x ≠ "__name__" := by decide) (hdb : (x == ("__debug__" : Str)) = false := by decide)
    (he : starEach (e :: es) X.env = (false, eval e X.env) :: starEach es X.env := by rfl) (hpl : (backTo pos (starEach es X.env)).any (·.1) = false := by rfl) : PE X (.Call (.Name x p) (e :: es) [] pos) (gE X W (vBl f g)) :=
  PEw (pe_callB hc hg hm hv ha hn hdb he hpl) fun _ _ _ h => vbl_red hf h
theorem qTy {x : Str} {T : String} {p pos : Pos} {e : Expr} {es : List Expr} {g : VA} {r : List V → Hp → VK → Prop} {f : List D → VH → Option (D × VH)} (hc : CallR X (.type T) r) (hf : CallD X.K r f) (hm : X.mg x = none) (ha : PA X (e :: es) (gA X W g))
    (hg : Gl X x := by rfl) (hv : bootBuiltins x = some (.type T) := by decide +kernel) (hn : x ≠ "__name__" := by decide) (hdb : (x == ("__debug__" : Str)) = false := by decide)
    (he : starEach (e :: es) X.env = (false, eval e X.env) :: starEach es X.env := by rfl) (hpl : (backTo pos (starEach es X.env)).any (·.1) = false := by rfl) : PE X (.Call (.Name x p) (e :: es) [] pos) (gE X W (vBl f g)) :=
  PEw (pe_callTy hc hg hm hv ha hn hdb he hpl) fun _ _ _ h => vbl_red hf h

/-! ### subscripts and slices -/
theorem qIx {r : R2} {f : D → D → VH → Option (D × VH)} {a b : Expr} {fa fb : VE} {pos : Pos} (ho : IxR X r) (hf : OpD X.K r f) (ha : PE X a (gE X W fa)) (hb : PE X b (gE X W fb)) (hs : PlainIx b := by exact fun _ _ => rfl) : PE X (.Subscript a b pos) (gE X W (vOp f fa fb)) :=
  PEw (pe_ix ho ha hb hs) fun _ _ _ h => vop_red hf h
end
end Vq

/-! Part 3: statements, targets, loops, comprehensions. -/
namespace Vq
open PySem PySem.Spec PyProof.Rows L2

/-! ### blocks -/
def vSeq (f g : VSt) : VSt := fun s h => (f s h).bind fun p => match p with
  | (.nx, s', h') => g s' h'
  | q => .ok q
def vPass : VSt := fun s h => .ok (.nx, s, h)
def vBreak : VSt := fun s h => .ok (.bk, s, h)
def vCont : VSt := fun s h => .ok (.ct, s, h)
def vRet (f : VE) : VSt := fun s h => (f s h).bind fun p => .ok (.rt p.1, s, p.2)
def vRetN : VSt := fun s h => .ok (.rt .non, s, h)
def vDrop (f : VE) : VSt := fun s h => (f s h).bind fun p => .ok (.nx, s, p.2)
def vIfS (c : VT) (f g : VSt) : VSt := fun s h => (c s h).bind fun p => if p.1 = true then f s p.2 else g s p.2
def vAsg (f : VE) (g : VG) : VSt := fun s h => (f s h).bind fun p => (g p.1 s p.2).bind fun q => .ok (.nx, q.1, q.2)
def gName (i : Nat) : VG := fun d s h => .ok (s.set i (some d), h)
abbrev VGs := List D → VS → VH → Res (VS × VH)
def gsNil : VGs := fun l s h => match l with
  | [] => .ok (s, h)
  | _ => .bad
def gsCons (g : VG) (k : VGs) : VGs := fun l s h => match l with
  | d :: r => (g d s h).bind fun p => k r p.1 p.2
  | [] => .bad
def gTupl (n : Nat) (k : VGs) : VG := fun d s h => match d with
  | .tup l => if l.length = n then k l s h else .bad
  | _ => .bad
/-- a store at o[i] by values: new heap -/
def SetD (K : PySem.W.Frag) (t : TSet) (f : D → D → D → VH → Option VH) : Prop :=
  ∀ (w : Wd) (o i d : D) (vo vi vd : V) (Q : Hp → Prop), w.Ok K → Rp K w o vo → Rp K w i vi → Rp K w d vd → (match f o i d w.h with
    | some h => ∀ w', w'.Ok K → w'.h = h → Wd.Ext K w w' → Q w'.H
    | none => False) → t vo vi vd w.H Q
def gSubs (f : D → D → D → VH → Option VH) (o i : VE) : VG := fun d s h => (o s h).bind fun p => (i s p.2).bind fun q => (lift (f p.1 q.1 d q.2)).bind fun h' => .ok (s, h')

section
variable {X : Cx} {W : WX}
theorem qsNil : PSs X [] (gS X W vPass) := PSsw pss_nil fun D σ H ⟨w, s, hH, ok, sl, hp⟩ => by
  subst hH
  exact hp w σ ok rfl (.refl w) sl
theorem vseq_red {f g : VSt} {D : Ends} {σ : L2.St} {H : Hp} (h : gS X W (vSeq f g) D σ H) : gS X W f { D with nx := gS X W g D } σ H := by
  obtain ⟨w, s, hH, ok, sl, hp⟩ := h
  refine ⟨w, s, hH, ok, sl, ?_⟩
  unfold vSeq at hp
  cases e : f s w.h with
  | bad => rw [e] at hp; exact hp
  | ex x s' h' => rw [e] at hp; exact hp
  | ok p =>
    rw [e] at hp
    obtain ⟨o, s', h'⟩ := p
    cases o with
    | nx =>
      intro w' σ' ok' e' x' sl'
      refine ⟨w', s', rfl, ok', sl', ?_⟩
      rw [e']
      exact PstS.mono x' hp
    | rt d => exact hp
    | bk => exact hp
    | ct => exact hp
theorem qsCons {st : Stmt} {rest : List Stmt} {f g : VSt} (h1 : PS X st (gS X W f)) (h2 : PSs X rest (gS X W g)) : PSs X (st :: rest) (gS X W (vSeq f g)) :=
  PSsw (pss_cons h1 h2) fun _ _ _ h => vseq_red h
theorem qsOne {st : Stmt} {f : VSt} (h1 : PS X st (gS X W f)) : PSs X [st] (gS X W f) := pss_one h1
theorem qPass {pos : Pos} : PS X (.Pass pos) (gS X W vPass) := PSw ps_pass fun D σ H ⟨w, s, hH, ok, sl, hp⟩ => by
  subst hH
  exact hp w σ ok rfl (.refl w) sl
theorem qBreak {pos : Pos} : PS X (.Break pos) (gS X W vBreak) := PSw ps_break fun D σ H ⟨w, s, hH, ok, sl, hp⟩ => by
  subst hH
  exact hp w σ ok rfl (.refl w) sl
theorem qCont {pos : Pos} : PS X (.Continue pos) (gS X W vCont) := PSw ps_continue fun D σ H ⟨w, s, hH, ok, sl, hp⟩ => by
  subst hH
  exact hp w σ ok rfl (.refl w) sl
theorem qRet {e : Expr} {f : VE} {pos : Pos} (h : PE X e (gE X W f)) : PS X (.Return (some e) pos) (gS X W (vRet f)) := PSw (ps_ret h) fun D σ H ⟨w, s, hH, ok, sl, hp⟩ => by
  subst hH
  exact gE.seq ok sl (wS w D) hp fun d w1 v ok1 x1 sl1 r1 hp1 => hp1 w1 v ok1 rfl x1 r1
theorem qRetN {pos : Pos} : PS X (.Return none pos) (gS X W vRetN) := PSw ps_retN fun D σ H ⟨w, s, hH, ok, sl, hp⟩ => by
  subst hH
  exact hp w .non ok rfl (.refl w) .non
theorem qDrop {e : Expr} {f : VE} {pos : Pos} (h : PE X e (gE X W f)) (hs : swapsWith e none pos.line X.env = pure false := by rfl) : PS X (.Expr e pos) (gS X W (vDrop f)) := PSw (ps_expr h hs) fun D σ H ⟨w, s, hH, ok, sl, hp⟩ => by
  subst hH
  exact gE.seq ok sl (wS w D) hp fun d w1 v ok1 x1 sl1 r1 hp1 => hp1 w1 σ ok1 rfl x1 sl1
theorem qIfS {c : Expr} {a b : List Stmt} {t : VT} {f g : VSt} {pos : Pos} (hc : PT X c (gT X W t)) (ha : PSs X a (gS X W f)) (hb : PSs X b (gS X W g)) : PS X (.If c a b pos) (gS X W (vIfS t f g)) := PSw (ps_if hc ha hb) fun D σ H ⟨w, s, hH, ok, sl, hp⟩ => by
  subst hH
  refine gT.seq ok sl (wS w D) hp fun d w1 ok1 x1 sl1 hp1 => ?_
  cases d with
  | true =>
    simp only [if_true] at hp1 ⊢
    exact ⟨w1, s, rfl, ok1, sl1, hp1.mono x1⟩
  | false =>
    simp only [Bool.false_eq_true, if_false] at hp1 ⊢
    exact ⟨w1, s, rfl, ok1, sl1, hp1.mono x1⟩

/-! ### targets -/
theorem qgN {i : Nat} {x : Str} {pos : Pos} (hN : X.N.Nodup) (hi : X.N[i]? = some x := by rfl) (hx : Loc X.env.scope x := by first | exact Or.inl rfl | exact Or.inr rfl) (hf : X.fn x = true ∨ X.env.scope.names.lookup x = some .local := by first | exact .inl rfl | exact .inr rfl | assumption) :
    PG X (.Name x pos) (gG X W (gName i)) := PGw (pg_name hN hi hx hf) fun v σ H Q ⟨w, s, d, hH, ok, sl, r, hp⟩ => by
  subst hH
  exact hp w _ ok rfl (.refl w) (sl.set i r)
def gGs (X : Cx) (W : WX) (f : VGs) : TGs := fun vs σ H Q => ∃ w s ds, w.H = H ∧ w.Ok X.K ∧ Slots X.K w s σ ∧ Rps X.K w ds vs ∧ PstG X W w (f ds s w.h) Q
theorem PGsw {e : List Expr} {t t' : TGs} (h : PGs X e t) (i : ∀ v σ H Q, t' v σ H Q → t v σ H Q) : PGs X e t' := ⟨fun pins s σ H v u Q I r q => h.run pins s σ H v u Q I r (i v σ H Q q)⟩
theorem qgs0 : PGs X [] (gGs X W gsNil) := PGsw pgs_nil fun v σ H Q ⟨w, s, ds, hH, ok, sl, r, hp⟩ => by
  subst hH
  cases r with
  | nil => exact ⟨rfl, hp w σ ok rfl (.refl w) sl⟩
  | cons _ _ => exact hp.elim
theorem qgs {e : Expr} {es : List Expr} {g : VG} {k : VGs} (h1 : PG X e (gG X W g)) (h2 : PGs X es (gGs X W k)) (hs : (assignEach (e :: es) X.env).map (·.2) = assign e X.env :: (assignEach es X.env).map (·.2) := by rfl) : PGs X (e :: es) (gGs X W (gsCons g k)) :=
  PGsw (pgs_cons h1 h2 hs) fun v σ H Q ⟨w, s, ds, hH, ok, sl, r, hp⟩ => by
    subst hH
    cases r with
    | nil => exact hp.elim
    | @cons d ds v vs r rr =>
      refine ⟨_, _, rfl, w, s, _, rfl, ok, sl, r, ?_⟩
      unfold gsCons at hp
      cases e' : g d s w.h with
      | bad => simp only [e'] at hp; exact hp
      | ex _ _ _ => simp only [e'] at hp; exact hp
      | ok p =>
        simp only [e'] at hp
        intro w' σ' ok' eh x' sl'
        refine ⟨w', p.1, ds, rfl, ok', sl', x'.rps rr, ?_⟩
        rw [eh]
        exact PstG.mono x' hp
theorem qgT {es : List Expr} {k : VGs} {n m : Nat} {pos : Pos} (hc : X.calm = true) (h : PGs X es (gGs X W k)) (hn : (assignEach es X.env).length = n := by rfl) (hst : (assignEach es X.env).findIdx? (·.1) = none := by rfl) : PG X (.Tuple es m pos) (gG X W (gTupl n k)) :=
  PGw (pg_tup hc h hn hst) fun v σ H Q ⟨w, s, d, hH, ok, sl, r, hp⟩ => by
    subst hH
    cases r with
    | @tup a vs ds hq rr =>
      refine ⟨_, _, rfl, hq, ?_⟩
      unfold gTupl at hp
      simp only at hp
      by_cases hl : ds.length = n
      · rw [if_pos hl] at hp
        exact ⟨by rw [← rr.length]; exact hl, w, s, ds, rfl, ok, sl, rr, hp⟩
      · rw [if_neg hl] at hp
        exact hp.elim
    | _ => exact hp.elim
theorem qgS {o i : Expr} {fo fi : VE} {t : TSet} {f : D → D → D → VH → Option VH} {pos : Pos} (hs : PSet X t) (hf : SetD X.K t f) (ho : PE X o (gE X W fo)) (hi : PE X i (gE X W fi))
    (ha : ∀ v, assign (.Subscript o i pos) X.env v = (do
      let ov ← holding [v] (eval o X.env)
      let iv ← holding [v, ov] (eval i X.env)
      standAt pos
      holding [v, ov, iv] (setItem ov iv v)
      release [v, ov, iv] []) := by intro _; rfl) : PG X (.Subscript o i pos) (gG X W (gSubs f fo fi)) :=
  PGw (pg_sub ho hi hs ha) fun v σ H Q ⟨w, s, d, hH, ok, sl, r, hp⟩ => by
    subst hH
    refine gE.seq ok sl (wG w Q) hp fun d1 w1 v1 ok1 x1 sl1 r1 hp1 => ?_
    refine gE.seq ok1 sl1 ((wG w Q).mono x1) hp1 fun d2 w2 v2 ok2 x2 sl2 r2 hp2 => ?_
    refine hf w2 d1 d2 d v1 v2 v _ ok2 (x2.rp r1) r2 ((x1.trans x2).rp r) ?_
    revert hp2
    simp only
    cases f d1 d2 d w2.h with
    | none => exact fun z => z
    | some h' => exact fun z w' ok' e x' => z w' σ ok' e ((x1.trans x2).trans x') (sl2.ext x')
theorem qAsg {tg e : Expr} {f : VE} {g : VG} {pos : Pos} (he : PE X e (gE X W f)) (hg : PG X tg (gG X W g)) (hs : swapsWithSole [tg] e pos.line X.env = pure false := by rfl) (hw : swappedStores [tg] e X.env = pure none := by rfl)
    (h1 : (assignEach [tg] X.env).map (·.2) = [assign tg X.env] := by rfl) : PS X (.Assign [tg] e pos) (gS X W (vAsg f g)) :=
  PSw (ps_asg he hg hs hw h1) fun D σ H ⟨w, s, hH, ok, sl, hp⟩ => by
    subst hH
    refine gE.seq ok sl (wS w D) hp fun d w1 v ok1 x1 sl1 r1 hp1 => ?_
    refine ⟨w1, s, d, rfl, ok1, sl1, r1, ?_⟩
    revert hp1
    simp only
    cases g d s w1.h with
    | bad => exact fun z => z
    | ex _ _ _ => exact fun z => PstX.mono x1 z
    | ok p => exact fun z w' σ' ok' e x' sl' => z w' σ' ok' e (x1.trans x') sl'
theorem qSet {i : Nat} {x : Str} {e : Expr} {f : VE} {pos pos' : Pos} (hN : X.N.Nodup) (he : PE X e (gE X W f)) (hi : X.N[i]? = some x := by rfl) (hx : Loc X.env.scope x := by first | exact Or.inl rfl | exact Or.inr rfl) (hs : swapsWith e (some (.Name x pos')) pos.line X.env = pure false := by rfl)
    (hf : X.fn x = true ∨ X.env.scope.names.lookup x = some .local := by first | exact .inl rfl | exact .inr rfl | assumption) : PS X (.Assign [.Name x pos'] e pos) (gS X W (vAsg f (gName i))) :=
  PSw (ps_set hN hi hx he hs hf) fun D σ H ⟨w, s, hH, ok, sl, hp⟩ => by
    subst hH
    exact gE.seq ok sl (wS w D) hp fun d w1 v ok1 x1 sl1 r1 hp1 => hp1 w1 _ ok1 rfl x1 (sl1.set i r1)
/-- a, b = x, y with two plain names -/
def vPar (i j : Nat) (a : VA) : VSt := fun s h => (a s h).bind fun p => match p.1 with
  | [x, y] => .ok (.nx, (s.set i (some x)).set j (some y), p.2)
  | _ => .bad
theorem qPar {i j : Nat} {x y : Str} {a b : Expr} {f : VA} {px py pt : Pos} {kt k2 pt2} {pos : Pos} (hc : X.calm = true) (hN : X.N.Nodup) (hi : X.N[i]? = some x) (hj : X.N[j]? = some y) (hij : i ≠ j) (ha : PA X [a, b] (gA X W f))
    (h : ∀ t, PA X [a, b] t → PS X (.Assign [.Tuple [.Name x px, .Name y py] kt pt] (.Tuple [a, b] k2 pt2) pos) (tPar i j t)) : PS X (.Assign [.Tuple [.Name x px, .Name y py] kt pt] (.Tuple [a, b] k2 pt2) pos) (gS X W (vPar i j f)) :=
  PSw (h _ ha) fun D σ H ⟨w, s, hH, ok, sl, hp⟩ => by
    subst hH
    refine gA.seq ok sl (wS w D) hp fun d w1 v ok1 x1 sl1 r1 hp1 => ?_
    cases r1 with
    | nil => exact hp1.elim
    | cons r1 rr =>
      cases rr with
      | nil => exact hp1.elim
      | cons r2 rr =>
        cases rr with
        | cons _ _ => exact hp1.elim
        | nil => exact ⟨_, _, rfl, hp1 w1 _ ok1 rfl x1 ((sl1.set i r1).set j r2)⟩

/-! ### what is walked -/
/-- how the turns of J follow the items of src -/
def Walks (K : PySem.W.Frag) (w0 : Wd) (J : It) (src : VH → Option (List D)) : Prop :=
  ∀ (w : Wd) (i : Nat) (ys : List D), Wd.Ext K w0 w → w.Ok K → src w.h = some ys →
    (ys[i]? = none → J.stop i w.H) ∧ ∀ d, ys[i]? = some d → J.go i w.H ∧ ∀ x H', J.yld i w.H x H' → ∃ w', w'.H = H' ∧ w'.h = w.h ∧ w'.Ok K ∧ Wd.Ext K w w' ∧ Rp K w' d x
abbrev VI := VS → VH → Res ((VH → Option (List D)) × VH)
def PstI (X : Cx) (W : WX) (w : Wd) (r : Res ((VH → Option (List D)) × VH)) (R : It → Hp → Prop) : Prop :=
  match r with
  | .ok p => ∀ w' J, w'.Ok X.K → w'.h = p.2 → Wd.Ext X.K w w' → Walks X.K w' J p.1 → R J w'.H
  | .ex x s h => PstX X W w x s h
  | .bad => False
def gI (X : Cx) (W : WX) (f : VI) : TI := fun σ H R => ∃ w s, w.H = H ∧ w.Ok X.K ∧ Slots X.K w s σ ∧ PstI X W w (f s w.h) R
theorem wI (w : Wd) (R : It → Hp → Prop) : Wants X W w (fun r => PstI X W w r R) := ⟨id, fun _ _ _ h => h⟩
theorem PIw {tg e : Expr} {t t' : TI} (h : PI X tg e t) (i : ∀ σ H Q, t' σ H Q → t σ H Q) : PI X tg e t' := ⟨fun pins s σ H Q I q => h.run pins s σ H Q I (i σ H Q q)⟩

/-! ### for -/
def loopF (src : VH → Option (List D)) (g : VG) (body : VSt) : Nat → Nat → VS → VH → Res (Out × VS × VH)
  | 0, i, s, h => match src h with
    | some ys => if ys.length ≤ i then .ok (.nx, s, h) else .bad
    | none => .bad
  | n + 1, i, s, h => match src h with
    | none => .bad
    | some ys => match ys[i]? with
      | none => .ok (.nx, s, h)
      | some d => (g d s h).bind fun q => (body q.1 q.2).bind fun r => match r with
        | (.nx, s', h') => loopF src g body n (i + 1) s' h'
        | (.ct, s', h') => loopF src g body n (i + 1) s' h'
        | (.bk, s', h') => .ok (.nx, s', h')
        | (.rt d, s', h') => .ok (.rt d, s', h')
def vFor (it : VI) (g : VG) (body : VSt) : VSt := fun s h => (it s h).bind fun p => match p.1 p.2 with
  | some ys => loopF p.1 g body ys.length 0 s p.2
  | none => .bad
theorem qFor {tg iter : Expr} {body : List Stmt} {it : VI} {g : VG} {b : VSt} {pos : Pos} (hp : PassesOwn (model X.prog X.w) X.A X.env X.xe) (hc : X.calm = true) (hi : PI X tg iter (gI X W it)) (hg : PG X tg (gG X W g)) (hb : PSs X body (gS X W b))
    (hs : ∀ x, foldedSetIterable iter X.env x = pure x := by intro _; rfl) : PS X (.For tg iter body [] pos) (gS X W (vFor it g b)) :=
  PSw (ps_for hp hc hi hg hb hs) fun E σ H ⟨w, s, hH, ok, sl, hq⟩ => by
    subst hH
    refine ⟨w, s, rfl, ok, sl, ?_⟩
    unfold vFor at hq
    cases e : it s w.h with
    | bad => rw [e] at hq; exact hq
    | ex _ _ _ => rw [e] at hq; exact hq
    | ok p =>
      rw [e] at hq
      obtain ⟨src, h0⟩ := p
      intro w0 J ok0 eh x0 wk
      simp only [Res.ok_bind] at hq
      cases e0 : src h0 with
      | none => rw [e0] at hq; exact hq.elim
      | some ys =>
        rw [e0] at hq
        simp only at hq
        have eh : w0.h = h0 := eh
        subst eh
        refine ⟨fun i m σ H => ∃ w s, w.H = H ∧ w.Ok X.K ∧ Wd.Ext X.K w0 w ∧ Slots X.K w s σ ∧ PstS X W w (loopF src g b m i s w.h) E, ⟨ys.length, w0, s, rfl, ok0, .refl w0, sl.ext x0, hq.mono x0⟩, ?_⟩
        rintro i m σ H ⟨w, s, rfl, ok, x, sl, hq⟩
        cases es : src w.h with
        | none => cases m <;> (unfold loopF at hq; rw [es] at hq; exact hq.elim)
        | some zs =>
          obtain ⟨k1, k2⟩ := wk w i zs x ok es
          cases ei : zs[i]? with
          | none =>
            refine .inl ⟨k1 ei, ?_⟩
            cases m with
            | zero =>
              unfold loopF at hq
              rw [es] at hq
              simp only at hq
              rw [if_pos (List.getElem?_eq_none_iff.mp ei)] at hq
              exact hq w σ ok rfl (.refl w) sl
            | succ m =>
              unfold loopF at hq
              simp only [es, ei] at hq
              exact hq w σ ok rfl (.refl w) sl
          | some d =>
            obtain ⟨go, yl⟩ := k2 d ei
            cases m with
            | zero =>
              unfold loopF at hq
              rw [es] at hq
              simp only at hq
              rw [if_neg (by have := (List.getElem?_eq_some_iff.mp ei).1; omega)] at hq
              exact hq.elim
            | succ m =>
              unfold loopF at hq
              simp only [es, ei] at hq
              refine .inr ⟨go, fun σ' H' => ∃ w s, w.H = H' ∧ w.Ok X.K ∧ Wd.Ext X.K w0 w ∧ Slots X.K w s σ' ∧ PstS X W w (loopF src g b m (i + 1) s w.h) E, fun σ' H' z => ⟨m, Nat.lt_succ_self m, z⟩, fun v H' y => ?_⟩
              obtain ⟨w', rfl, eh', ok', x', r'⟩ := yl v H' y
              refine ⟨w', s, d, rfl, ok', sl.ext x', r', ?_⟩
              rw [eh']
              cases eg : g d s w.h with
              | bad => rw [eg] at hq; exact hq.elim
              | ex _ _ _ => rw [eg] at hq; exact PstX.mono x' hq
              | ok q =>
                rw [eg] at hq
                obtain ⟨s2, h2⟩ := q
                intro w2 σ2 ok2 eh2 x2 sl2
                refine ⟨w2, s2, rfl, ok2, sl2, ?_⟩
                rw [show w2.h = h2 from eh2]
                simp only [Res.ok_bind] at hq
                have X2 : Wd.Ext X.K w w2 := x'.trans x2
                cases eb : b s2 h2 with
                | bad => rw [eb] at hq; exact hq.elim
                | ex _ _ _ => rw [eb] at hq; exact PstX.mono X2 hq
                | ok r =>
                  rw [eb] at hq
                  obtain ⟨o, s3, h3⟩ := r
                  cases o with
                  | nx => exact fun w3 σ3 ok3 e3 x3 sl3 => ⟨w3, s3, rfl, ok3, (x.trans X2).trans x3, sl3, by rw [e3]; exact PstS.mono (X2.trans x3) hq⟩
                  | ct => exact fun w3 σ3 ok3 e3 x3 sl3 => ⟨w3, s3, rfl, ok3, (x.trans X2).trans x3, sl3, by rw [e3]; exact PstS.mono (X2.trans x3) hq⟩
                  | bk => exact fun w3 σ3 ok3 e3 x3 sl3 => hq w3 σ3 ok3 e3 (X2.trans x3) sl3
                  | rt d => exact fun w3 v3 ok3 e3 x3 r3 => hq w3 v3 ok3 e3 (X2.trans x3) r3

/-! ### while -/
def whileF (c : VT) (body : VSt) : Nat → VS → VH → Res (Out × VS × VH)
  | 0, _, _ => .bad
  | n + 1, s, h => (c s h).bind fun p => if p.1 = true then (body s p.2).bind fun r => match r with
      | (.nx, s', h') => whileF c body n s' h'
      | (.ct, s', h') => whileF c body n s' h'
      | (.bk, s', h') => .ok (.nx, s', h')
      | (.rt d, s', h') => .ok (.rt d, s', h')
    else .ok (.nx, s, p.2)
/-- so many turns are let -/
def vWhile (n : Nat) (c : VT) (body : VSt) : VSt := fun s h => whileF c body n s h
theorem qWhile {c : Expr} {body : List Stmt} {t : VT} {b : VSt} {pos : Pos} (n : Nat) (hp : PassesOwn (model X.prog X.w) X.A X.env X.xe) (hc : PT X c (gT X W t)) (hb : PSs X body (gS X W b)) : PS X (.While c body [] pos) (gS X W (vWhile n t b)) :=
  PSw (ps_while hp hc hb) fun E σ H ⟨w, s, hH, ok, sl, hq⟩ => by
    refine ⟨fun m σ H => ∃ w s, w.H = H ∧ w.Ok X.K ∧ Slots X.K w s σ ∧ PstS X W w (whileF t b m s w.h) E, ⟨n, w, s, hH, ok, sl, hq⟩, ?_⟩
    rintro m σ H ⟨w, s, rfl, ok, sl, hq⟩
    cases m with
    | zero => exact hq.elim
    | succ m =>
      unfold whileF at hq
      refine gT.seq ok sl (wS w E) hq fun d w1 ok1 x1 sl1 hq1 => ?_
      cases d with
      | false =>
        simp only [Bool.false_eq_true, if_false] at hq1 ⊢
        exact hq1 w1 σ ok1 rfl x1 sl1
      | true =>
        simp only [if_true] at hq1 ⊢
        refine ⟨fun σ' H' => ∃ w s, w.H = H' ∧ w.Ok X.K ∧ Slots X.K w s σ' ∧ PstS X W w (whileF t b m s w.h) E, fun σ' H' z => ⟨m, Nat.lt_succ_self m, z⟩, w1, s, rfl, ok1, sl1, ?_⟩
        cases eb : b s w1.h with
        | bad => rw [eb] at hq1; exact hq1.elim
        | ex _ _ _ => rw [eb] at hq1; exact PstX.mono x1 hq1
        | ok r =>
          rw [eb] at hq1
          obtain ⟨o, s3, h3⟩ := r
          cases o with
          | nx => exact fun w3 σ3 ok3 e3 x3 sl3 => ⟨w3, s3, rfl, ok3, sl3, by rw [e3]; exact PstS.mono (x1.trans x3) hq1⟩
          | ct => exact fun w3 σ3 ok3 e3 x3 sl3 => ⟨w3, s3, rfl, ok3, sl3, by rw [e3]; exact PstS.mono (x1.trans x3) hq1⟩
          | bk => exact fun w3 σ3 ok3 e3 x3 sl3 => hq1 w3 σ3 ok3 e3 (x1.trans x3) sl3
          | rt d => exact fun w3 v3 ok3 e3 x3 r3 => hq1 w3 v3 ok3 e3 (x1.trans x3) r3

/-! ### comprehensions -/
def vwipe (s : VS) : List Nat → VS
  | [] => s
  | v :: vs => (vwipe s vs).set v none
theorem Slots.wipe {K : PySem.W.Frag} {w : Wd} {s : VS} {σ : L2.St} (h : Slots K w s σ) : ∀ vs : List Nat, Slots K w (vwipe s vs) (wipe σ vs)
  | [] => h
  | v :: vs => by
    have q := Slots.wipe h vs
    refine ⟨by show (List.set _ _ _).length = (List.set _ _ _).length; rw [List.length_set, List.length_set]; exact q.1, fun j e z => ?_⟩
    have z : ((vwipe s vs).set v none)[j]? = some (some e) := z
    by_cases hj : v = j
    · subst hj
      by_cases hl : v < (vwipe s vs).length
      · rw [List.getElem?_set_self hl] at z
        cases z
      · rw [List.getElem?_eq_none (by rw [List.length_set]; omega)] at z
        cases z
    · rw [List.getElem?_set_ne hj] at z
      obtain ⟨u, a, b⟩ := q.2 j e z
      exact ⟨u, by show ((L2.wipe σ vs).set v none)[j]? = _; rw [List.getElem?_set_ne hj]; exact a, b⟩
/-- a comprehension's target: names of its own -/
abbrev VP := D → VS → Option VS
abbrev VPs := List D → VS → Option VS
def pN (i : Nat) : VP := fun d s => some (s.set i (some d))
def psNil : VPs := fun l s => match l with
  | [] => some s
  | _ => none
def psCons (g : VP) (k : VPs) : VPs := fun l s => match l with
  | d :: r => (g d s).bind fun s' => k r s'
  | [] => none
def pTup (n : Nat) (k : VPs) : VP := fun d s => match d with
  | .tup l => if l.length = n then k l s else none
  | _ => none
def TgD (K : PySem.W.Frag) (vs : List Nat) (g : TG) (f : VP) : Prop :=
  ∀ (w : Wd) (s s' : VS) (σ : L2.St) (d : D) (v : V) (Q : L2.St → Hp → Prop), w.Ok K → Slots K w s σ → Rp K w d v → f d s = some s' →
    (∀ σ2, Slots K w s' σ2 → wipe σ2 vs = wipe σ vs → Q σ2 w.H) → g v σ w.H Q
def TgsD (K : PySem.W.Frag) (vs : List Nat) (g : TGs) (f : VPs) : Prop :=
  ∀ (w : Wd) (s s' : VS) (σ : L2.St) (d : List D) (v : List V) (Q : L2.St → Hp → Prop), w.Ok K → Slots K w s σ → Rps K w d v → f d s = some s' →
    (∀ σ2, Slots K w s' σ2 → wipe σ2 vs = wipe σ vs → Q σ2 w.H) → g v σ w.H Q
theorem wipe_set {vs : List Nat} {i : Nat} (h : i ∈ vs) (σ : L2.St) (x : Option V) : wipe (σ.set i x) vs = wipe σ vs := by
  have comm : ∀ (vs : List Nat) (σ : L2.St) (i : Nat) (x : Option V), i ∉ vs → wipe (σ.set i x) vs = (wipe σ vs).set i x := by
    intro vs
    induction vs with
    | nil => intros; rfl
    | cons v vs ih =>
      intro σ i x hi
      have h1 : i ≠ v := fun z => hi (by rw [z]; exact List.mem_cons_self)
      have h2 : i ∉ vs := fun z => hi (List.mem_cons_of_mem _ z)
      show (wipe (σ.set i x) vs).set v none = ((wipe σ vs).set v none).set i x
      rw [ih σ i x h2, List.set_comm _ _ h1]
  induction vs with
  | nil => cases h
  | cons v vs ih =>
    show (wipe (σ.set i x) vs).set v none = (wipe σ vs).set v none
    by_cases hi : i ∈ vs
    · rw [ih hi]
    · have e : i = v := by
        rcases List.mem_cons.mp h with q | q
        · exact q
        · exact absurd q hi
      subst e
      rw [comm vs σ i x hi, List.set_set]
theorem wipe_wipe (vs : List Nat) (σ : L2.St) : wipe (wipe σ vs) vs = wipe σ vs := by
  have gen : ∀ us : List Nat, (∀ u ∈ us, u ∈ vs) → wipe (wipe σ us) vs = wipe σ vs := by
    intro us
    induction us with
    | nil => intro _; rfl
    | cons u us ih =>
      intro h
      show wipe ((wipe σ us).set u none) vs = _
      rw [wipe_set (h u List.mem_cons_self)]
      exact ih fun v hv => h v (List.mem_cons_of_mem _ hv)
  exact gen vs fun _ h => h
theorem tgd_name {K : PySem.W.Frag} {vs : List Nat} {i : Nat} (hi : i ∈ vs) : TgD K vs (L2.gName i) (pN i) := fun w s s' σ d v Q ok sl r e h => by
  cases e
  exact h _ (sl.set i r) (wipe_set hi σ _)
theorem tgsd_nil {K : PySem.W.Frag} {vs : List Nat} : TgsD K vs gNil psNil := fun w s s' σ d v Q ok sl r e h => by
  cases r with
  | nil => cases e; exact ⟨rfl, h σ sl rfl⟩
  | cons _ _ => cases e
theorem tgsd_cons {K : PySem.W.Frag} {vs : List Nat} {g : TG} {f : VP} {k : TGs} {m : VPs} (a : TgD K vs g f) (b : TgsD K vs k m) : TgsD K vs (gCons g k) (psCons f m) := fun w s s' σ d v Q ok sl r e h => by
  cases r with
  | nil => cases e
  | @cons d ds v vs' r rr =>
    unfold psCons at e
    simp only at e
    cases e1 : f d s with
    | none => rw [e1] at e; cases e
    | some s1 =>
      rw [e1] at e
      exact ⟨_, _, rfl, a w s s1 σ d v _ ok sl r e1 fun σ2 sl2 w2 => b w s1 s' σ2 ds vs' _ ok sl2 rr e fun σ3 sl3 w3 => h σ3 sl3 (w3.trans w2)⟩
theorem tgd_tup {K : PySem.W.Frag} {vs : List Nat} {n : Nat} {k : TGs} {m : VPs} (a : TgsD K vs k m) : TgD K vs (L2.gTup K n k) (pTup n m) := fun w s s' σ d v Q ok sl r e h => by
  cases r with
  | @tup a' us ds hq rr =>
    unfold pTup at e
    simp only at e
    by_cases hl : ds.length = n
    · rw [if_pos hl] at e
      exact ⟨_, _, rfl, hq, by rw [← rr.length]; exact hl, a w s s' σ ds us Q ok sl rr e h⟩
    · rw [if_neg hl] at e
      cases e
  | _ => cases e
/-- the same as the target of a for -/
def gP (p : VP) : VG := fun d s h => match p d s with
  | some s' => .ok (s', h)
  | none => .bad
theorem qgP {vs : List Nat} {tg : Expr} {g : TG} {p : VP} (h : PG X tg g) (hp : TgD X.K vs g p) : PG X tg (gG X W (gP p)) :=
  PGw h fun v σ H Q ⟨w, s, d, hH, ok, sl, r, q⟩ => by
    subst hH
    unfold gP at q
    cases e : p d s with
    | none => rw [e] at q; exact q.elim
    | some s' =>
      rw [e] at q
      exact hp w s s' σ d v Q ok sl r e fun σ2 sl2 _ => q w σ2 ok rfl (.refl w) sl2

/-- what cannot be said within a comprehension: an error that leaves it -/
def noex {α : Type} : Res α → Res α
  | .ok a => .ok a
  | _ => .bad
@[simp] theorem noex_ok {α : Type} (a : α) : noex (.ok a) = .ok a := rfl
@[simp] theorem noex_bad {α : Type} : noex (.bad : Res α) = .bad := rfl
@[simp] theorem noex_ex {α : Type} (x : Exn) (s : VS) (h : VH) : noex (.ex x s h : Res α) = .bad := rfl
abbrev W0 : WX := fun _ _ _ _ => False
def putAt (n : Nat) (d : D) (h : VH) : Res VH := match h[n]? with
  | some (.lst acc) => if acc.length < sizeLine then .ok (h.set n (.lst (acc ++ [d]))) else .bad
  | _ => .bad
def lcF (src : VH → Option (List D)) (vs : List Nat) (g : VP) (t : VT) (e : VE) (n : Nat) (s : VS) : Nat → Nat → VH → Res VH
  | 0, i, h => match src h with
    | some ys => if ys.length ≤ i then .ok h else .bad
    | none => .bad
  | k + 1, i, h => match src h with
    | none => .bad
    | some ys => match ys[i]? with
      | none => .ok h
      | some d => match g d (vwipe s vs) with
        | none => .bad
        | some s' => (noex (t s' h)).bind fun c => if c.1 = true then (noex (e s' c.2)).bind fun y => (putAt n y.1 y.2).bind fun h' => lcF src vs g t e n s k (i + 1) h'
          else lcF src vs g t e n s k (i + 1) c.2
def vLc (it : VI) (vs : List Nat) (g : VP) (t : VT) (e : VE) : VE := fun s h => (it s h).bind fun p => match p.1 (p.2 ++ [.lst []]) with
  | some ys => (lcF p.1 vs g t e p.2.length s ys.length 0 (p.2 ++ [.lst []])).bind fun h' => .ok (.ref p.2.length, h')
  | none => .bad
def vYes : VT := fun _ h => .ok (true, h)
theorem qYes (X : Cx) (W : WX) : PTs X [] (gT X W vYes) := ⟨fun pins s σ H Q I h => pts_nil.run pins s σ H Q I (by
  obtain ⟨w, s', hH, ok, sl, hp⟩ := h
  subst hH
  exact hp w ok rfl (.refl w))⟩
theorem lc_red {wi : VI} {g : TG} {p : VP} {t : VT} {e : VE} {vs : List Nat} (hg : TgD X.K vs g p) {σ : L2.St} {H : Hp} {Q : VK} (h : gE X W (vLc wi vs p t e) σ H Q) : tLc (gI X W wi) g (gT X W0 t) (gE X W0 e) vs σ H Q := by
  obtain ⟨w, s, hH, ok, sl, hq⟩ := h
  subst hH
  refine ⟨w, s, rfl, ok, sl, ?_⟩
  unfold vLc at hq
  cases ew : wi s w.h with
  | bad => rw [ew] at hq; exact hq
  | ex _ _ _ => rw [ew] at hq; exact hq
  | ok pr =>
    rw [ew] at hq
    obtain ⟨src, h0⟩ := pr
    intro w0 J ok0 eh x0 wk D hD
    have eh : w0.h = h0 := eh
    subst eh
    simp only [Res.ok_bind] at hq
    cases e0 : src (w0.h ++ [.lst []]) with
    | none => rw [e0] at hq; exact hq.elim
    | some ys =>
      rw [e0] at hq
      simp only at hq
      have x1 : Wd.Ext X.K w0 (w0.newL D [] []) := Wd.ext_newL hD
      have ok1 : (w0.newL D [] []).Ok X.K := ok0.newL hD .nil
      have ιD : (w0.newL D [] []).ι w0.h.length = D := if_pos rfl
      refine ⟨fun i m H => ∃ w, w.H = H ∧ w.Ok X.K ∧ Wd.Ext X.K (w0.newL D [] []) w ∧ PstE X W w ((lcF src vs p t e w0.h.length s m i w.h).bind fun h' => .ok (.ref w0.h.length, h')) Q,
        ⟨ys.length, w0.newL D [] [], rfl, ok1, .refl _, hq.mono (x0.trans x1)⟩, ?_⟩
      rintro i m H ⟨w, rfl, ok, x, hq⟩
      have lenD : w0.h.length < w.h.length := by
        have := x.len
        simp [Wd.newL] at this
        omega
      have ιw : w.ι w0.h.length = D := (x.ι _ (by simp [Wd.newL])).trans ιD
      have refD : ∀ w' : Wd, Wd.Ext X.K w w' → Rp X.K w' (.ref w0.h.length) (.ref D) := fun w' x' => by
        have q : Rp X.K w' (.ref w0.h.length) (.ref (w'.ι w0.h.length)) := .ref (Nat.lt_of_lt_of_le lenD x'.len)
        rw [x'.ι _ lenD, ιw] at q
        exact q
      cases es : src w.h with
      | none => cases m <;> (unfold lcF at hq; rw [es] at hq; exact hq.elim)
      | some zs =>
        obtain ⟨k1, k2⟩ := wk w i zs (x1.trans x) ok es
        cases ei : zs[i]? with
        | none =>
          refine .inl ⟨k1 ei, ?_⟩
          cases m with
          | zero =>
            unfold lcF at hq
            rw [es] at hq
            simp only at hq
            rw [if_pos (List.getElem?_eq_none_iff.mp ei)] at hq
            exact hq w _ ok rfl (.refl w) (refD w (.refl w))
          | succ m =>
            unfold lcF at hq
            simp only [es, ei] at hq
            exact hq w _ ok rfl (.refl w) (refD w (.refl w))
        | some d =>
          obtain ⟨go, yl⟩ := k2 d ei
          cases m with
          | zero =>
            unfold lcF at hq
            rw [es] at hq
            simp only at hq
            rw [if_neg (by have := (List.getElem?_eq_some_iff.mp ei).1; omega)] at hq
            exact hq.elim
          | succ m =>
            unfold lcF at hq
            simp only [es, ei] at hq
            refine .inr ⟨go, fun H' => ∃ w, w.H = H' ∧ w.Ok X.K ∧ Wd.Ext X.K (w0.newL D [] []) w ∧ PstE X W w ((lcF src vs p t e w0.h.length s m (i + 1) w.h).bind fun h' => .ok (.ref w0.h.length, h')) Q, fun H' z => ⟨m, Nat.lt_succ_self m, z⟩, fun v H' y => ?_⟩
            obtain ⟨w', rfl, eh', ok', x', r'⟩ := yl v H' y
            cases eg : p d (vwipe s vs) with
            | none => rw [eg] at hq; exact hq.elim
            | some s2 =>
              rw [eg] at hq
              simp only at hq
              have X0 : Wd.Ext X.K w (w') := x'
              have sl' : Slots X.K w' s σ := sl.ext (((x0.trans x1).trans x).trans x')
              refine hg w' (vwipe s vs) s2 (wipe σ vs) d v _ ok' (sl'.wipe vs) r' eg fun σ2 sl2 hw2 => ⟨hw2.trans (wipe_wipe vs σ), w', s2, rfl, ok', sl2, ?_⟩
              rw [eh']
              cases et : t s2 w.h with
              | bad => rw [et] at hq; exact hq.elim
              | ex _ _ _ => rw [et] at hq; exact hq.elim
              | ok c =>
                obtain ⟨b, hc⟩ := c
                rw [et] at hq
                simp only [noex_ok, Res.ok_bind] at hq
                intro w2 ok2 eh2 x2
                have eh2 : w2.h = hc := eh2
                subst eh2
                have X2 : Wd.Ext X.K w w2 := x'.trans x2
                cases b with
                | false =>
                  simp only [Bool.false_eq_true, if_false] at hq ⊢
                  exact ⟨w2, rfl, ok2, x.trans X2, hq.mono X2⟩
                | true =>
                  simp only [if_true] at hq ⊢
                  refine ⟨w2, s2, rfl, ok2, sl2.ext x2, ?_⟩
                  cases ee : e s2 w2.h with
                  | bad => rw [ee] at hq; exact hq.elim
                  | ex _ _ _ => rw [ee] at hq; exact hq.elim
                  | ok yv =>
                    obtain ⟨y1, y2⟩ := yv
                    rw [ee] at hq
                    simp only [noex_ok, Res.ok_bind] at hq
                    intro w3 v3 ok3 eh3 x3 r3
                    have eh3 : w3.h = y2 := eh3
                    subst eh3
                    have X3 : Wd.Ext X.K w w3 := X2.trans x3
                    unfold putAt at hq
                    cases en : w3.h[w0.h.length]? with
                    | none => rw [en] at hq; exact hq.elim
                    | some c =>
                      rw [en] at hq
                      cases c with
                      | ro _ => exact hq.elim
                      | lst acc =>
                        simp only at hq
                        by_cases hl : acc.length < sizeLine
                        · rw [if_pos hl] at hq
                          obtain ⟨us, hu, ru⟩ := ok3.cell _ _ en
                          have ι3 : w3.ι w0.h.length = D := (X3.ι _ lenD).trans ιw
                          rw [ι3] at hu
                          obtain ⟨ok4, x4⟩ := ok3.putL (ds := acc ++ [y1]) (vs := us ++ [v3]) en (ru.append (.cons r3 .nil))
                          refine ⟨us, hu, by rw [← ru.length]; exact hl, w3.putL w0.h.length (acc ++ [y1]) (us ++ [v3]), ?_, ok4, (x.trans X3).trans x4, ?_⟩
                          · show upd w3.H (w3.ι w0.h.length) _ = _
                            rw [ι3]
                          · exact PstE.mono (X3.trans x4) hq
                        · rw [if_neg hl] at hq
                          exact hq.elim
theorem qLc {elt tg iter : Expr} {ifs : List Expr} {scope : Scope} {own : List (Str × Nat)} {pos : Pos} {it : VI} {g : TG} {p : VP} {t : VT} {e : VE} (hc : X.calm = true) (hN : X.N.Nodup) (hi : PI X tg iter (gI X W it)) (ok : BlkOk X.N X.env.scope scope own)
    (hgd : TgD X.K (own.map (·.2)) g p)
    (hg : ∀ (s : Shared) (H : Hp) (C : Addr) (cl : List (Str × Addr)) (fp : List Addr), PG (X.blk s H scope (compEnvC scope cl C X.env) fp) tg g) (ht : ∀ (s : Shared) (H : Hp) (C : Addr) (cl : List (Str × Addr)) (fp : List Addr), PTs (X.blk s H scope (compEnvC scope cl C X.env) fp) ifs (gT (X.blk s H scope (compEnvC scope cl C X.env) fp) W0 t))
    (he : ∀ (s : Shared) (H : Hp) (C : Addr) (cl : List (Str × Addr)) (fp : List Addr), PE (X.blk s H scope (compEnvC scope cl C X.env) fp) elt (gE (X.blk s H scope (compEnvC scope cl C X.env) fp) W0 e)) (hs : ∀ x, foldedSetIterable iter X.env x = pure x := by intro _; rfl) :
    PE X (.ListComp elt [⟨tg, iter, ifs, 0⟩] scope pos) (gE X W (vLc it (own.map (·.2)) p t e)) :=
  PEw (pe_lc (tt := gT X W0 t) (te := gE X W0 e) hc hN hi ok hg (fun a b c d f => ht a b c d f) (fun a b c d f => he a b c d f) hs) fun _ _ _ h => lc_red hgd h
theorem qSetLc {i : Nat} {y : Str} {py : Pos} {elt tg iter : Expr} {ifs : List Expr} {scope : Scope} {own : List (Str × Nat)} {pos spos : Pos} {it : VI} {g : TG} {p : VP} {t : VT} {e : VE} (hc : X.calm = true) (hN : X.N.Nodup) (hy : X.N[i]? = some y) (hyl : X.env.scope.names.lookup y = some .local)
    (hsw : swapsWith (.ListComp elt [⟨tg, iter, ifs, 0⟩] scope pos) (some (.Name y py)) spos.line X.env = pure true) (hi : PI X tg iter (gI X W it)) (ok : BlkOk X.N X.env.scope scope own)
    (hgd : TgD X.K (own.map (·.2)) g p)
    (hg : ∀ (s : Shared) (H : Hp) (C : Addr) (cl : List (Str × Addr)) (fp : List Addr), PG (X.blk s H scope (compEnvC scope cl C X.env) fp) tg g) (ht : ∀ (s : Shared) (H : Hp) (C : Addr) (cl : List (Str × Addr)) (fp : List Addr), PTs (X.blk s H scope (compEnvC scope cl C X.env) fp) ifs (gT (X.blk s H scope (compEnvC scope cl C X.env) fp) W0 t))
    (he : ∀ (s : Shared) (H : Hp) (C : Addr) (cl : List (Str × Addr)) (fp : List Addr), PE (X.blk s H scope (compEnvC scope cl C X.env) fp) elt (gE (X.blk s H scope (compEnvC scope cl C X.env) fp) W0 e)) (hs : ∀ x, foldedSetIterable iter X.env x = pure x := by intro _; rfl) :
    PS X (.Assign [.Name y py] (.ListComp elt [⟨tg, iter, ifs, 0⟩] scope pos) spos) (gS X W (vAsg (vLc it (own.map (·.2)) p t e) (gName i))) :=
  PSw (ps_setLc (tt := gT X W0 t) (te := gE X W0 e) hc hN hy hyl hsw hi ok hg (fun a b c d f => ht a b c d f) (fun a b c d f => he a b c d f) hs) fun D σ H ⟨w, s, hH, ok, sl, hp⟩ => by
    subst hH
    show tLc _ _ _ _ _ σ w.H fun x H1 => L2.gName i x σ H1 D.nx
    refine lc_red (W := W) hgd ?_
    exact gE.seq ok sl (wS w D) hp fun d w1 v ok1 x1 sl1 r1 hp1 => hp1 w1 _ ok1 rfl x1 (sl1.set i r1)
end
end Vq

/-! Part 4: defs: what they are worth, how they are called, where the law begins. No repr is under way (guards). -/
namespace Vq
open PySem PySem.Spec PyProof.Rows L2

/-- a body as a function of arguments and heap; N: how many names -/
def mF (N : Nat) (f : VSt) : Fn := fun ds h => match f (ds.map some ++ List.replicate (N - ds.length) none) h with
  | .ok (.rt d, _, h') => .ok (d, h')
  | .ok (.nx, _, h') => .ok (.non, h')
  | .ok (.bk, _, _) => .bad
  | .ok (.ct, _, _) => .bad
  | .ex x _ h' => .ex x [] h'
  | .bad => .bad

def PstF (K : PySem.W.Frag) (mg : Str → Option Value) (w : Wd) (r : Res (D × VH)) (Q : VK) (E : XK) : Prop :=
  match r with
  | .ok p => ∀ w' v, w'.Ok K → w'.h = p.2 → Wd.Ext K w w' → Rp K w' p.1 v → Q v w'.H
  | .ex x _ h => ∀ (w' : Wd) (cls : Value) (d : Option Addr), w'.Ok K → w'.h = h → Wd.Ext K w w' → RepX K mg w' x cls d → E cls d w'.H
  | .bad => False

/-- the def at f is worth F, at level k -/
structure FnG (P : Program) (w : World) (K : PySem.W.Frag) (mg : Str → Option Value) (base : Heap) (k : Nat) (f : Addr) (fd : FuncData) (ps : List Str) (F : Fn) : Prop where
  run : ∀ (A : Around) (outer : List Env) (s : Shared) (args : Args) (us : List Value) (vs : List V) (ds : List D) (wd : Wd) (Q : VK) (E : XK),
    A.guards = some [] → Room k A → Env0 P w K mg base A outer s wd.H → ds.length = ps.length → BindsTo s fd args (ps.zip us) → Vals vs us → wd.Ok K → Rps K wd ds vs →
      PstF K mg wd (F ds wd.h) Q E → codeAny (model P w) A (.call (.ref f) args) (CR (L2.CX P w) outer P w wd.H s Q E) s
theorem FnG.mono {P : Program} {w : World} {K : PySem.W.Frag} {mg : Str → Option Value} {base : Heap} {j k : Nat} {f : Addr} {fd : FuncData} {ps : List Str} {F : Fn} (x : FnG P w K mg base j f fd ps F) (h : j ≤ k) : FnG P w K mg base k f fd ps F :=
  ⟨fun A outer s args us vs ds wd Q E hg hr => x.run A outer s args us vs ds wd Q E hg (hr.mono h)⟩

/-- all a step needs of where it stands -/
structure At (X : Cx) (W : WX) (k : Nat) : Prop where
  room : Room k X.A
  gd : X.A.guards = some []
  tk : Takes X W
  ps : PassesOwn (model X.prog X.w) X.A X.env X.xe
theorem At.mono {X : Cx} {W : WX} {j k : Nat} (a : At X W k) (h : j ≤ k) : At X W j := ⟨a.room.mono h, a.gd, a.tk, a.ps⟩

/-- X, the context of a def's body -/
abbrev cxG (P : Program) (w : World) (K : PySem.W.Frag) (mg : Str → Option Value) (base : Heap) (N : List Str) (qual : Str) (sc : Scope) (f : Addr) (cdv : Value) (A : Around) (outer : List Env) (s : Shared) (H : Hp) (E : XK) : Cx :=
  cxOf (L2.CX P w) P w K mg base N qual sc f cdv A outer s H E

theorem slots_start {K : PySem.W.Frag} {wd : Wd} {ds : List D} {vs : List V} (N : List Str) (r : Rps K wd ds vs) : Slots K wd (ds.map some ++ List.replicate (N.length - ds.length) none) (L2.start N vs) := by
  refine ⟨by simp [L2.start, r.length], fun i d e => ?_⟩
  by_cases hi : i < ds.length
  · rw [List.getElem?_append_left (by simpa using hi), List.getElem?_map] at e
    cases ed : ds[i]? with
    | none => rw [ed] at e; cases e
    | some d' =>
      rw [ed] at e
      cases e
      obtain ⟨v, ev, rv⟩ := r.get ed
      refine ⟨v, ?_, rv⟩
      unfold L2.start
      rw [List.getElem?_append_left (by rw [List.length_map, ← r.length]; exact hi), List.getElem?_map, ev]
      rfl
  · rw [List.getElem?_append_right (by simpa using Nat.le_of_not_lt hi), List.getElem?_replicate] at e
    split at e <;> cases e

theorem guards_deeper (A : Around) (env : Env) : (A.deeper env).guards = A.guards := by
  first
    | rfl
    | simp [Around.deeper]

theorem fnG_of {P : Program} {w : World} {K : PySem.W.Frag} {mg : Str → Option Value} {base : Heap} {k : Nat} {f : Addr} {fd : FuncData} {x qual : Str} {st : Stmt} {N ps : List Str} {b : VSt}
    (F : Fun K x qual st f fd) (S : FnScope N ps (defScope st))
    (hb : ∀ (cdv : Value) (A : Around) (outer : List Env) (s : Shared) (H : Hp) (E : XK), At (cxG P w K mg base N qual (defScope st) f cdv A outer s H E) (fun c d _ H => E c d H) k →
      PSs (cxG P w K mg base N qual (defScope st) f cdv A outer s H E) (defBody st) (gS (cxG P w K mg base N qual (defScope st) f cdv A outer s H E) (fun c d _ H => E c d H) b)) :
    FnG P w K mg base (k + 1) f fd ps (mF N.length b) := by
  obtain ⟨oc, od, kV, doc, pm, an, cdv, ct, osl, rfl, lk, hcd⟩ := F.ex
  refine ⟨fun A outer s args us vs ds wd Q E hg hr e0 hl bt rv ok rd hp => ?_⟩
  have hl' : vs.length = ps.length := by
    rw [← RepL.length rd]
    exact hl
  have inK : K.In s.heap := e0.mod.kin.keeps fun b o e => (e0.bs b o e).1
  have lim : s.heap.NoLimit :=
    e0.mod.nolimit.keeps fun b o e => (e0.bs b o e).1
  have kinds : ∀ y ∈ ps.zip us, (defScope st).names.lookup y.1 = some .local ∨
      ((defScope st).names.lookup y.1 = some .cell ∧ ((cellsFrom (s.heap.objs.size + 1) (defScope st).names []).lookup y.1).isSome = true) := by
    rintro ⟨n, v⟩ hy
    exact (S.par n (List.of_mem_zip hy).1).imp id fun q => ⟨q, PySem.W.cellsFrom_some _ _ _ (.inl q)⟩
  refine codeAny_call_function hr.depth (inK _ _ lk) rfl S.co S.gen rfl (PySem.W.codeRec_of inK hcd) (bt _ _ _ _ ?_)
  refine wpAny_newFunctionEnv_cells S.kind kinds fun env he s1 ic => ?_
  subst he
  refine ⟨lim.keeps ic.toInCall.keep, codeAny_func ?_⟩
  have here : At (cxG P w K mg base N qual (defScope st) f cdv A outer s wd.H E) (fun c d _ H => E c d H) k :=
    ⟨hr.deeper _, (guards_deeper A _).trans hg, takes_of rfl rfl rfl rfl, passes_of rfl⟩
  have I := inv_start (CX := L2.CX P w) (E := E) S hr.hd e0 hl' rv ic
  have body := hb cdv A outer s wd.H E here
  have post : gS (cxG P w K mg base N qual (defScope st) f cdv A outer s wd.H E) (fun c d _ H => E c d H) b { nx := fun _ H' => Q .non H', rt := Q } (L2.start N vs) wd.H := by
    refine ⟨wd, ds.map some ++ List.replicate (N.length - ds.length) none, rfl, ok, slots_start N rd, ?_⟩
    unfold mF at hp
    revert hp
    cases b (ds.map some ++ List.replicate (N.length - ds.length) none) wd.h with
    | bad => exact fun z => z
    | ex x s' h' => exact fun z w' cls d σ ok' e' x' sl' rx => z w' cls d ok' e' x' rx
    | ok p =>
      obtain ⟨o, s', h'⟩ := p
      cases o with
      | nx => exact fun z w' σ ok' e' x' sl' => z w' .non ok' e' x' .non
      | rt d => exact fun z w' v ok' e' x' r' => z w' v ok' e' x' r'
      | bk => exact fun z => z.elim
      | ct => exact fun z => z.elim
  refine wpAny_mono (body.run [] s1 (L2.start N vs) wd.H _ I post) (fun fl s' hs => ?_) fun e s' hs => hs
  have done : ∀ {σ' : L2.St} {H' : Hp} {v : V} {u : Value}, Inv (cxG P w K mg base N qual (defScope st) f cdv A outer s wd.H E) [] σ' H' s' → RelV v u → Q v H' → CE outer P w wd.H s Q u s' :=
    fun {σ' H' v u} J r q => ⟨v, H', J.os, J.bare, J.base, J.hok, r, q⟩
  cases fl with
  | next => obtain ⟨σ', H', J, q⟩ := hs; exact done (v := V.non) (u := Value.none) J rfl q
  | ret u => obtain ⟨v, σ', H', J, r, q⟩ := hs; exact done J r q
  | brk => obtain ⟨_, _, _, q⟩ := hs; exact q.elim
  | cont => obtain ⟨_, _, _, q⟩ := hs; exact q.elim
end Vq

/-! Part 5: calls of defs; what a def is worth may be said more plainly; the law's own call. -/
namespace Vq
open PySem PySem.Spec PyProof.Rows L2

/-! ### calls -/
/-- a call within a frame: an error keeps the frame's slots -/
def callR (s : VS) (r : Res (D × VH)) : Res (D × VH) := match r with
  | .ok p => .ok p
  | .ex x _ h => .ex x s h
  | .bad => .bad
@[simp] theorem callR_ok (s : VS) (p : D × VH) : callR s (.ok p) = .ok p := rfl
@[simp] theorem callR_bad (s : VS) : callR s .bad = .bad := rfl
@[simp] theorem callR_ex (s s' : VS) (x : Exn) (h : VH) : callR s (.ex x s' h) = .ex x s h := rfl
def vCall (n : Nat) (F : Fn) (a : VA) : VE := fun s h => (a s h).bind fun p => if p.1.length = n then callR s (F p.1 p.2) else .bad
/-- keywords: place tells where the values stand (positional ones first, then the keywords' in their order) -/
def vCallK (n : Nat) (F : Fn) (pl : List D → List D → List D) (a k : VA) : VE := fun s h => (a s h).bind fun p => (k s p.2).bind fun q => if (pl p.1 q.1).length = n then callR s (F (pl p.1 q.1) q.2) else .bad

section
variable {X : Cx} {W : WX} {P : Program} {k : Nat} {f : Addr} {fd : FuncData} {ps : List Str} {F : Fn}
theorem run_fnG {pins : List (Addr × Obj)} {σ : L2.St} {s : Shared} {Q : VK} {us : List Value} {vs : List V} {ds : List D} {wd : Wd} {sv : VS} {args : Args} (G : FnG X.prog X.w X.K X.mg X.base k f fd ps F) (a : At X W k)
    (hb : BindsTo s fd args (ps.zip us)) (I : Inv X pins σ wd.H s) (rv : Vals vs us) (ok : wd.Ok X.K) (sl : Slots X.K wd sv σ) (rd : Rps X.K wd ds vs) (hl : ds.length = ps.length) (h : PstE X W wd (callR sv (F ds wd.h)) Q) :
    codeAny (model X.prog X.w) X.A (.call (.ref f) args) (fun r s' => match r with | .ok (.ret u) => EP X pins σ Q u s' | .ok _ => False | .error e => X.xe e s') s := by
  refine codeAny_mono (G.run X.A X.stack s args us vs ds wd Q (fun cls d H' => W cls d σ H') a.gd a.room I.env0 hl hb rv ok rd ?_) fun r s' hq => ?_
  · revert h
    cases F ds wd.h with
    | bad => exact fun z => z
    | ok p => exact fun z => z
    | ex x s' h' => exact fun z w' cls d ok' e x' rx => z w' cls d σ ok' e x' (sl.ext x') rx
  · cases r with
    | error e => exact a.tk e s' (XE.of_call (W := W) (E := fun cls d H' => W cls d σ H') I (fun _ _ _ z => z) hq)
    | ok fl =>
      cases fl with
      | ret u => exact I.after hq
      | next => exact hq.elim
      | brk => exact hq.elim
      | cont => exact hq.elim
theorem call_of {pins : List (Addr × Obj)} {σ : L2.St} {s : Shared} {Q : VK} {f : Value} {us : List Value} {kw : List (Str × Value)}
    (h : codeAny (model X.prog X.w) X.A (.call f ⟨us, kw⟩) (fun r s' => match r with | .ok (.ret u) => EP X pins σ Q u s' | .ok _ => False | .error e => X.xe e s') s) : wpAny (model X.prog X.w) X.A (call f us kw) (EP X pins σ Q) X.xe s :=
  wpAny_call (codeAny_mono h fun r s' hq => by
    cases r with
    | error e => exact hq
    | ok fl =>
      cases fl with
      | ret u => exact hq
      | next => exact hq.elim
      | brk => exact hq.elim
      | cont => exact hq.elim)

/-- how a def binds what is given by place -/
def BindP (K : PySem.W.Frag) (fd : FuncData) (ps : List Str) : Prop := ∀ us : List Value, us.length = ps.length → bindArgs fd ⟨us, []⟩ = pure (ps.zip us)
/-- .. by names ks behind so many by place: pl puts them in the parameters' order -/
structure BindK (fd : FuncData) (ps ks : List Str) (n : Nat) (pl : {α : Type} → List α → List α → List α) : Prop where
  to : ∀ us ws : List Value, us.length = n → ws.length = ks.length → bindArgs fd ⟨us, ks.zip ws⟩ = pure (ps.zip (pl us ws))
  reps : ∀ (K : PySem.W.Frag) (w : Wd) (ds es : List D) (vs zs : List V), Rps K w ds vs → Rps K w es zs → Rps K w (pl ds es) (pl vs zs)
  vals : ∀ (vs zs : List V) (us ws : List Value), Vals vs us → Vals zs ws → Vals (pl vs zs) (pl us ws)

variable {x : Str} {p pos : Pos} {e : Expr} {es : List Expr} {g : VA}
theorem qCall (G : FnG X.prog X.w X.K X.mg X.base k f fd ps F) (a : At X W k) (hm : X.mg x = some (.ref f)) (hk : PySem.W.keepIn X.K (.ref f) = true) (hb : BindP X.K fd ps) (ha : PA X (e :: es) (gA X W g)) (hg : Gl X x := by rfl)
    (hdb : (x == ("__debug__" : Str)) = false := by decide) (he : starEach (e :: es) X.env = (false, eval e X.env) :: starEach es X.env := by rfl) (hpl : (backTo pos (starEach es X.env)).any (·.1) = false := by rfl) :
    PE X (.Call (.Name x p) (e :: es) [] pos) (gE X W (vCall ps.length F g)) := by
  refine ⟨fun pins s σ H Q I ⟨wd, sv, hH, ok, sl, hp⟩ => ?_⟩
  subst hH
  refine wpAny_Call_Name_kw (ld_glob I hg hm ?_ hdb)
  refine PySem.W.callWith_K (h₀ := X.base) I.ok.mod.kin hk ?_ he hpl
  have q : gA X W g σ wd.H fun vs H1 => ∃ w1 ds, w1.H = H1 ∧ w1.Ok X.K ∧ Slots X.K w1 sv σ ∧ Rps X.K w1 ds vs ∧ ds.length = ps.length ∧ PstE X W w1 (callR sv (F ds w1.h)) Q := by
    refine gA.seq ok sl (wE wd Q) hp fun ds w1 vs ok1 x1 sl1 r1 hp1 => ?_
    by_cases hl : ds.length = ps.length
    · simp only [if_pos hl] at hp1
      exact ⟨w1, ds, rfl, ok1, sl1, r1, hl, hp1.mono x1⟩
    · simp only [if_neg hl] at hp1
      exact hp1.elim
  refine thn (ha.run pos pins s σ wd.H _ I q) fun us s1 ⟨vs, H1, I1, rv, w1, ds, hH1, ok1, sl1, r1, hl, hp1⟩ => ⟨I1.kIn, ?_⟩
  subst hH1
  refine call_of (kw := []) (run_fnG (vs := vs) (us := us) G a (.of_eq (hb us ?_)) I1 rv ok1 sl1 r1 hl hp1)
  rw [← rv.length, ← RepL.length r1]
  exact hl
theorem qCall0 (G : FnG X.prog X.w X.K X.mg X.base k f fd [] F) (a : At X W k) (hm : X.mg x = some (.ref f)) (hk : PySem.W.keepIn X.K (.ref f) = true) (hb : BindP X.K fd []) (hg : Gl X x := by rfl)
    (hdb : (x == ("__debug__" : Str)) = false := by decide) : PE X (.Call (.Name x p) [] [] pos) (gE X W (vCall 0 F vNil)) := by
  refine ⟨fun pins s σ H Q I ⟨wd, sv, hH, ok, sl, hp⟩ => ?_⟩
  subst hH
  refine wpAny_Call_Name_kw (ld_glob I hg hm ?_ hdb)
  exact PySem.W.callWith_K0 I.kIn hk (call_of (us := []) (kw := []) (run_fnG (vs := []) (us := []) (ds := []) G a (.of_eq (hb [] rfl)) I .nil ok sl .nil rfl hp))

def gK (X : Cx) (W : WX) (f : VA) : TA := gA X W f
theorem qk0 : PK X [] (gA X W vNil) := ⟨fun pos pins s σ H Q I ⟨w, sv, hH, ok, sl, hp⟩ => pk_nil.run pos pins s σ H Q I (by
  subst hH
  exact hp w [] ok rfl (.refl w) .nil)⟩
theorem qk {nm : Option Str} {kpos : Pos} {kws : List Keyword} {fe : VE} {fk : VA} (ha : PE X e (gE X W fe)) (hr : PK X kws (gA X W fk)) : PK X (⟨nm, e, kpos⟩ :: kws) (gA X W (vCons fe fk)) :=
  ⟨fun pos pins s σ H Q I ⟨w, sv, hH, ok, sl, hp⟩ => (pk_cons ha hr).run pos pins s σ H Q I (by
    subst hH
    refine gE.seq ok sl (wA w Q) hp fun d w1 v ok1 x1 sl1 r1 hp1 => ?_
    refine gA.seq ok1 sl1 ((wA w Q).mono x1) hp1 fun d2 w2 v2 ok2 x2 sl2 r2 hp2 => ?_
    exact hp2 w2 (v :: v2) ok2 rfl (x1.trans x2) (.cons (x2.rp r1) r2))⟩
variable {kws : List Keyword} {ks : List Str} {n : Nat} {pl : {α : Type} → List α → List α → List α} {gk : VA}
theorem qCallK (G : FnG X.prog X.w X.K X.mg X.base k f fd ps F) (a : At X W k) (hm : X.mg x = some (.ref f)) (hk : PySem.W.keepIn X.K (.ref f) = true) (hb : BindK fd ps ks n pl) (ha : PA X (e :: es) (gA X W g)) (hkw : PK X kws (gA X W gk))
    (hn : (e :: es).length = n := by rfl) (hg : Gl X x := by rfl) (hall : (backToKw pos (keywordEach kws X.env)).all (·.1.isSome) = true := by rfl) (hks : (backToKw pos (keywordEach kws X.env)).filterMap (·.1) = ks := by rfl)
    (hdb : (x == ("__debug__" : Str)) = false := by decide) (he : starEach (e :: es) X.env = (false, eval e X.env) :: starEach es X.env := by rfl)
    (hpl : ((backTo pos (starEach (e :: es) X.env)).any (·.1) || (backToKw pos (keywordEach kws X.env)).any (·.1.isNone)) = false := by rfl) :
    PE X (.Call (.Name x p) (e :: es) kws pos) (gE X W (vCallK ps.length F (fun a b => if a.length = n ∧ b.length = ks.length then pl a b else List.replicate (ps.length + 1) .non) g gk)) := by
  refine ⟨fun pins s σ H Q I ⟨wd, sv, hH, ok, sl, hp⟩ => ?_⟩
  subst hH
  refine wpAny_Call_Name_kw (ld_glob I hg hm ?_ hdb)
  refine PySem.W.callWith_KW (h₀ := X.base) I.ok.mod.kin hk hall ?_ hpl he
  have q : gA X W g σ wd.H fun vs H1 => gA X W gk σ H1 fun zs H2 => ∃ w2 ds es, w2.H = H2 ∧ w2.Ok X.K ∧ Slots X.K w2 sv σ ∧ Rps X.K w2 ds vs ∧ Rps X.K w2 es zs ∧ ds.length = n ∧ es.length = ks.length ∧ (pl ds es).length = ps.length ∧ PstE X W w2 (callR sv (F (pl ds es) w2.h)) Q := by
    refine gA.seq ok sl (wE wd Q) hp fun ds w1 vs ok1 x1 sl1 r1 hp1 => ?_
    refine gA.seq ok1 sl1 ((wE wd Q).mono x1) hp1 fun es w2 zs ok2 x2 sl2 r2 hp2 => ?_
    simp only at hp2
    by_cases hn : ds.length = n ∧ es.length = ks.length
    · rw [if_pos hn] at hp2
      by_cases hl : (pl ds es).length = ps.length
      · rw [if_pos hl] at hp2
        exact ⟨w2, ds, es, rfl, ok2, sl2, x2.rps r1, r2, hn.1, hn.2, hl, hp2.mono (x1.trans x2)⟩
      · rw [if_neg hl] at hp2
        exact hp2.elim
    · rw [if_neg hn] at hp2
      rw [if_neg (by simp)] at hp2
      exact hp2.elim
  refine thn (ha.run pos pins s σ wd.H _ I q) fun us s1 ⟨vs, H1, I1, rv, q1⟩ => ?_
  refine thn (hkw.run pos pins s1 σ H1 _ I1 q1) fun ws s2 ⟨zs, H2, I2, rz, w2, ds, es, hH2, ok2, sl2, r1, r2, n1, n2, hl, hp2⟩ => ⟨I2.kIn, ?_⟩
  subst hH2
  rw [hks]
  have e1 : us.length = n := by rw [← rv.length, ← RepL.length r1]; exact n1
  have e2 : ws.length = ks.length := by rw [← rz.length, ← RepL.length r2]; exact n2
  exact call_of (run_fnG (ds := pl ds es) (vs := pl vs zs) (us := pl us ws) G a (.of_eq (hb.to us ws e1 e2)) I2 (hb.vals vs zs us ws rv rz) ok2 sl2 (hb.reps _ _ ds es vs zs r1 r2) hl hp2)
theorem qCallK0 (G : FnG X.prog X.w X.K X.mg X.base k f fd ps F) (a : At X W k) (hm : X.mg x = some (.ref f)) (hk : PySem.W.keepIn X.K (.ref f) = true) (hb : BindK fd ps ks 0 pl) (hkw : PK X kws (gA X W gk))
    (hg : Gl X x := by rfl) (hall : (backToKw pos (keywordEach kws X.env)).all (·.1.isSome) = true := by rfl) (hks : (backToKw pos (keywordEach kws X.env)).filterMap (·.1) = ks := by rfl)
    (hdb : (x == ("__debug__" : Str)) = false := by decide)
    (hpl : ((backTo pos (starEach [] X.env)).any (·.1) || (backToKw pos (keywordEach kws X.env)).any (·.1.isNone)) = false := by rfl) :
    PE X (.Call (.Name x p) [] kws pos) (gE X W (vCallK ps.length F (fun a b => if a.length = 0 ∧ b.length = ks.length then pl a b else List.replicate (ps.length + 1) .non) vNil gk)) := by
  refine ⟨fun pins s σ H Q I ⟨wd, sv, hH, ok, sl, hp⟩ => ?_⟩
  subst hH
  refine wpAny_Call_Name_kw (ld_glob I hg hm ?_ hdb)
  refine PySem.W.callWith_KW0 (h₀ := X.base) I.ok.mod.kin hk hall ?_ hpl
  have q : gA X W gk σ wd.H fun zs H2 => ∃ w2 es, w2.H = H2 ∧ w2.Ok X.K ∧ Slots X.K w2 sv σ ∧ Rps X.K w2 es zs ∧ es.length = ks.length ∧ (pl [] es).length = ps.length ∧ PstE X W w2 (callR sv (F (pl [] es) w2.h)) Q := by
    refine gA.seq (f := gk) ok sl (wE wd Q) hp fun es w2 zs ok2 x2 sl2 r2 hp2 => ?_
    simp only at hp2
    by_cases hn : ([] : List D).length = 0 ∧ es.length = ks.length
    · rw [if_pos hn] at hp2
      by_cases hl : (pl [] es).length = ps.length
      · rw [if_pos hl] at hp2
        exact ⟨w2, es, rfl, ok2, sl2, r2, hn.2, hl, hp2.mono x2⟩
      · rw [if_neg hl] at hp2
        exact hp2.elim
    · rw [if_neg hn] at hp2
      rw [if_neg (by simp)] at hp2
      exact hp2.elim
  refine thn (hkw.run pos pins s σ wd.H _ I q) fun ws s2 ⟨zs, H2, I2, rz, w2, es, hH2, ok2, sl2, r2, n2, hl, hp2⟩ => ⟨I2.kIn, ?_⟩
  subst hH2
  rw [hks]
  have e2 : ws.length = ks.length := by rw [← rz.length, ← RepL.length r2]; exact n2
  exact call_of (run_fnG (ds := pl [] es) (vs := pl [] zs) (us := pl [] ws) G a (.of_eq (hb.to [] ws rfl e2)) I2 (hb.vals [] zs [] ws .nil rz) ok2 sl2 (hb.reps _ _ [] es [] zs .nil r2) hl hp2)
end

/-! ### saying it more plainly -/
mutual
def D.lt (n : Nat) : D → Bool
  | .tup l => D.ltAll n l
  | .ref k => decide (k < n)
  | .non => true
  | .bl _ => true
  | .int _ => true
  | .str _ => true
def D.ltAll (n : Nat) : List D → Bool
  | [] => true
  | d :: r => D.lt n d && D.ltAll n r
end
def Cell.lt (n : Nat) : Cell → Bool
  | .lst l => D.ltAll n l
  | .ro l => D.ltAll n l
/-- no address leads out of the heap -/
def closed (h : VH) : Prop := ∀ c ∈ h, Cell.lt h.length c = true

mutual
theorem RepV.cut {K : PySem.W.Frag} {ι : Nat → Addr} {n m : Nat} {H : Hp} : ∀ {d : D} {v : V}, RepV K ι n H d v → D.lt m d = true → RepV K ι m H d v
  | _, _, .non, _ => .non
  | _, _, .bl b, _ => .bl b
  | _, _, .int i, _ => .int i
  | _, _, .str s, _ => .str s
  | _, _, .tup h r, e => .tup h (r.cut (by simpa [D.lt] using e))
  | _, _, .ref h, e => .ref (by simpa [D.lt] using e)
theorem RepL.cut {K : PySem.W.Frag} {ι : Nat → Addr} {n m : Nat} {H : Hp} : ∀ {d : List D} {v : List V}, RepL K ι n H d v → D.ltAll m d = true → RepL K ι m H d v
  | _, _, .nil, _ => .nil
  | _, _, .cons h r, e => by
    simp only [D.ltAll, Bool.and_eq_true] at e
    exact .cons (h.cut e.1) (r.cut e.2)
end
mutual
theorem RepV.in {K : PySem.W.Frag} {ι : Nat → Addr} {n : Nat} {H : Hp} : ∀ {d : D} {v : V}, RepV K ι n H d v → D.lt n d = true
  | _, _, .non => by simp [D.lt]
  | _, _, .bl b => by simp [D.lt]
  | _, _, .int i => by simp [D.lt]
  | _, _, .str s => by simp [D.lt]
  | _, _, .tup h r => by simp only [D.lt]; exact r.in
  | _, _, .ref h => by simpa [D.lt] using h
theorem RepL.in {K : PySem.W.Frag} {ι : Nat → Addr} {n : Nat} {H : Hp} : ∀ {d : List D} {v : List V}, RepL K ι n H d v → D.ltAll n d = true
  | _, _, .nil => by simp [D.ltAll]
  | _, _, .cons h r => by simp only [D.ltAll, Bool.and_eq_true]; exact ⟨h.in, r.in⟩
end
theorem Wd.Ok.closed {K : PySem.W.Frag} {w : Wd} (ok : w.Ok K) : closed w.h := fun c hc => by
  obtain ⟨n, hn, rfl⟩ := List.mem_iff_getElem.mp hc
  have q := ok.cell n _ (List.getElem?_eq_getElem hn)
  revert q
  cases w.h[n] with
  | lst l => rintro ⟨vs, _, r⟩; exact r.in
  | ro l => rintro ⟨vs, _, r⟩; exact r.in
/-- the first part of a heap -/
def Wd.cut (w : Wd) (h : VH) : Wd := ⟨w.ι, h, w.H⟩
theorem Wd.Ok.cut {K : PySem.W.Frag} {w : Wd} {h g : VH} (ok : w.Ok K) (e : w.h = h ++ g) (c : Vq.closed h) : (w.cut h).Ok K := by
  have at_ : ∀ n c, h[n]? = some c → w.h[n]? = some c := fun n c q => by
    rw [e, List.getElem?_append_left (List.getElem?_eq_some_iff.mp q).1]
    exact q
  refine ⟨fun n d q => ?_, fun n m a b ha hb => ok.inj n m a b (at_ n a ha) (at_ m b hb)⟩
  have z := ok.cell n d (at_ n d q)
  have hd := c d (List.mem_of_getElem? q)
  cases d with
  | lst l =>
    obtain ⟨vs, h1, h2⟩ := z
    exact ⟨vs, h1, h2.cut hd⟩
  | ro l =>
    obtain ⟨vs, h1, h2⟩ := z
    exact ⟨vs, h1, h2.cut hd⟩

/-- F' says the same as F, but for what F leaves behind at the heap's end -/
def Says (F' F : Fn) : Prop :=
  ∀ (ds : List D) (h : VH), closed h → D.ltAll h.length ds = true → match F' ds h with
    | .ok (d, h') => (∃ g, F ds h = .ok (d, h' ++ g)) ∧ h.length ≤ h'.length ∧ closed h' ∧ D.lt h'.length d = true
    | .ex x _ h' => (∃ s g, F ds h = .ex x s (h' ++ g)) ∧ h.length ≤ h'.length ∧ closed h' ∧ D.ltAll h'.length (x.fs.map (·.2)) = true
    | .bad => True
theorem FnG.says {P : Program} {w : World} {K : PySem.W.Frag} {mg : Str → Option Value} {base : Heap} {k : Nat} {f : Addr} {fd : FuncData} {ps : List Str} {F F' : Fn} (G : FnG P w K mg base k f fd ps F) (h : Says F' F) : FnG P w K mg base k f fd ps F' := by
  refine ⟨fun A outer s args us vs ds wd Q E hg hr e0 hl bt rv ok rd hp => G.run A outer s args us vs ds wd Q E hg hr e0 hl bt rv ok rd ?_⟩
  have z := h ds wd.h ok.closed rd.in
  revert z hp
  cases F' ds wd.h with
  | bad => exact fun q => q.elim
  | ok p =>
    obtain ⟨d, h'⟩ := p
    rintro hp ⟨⟨g, e⟩, hl, hc, hd⟩
    rw [e]
    intro w' v ok' e' x' r'
    have e' : w'.h = h' ++ g := e'
    exact hp (w'.cut h') v (ok'.cut e' hc) rfl ⟨hl, x'.ι, x'.tup⟩ (r'.cut hd)
  | ex x s h' =>
    rintro hp ⟨⟨s2, g, e⟩, hl, hc, hd⟩
    rw [e]
    intro w' cls d ok' e' x' rx
    have e' : w'.h = h' ++ g := e'
    refine hp (w'.cut h') cls d (ok'.cut e' hc) rfl ⟨hl, x'.ι, x'.tup⟩ ⟨rx.1, rx.2.imp id fun ⟨a, fs, h1, h2, h3, h4, h5⟩ => ⟨a, fs, h1, h2, h3, h4, h5.cut hd⟩⟩
end Vq

/-! Part 6: the law's own call, at the heap that the top leaves. The script is the first cell, a list that nobody writes to. -/
namespace Vq
open PySem PySem.Spec PyProof.Rows L2

/-- the script as a heap of one cell -/
def scriptH (ns : List Int) : VH := [.ro (ns.map D.int)]
theorem reps_ints (K : PySem.W.Frag) (ι : Nat → Addr) (n : Nat) (H : Hp) : ∀ ns : List Int, RepL K ι n H (ns.map D.int) (ns.map V.int)
  | [] => .nil
  | i :: r => .cons (.int i) (reps_ints K ι n H r)
theorem ro_of {K : PySem.W.Frag} {H : Hp} {a : Addr} {xs : List V} (hO : Only H) (h : SqL K H a xs) : RoL K H a xs := by
  rcases h with (h | ⟨ob, h⟩) | h
  · rcases hO a with z | ⟨o, ys, z⟩ <;> rw [h] at z <;> cases z
  · exact .inl ⟨ob, h⟩
  · exact .inr h
theorem script_ok {K : PySem.W.Frag} {H : Hp} {a : Addr} {ns : List Int} (h : RoL K H a (ns.map V.int)) : (Wd.mk (fun _ => a) (scriptH ns) H).Ok K := by
  refine ⟨fun n c e => ?_, fun n m c d h1 h2 m1 m2 _ => ?_⟩
  · match n, e with
    | 0, e =>
      cases e
      exact ⟨_, h, reps_ints K _ _ _ ns⟩
    | n + 1, e => cases e
  · match n, m, h1, h2 with
    | 0, 0, _, _ => rfl
    | n + 1, _, h1, _ => cases h1
    | _, m + 1, _, h2 => cases h2

theorem lawG {P : Program} {w : World} {K : PySem.W.Frag} {mg mb : Str → Option Value} {k : Nat} {fa a : Addr} {fd : FuncData} {x : Str} {F : Fn} {s : Shared} {vs : List Value} {ns : List Int}
    (KX : K.In s.heap) (hns : s.heap.Ns mainGlobals mg) (hb : s.heap.Ns builtinsNs mb) (hbb : ∀ x : Str, x ≠ "__name__" → mb x = bootBuiltins x) (hlim : s.heap.NoLimit)
    (hg : s.gens = #[]) (ha : s.heap.get? a = some { cls := .type "list", data := .seq vs.toArray }) (hi : IntsAre vs ns) (hl : ns.length ≤ sizeLine) (hr : Room k callerA)
    (G : ∀ base : Heap, K.In base → base.Ns mainGlobals mg → FnG P w K mg base k fa fd [x] F) (hbind : ∀ u : Value, bindArgs fd ⟨[u], []⟩ = pure [(x, u)])
    (hF : ∃ h', F [.ref 0] (scriptH ns) = .ok (.bl true, h')) :
    codeAny (model P w) callerA (.call (.ref fa) ⟨[.ref a], []⟩) (fun r s' => r = .ok (.ret (.bool true)) ∧ OldK s.heap s'.heap ∧ s'.os = s.os ∧ AllBare s'.gens) s := by
  have rv := vals_ints hi
  have go : ∀ H : Hp, Only H → SqL K H a (ns.map V.int) → HOk P w H s.heap → (∀ b, H b ≠ none → b = a) → (H a ≠ none → K.lookup a = none) →
      codeAny (model P w) callerA (.call (.ref fa) ⟨[.ref a], []⟩) (fun r s' => r = .ok (.ret (.bool true)) ∧ OldK s.heap s'.heap ∧ s'.os = s.os ∧ AllBare s'.gens) s := by
    intro H hO hS hok hA hK
    have free : ∀ {b : Addr} {o : Obj} {es : Array DictEntry} {ep : Nat}, s.heap.get? b = some o → o.data = .dict es ep → H b = none := by
      intro b o es ep e d
      cases q : H b with
      | none => rfl
      | some u =>
        have e' : b = a := hA b (by rw [q]; exact fun z => nomatch z)
        subst e'
        rw [ha] at e
        cases e
        have d' : Data.seq vs.toArray _ = Data.dict es ep := d
        cases d'
    have ns1 : ∀ {b : Addr} {m : Str → Option Value}, s.heap.Ns b m → (hidT s.heap H).Ns b m := by
      rintro b m ⟨o, es, ep, e, d, r⟩
      exact ⟨o, es, ep, hidT_get e (free e d), d, r⟩
    have inB : K.In (hidT s.heap H) := by
      intro b o e
      refine hidT_get (KX b o e) ?_
      cases q : H b with
      | none => rfl
      | some u =>
        have e' : b = a := hA b (by rw [q]; exact fun z => nomatch z)
        subst e'
        rw [hK (by rw [q]; exact fun z => nomatch z)] at e
        cases e
    have hM : Mod K mg (hidT s.heap H) := ⟨inB, ns1 hns, ⟨mb, ns1 hb, hbb⟩, by
      obtain ⟨mc, h1, h2⟩ := hlim
      exact ⟨mc, ns1 h1, h2⟩⟩
    have e0 : Env0 P w K mg (hidT s.heap H) callerA [] s H :=
      ⟨rfl, hM, fun b o e => of_hidT e, Nat.le_of_eq (hidT_size _ _), trivial, fun b hb => absurd (show b ∈ ([] : List Addr) from hb) List.not_mem_nil, hok, .of_eq hg⟩
    obtain ⟨h', hF⟩ := hF
    have run := (G _ inB (ns1 hns)).run callerA [] s ⟨[.ref a], []⟩ [.ref a] [.ref a] [.ref 0] (Wd.mk (fun _ => a) (scriptH ns) H) (fun v _ => v = .bl true) (fun _ _ _ => False) rfl hr e0 rfl
      (.of_eq (hbind (.ref a))) (.cons rfl .nil) (script_ok (ro_of hO hS)) (.cons (.ref (k := 0) (Nat.zero_lt_one)) .nil) (by
        rw [hF]
        intro w' v _ _ _ r
        have r' : RepV K w'.ι w'.h.length w'.H (.bl true) v := r
        cases r'
        rfl)
    refine codeAny_mono run fun r s' h => ?_
    cases r with
    | error e =>
      obtain ⟨_, _, _, _, _, _, _, _, _, _, _, _, z⟩ := h
      exact z.elim
    | ok fl =>
      cases fl with
      | next => exact h.elim
      | brk => exact h.elim
      | cont => exact h.elim
      | ret u =>
        obtain ⟨v, H', os, bare, un, hok', r', q⟩ := h
        have q' : v = .bl true := q
        subst q'
        obtain rfl : u = Value.bool true := r'
        refine ⟨rfl, OldK.of_keep fun b o e => ?_, os, bare⟩
        cases q : H b with
        | none => exact un.keep b o e q (fun z => absurd (show b ∈ ([] : List Addr) from z) List.not_mem_nil) List.not_mem_nil
        | some u =>
          rcases hO b with z | ⟨ob, xs, z⟩
          · rw [q] at z
            cases z
          · obtain ⟨e1, _⟩ := hok b _ z
            obtain ⟨e2, _⟩ := hok' b _ (un.frzs b ob _ z)
            rw [e] at e1
            cases e1
            exact e2
  have lenV := hi.length
  cases hk : K.lookup a with
  | some o =>
    have e := KX a o hk
    rw [ha] at e
    cases e
    refine go (fun _ => none) (fun _ => .inl rfl) (.inr ⟨_, vs.toArray, _, hk, rfl, rfl, rfl, by rw [List.size_toArray, lenV]; exact hl, by simpa using rv⟩) (fun b u z => by
      have z' : (none : Option HO) = some u := z
      cases z') (fun b z => absurd rfl z) fun z => absurd rfl z
  | none =>
    refine go (fun b => if b = a then some (.frz { cls := .type "list", data := .seq vs.toArray } (.lst (ns.map V.int))) else none) (fun b => ?_) (.inl (.inr ⟨{ cls := .type "list", data := .seq vs.toArray }, if_pos rfl⟩))
      (fun b u z => ?_) (fun b z => ?_) fun _ => hk
    · by_cases hb : b = a
      · exact .inr ⟨_, _, if_pos hb⟩
      · exact .inl (if_neg hb)
    · by_cases hb : b = a
      · have z' := (if_pos hb).symm.trans z
        cases z'
        subst hb
        exact ⟨ha, by rw [List.length_map]; exact hl, vs, _, rv, ha⟩
      · have z' := (if_neg hb).symm.trans z
        cases z'
    · by_cases hb : b = a
      · exact hb
      · exact absurd (if_neg hb) z

/-- what k_head leaves -/
theorem walkG {l : PySem.W.OpenLaw} {n k : Nat} {q : Program} {loose : List Str} {XP : (Str → Option Value) → Heap → Prop} {YP : World → Heap → Prop} {d : DefRec} {K : Params → PySem.W.Frag} {F : Fn} {x : Str}
    (hn : l.most = some n) (hn2 : n ≤ sizeLine) (hdf : d.params.defaults = []) (hr : Room k callerA) (hY : ∀ (w : World) (h : Heap), YP w h → (K w.params).In h)
    (G : ∀ (w : World) (mg : Str → Option Value) (fa : Addr) (h : Heap), (K w.params).In h → h.Ns mainGlobals mg → mg d.name = some (.ref fa) →
      ∃ fd : FuncData, (∀ u : Value, bindArgs fd ⟨[u], []⟩ = pure [(x, u)]) ∧ ∀ base : Heap, (K w.params).In base → base.Ns mainGlobals mg → FnG l.prog w (K w.params) mg base k fa fd [x] F)
    (hF : ∀ ns : List Int, ns.length ≤ n → ∃ h', F [.ref 0] (scriptH ns) = .ok (.bl true, h')) : PySem.W.WalkO q loose XP YP l.row.toRowW d [] (fun f vs => PySem.call f vs) := by
  refine Att.attach_call hn hdf fun w s₀ s₁ mg mb fa o pm cd doc a vs ns Gr Y ho hd hcd hmg hobj hints hlen hg => ?_
  obtain ⟨fd, hb, hG⟩ := G w mg fa _ (hY w _ Y) Gr.T.g hmg
  exact lawG (hY w _ Y) Gr.T.g Gr.T.b Gr.T.builtins Gr.T.nolimit hg hobj hints (Nat.le_trans hlen hn2) hr hG hb (hF ns hlen)
end Vq

/-! Part 7: what operators and built-ins do upon values. -/
namespace Vq
open PySem PySem.Spec PyProof.Rows L2

/-! ### a list's items -/
def lk (h : VH) (n : Nat) : Option (List D) := match h[n]? with
  | some (.lst l) => some l
  | some (.ro l) => some l
  | none => none
theorem lk_sq {K : PySem.W.Frag} {w : Wd} {n : Nat} {ds : List D} (ok : w.Ok K) (e : lk w.h n = some ds) : ∃ vs, SqL K w.H (w.ι n) vs ∧ Rps K w ds vs := by
  unfold lk at e
  cases q : w.h[n]? with
  | none => rw [q] at e; cases e
  | some c =>
    have z := ok.cell n c q
    rw [q] at e
    cases c with
    | lst l =>
      cases e
      obtain ⟨vs, h1, h2⟩ := z
      exact ⟨vs, SqL.of h1, h2⟩
    | ro l =>
      cases e
      obtain ⟨vs, h1, h2⟩ := z
      exact ⟨vs, h1.sq, h2⟩
def seqOf (h : VH) : D → Option (List D)
  | .tup l => some l
  | .ref n => lk h n
  | _ => none
theorem seqOf_sq {K : PySem.W.Frag} {w : Wd} {d : D} {v : V} {ds : List D} (ok : w.Ok K) (r : Rp K w d v) (e : seqOf w.h d = some ds) : ∃ a vs, v = .ref a ∧ (SqL K w.H a vs ∨ SqT K w.H a vs) ∧ Rps K w ds vs := by
  cases r with
  | tup hq rr => cases e; exact ⟨_, _, rfl, .inr hq, rr⟩
  | ref hk =>
    obtain ⟨vs, h1, h2⟩ := lk_sq ok e
    exact ⟨_, vs, rfl, .inl h1, h2⟩
  | _ => cases e

/-! ### plain data, as the library says it -/
mutual
def pyD (f : Nat → Option PyData) : D → Option PyData
  | .non => some .none
  | .bl b => some (.bool b)
  | .int i => some (.int i)
  | .str s => some (.str s)
  | .tup l => (pyL f l).map .tuple
  | .ref n => f n
def pyL (f : Nat → Option PyData) : List D → Option (List PyData)
  | [] => some []
  | d :: r => (pyD f d).bind fun a => (pyL f r).map fun b => a :: b
end
def refPy (h : VH) : Nat → Nat → Option PyData
  | 0, _ => none
  | k + 1, n => (lk h n).bind fun l => (pyL (refPy h k) l).map .list
def py (h : VH) (d : D) : Option PyData := pyD (refPy h 6) d

mutual
theorem pyD_dp {K : PySem.W.Frag} {w : Wd} {f : Nat → Option PyData} (hf : ∀ n p, f n = some p → Dp K w.H (.ref (w.ι n)) p) : ∀ {d : D} {v : V} {p : PyData}, Rp K w d v → pyD f d = some p → Dp K w.H v p
  | _, _, _, .non, e => by simp only [pyD] at e; cases e; exact .non
  | _, _, _, .bl b, e => by simp only [pyD] at e; cases e; exact .bl b
  | _, _, _, .int i, e => by simp only [pyD] at e; cases e; exact .int i
  | _, _, _, .str s, e => by simp only [pyD] at e; cases e; exact .str s
  | _, _, _, .tup h r, e => by
    simp only [pyD] at e
    obtain ⟨ps, e1, rfl⟩ := Option.map_eq_some_iff.mp e
    exact .tup h (pyL_dp hf r e1)
  | _, _, _, .ref _, e => by simp only [pyD] at e; exact hf _ _ e
theorem pyL_dp {K : PySem.W.Frag} {w : Wd} {f : Nat → Option PyData} (hf : ∀ n p, f n = some p → Dp K w.H (.ref (w.ι n)) p) : ∀ {d : List D} {v : List V} {p : List PyData}, Rps K w d v → pyL f d = some p → DpAll K w.H v p
  | _, _, _, .nil, e => by simp only [pyL] at e; cases e; exact .nil
  | _, _, _, .cons h r, e => by
    simp only [pyL] at e
    obtain ⟨a, ea, e⟩ := Option.bind_eq_some_iff.mp e
    obtain ⟨b, eb, rfl⟩ := Option.map_eq_some_iff.mp e
    exact .cons (pyD_dp hf h ea) (pyL_dp hf r eb)
end
theorem refPy_dp {K : PySem.W.Frag} {w : Wd} (ok : w.Ok K) : ∀ (k n : Nat) (p : PyData), refPy w.h k n = some p → Dp K w.H (.ref (w.ι n)) p
  | 0, _, _, e => by cases e
  | k + 1, n, p, e => by
    simp only [refPy] at e
    obtain ⟨l, el, e⟩ := Option.bind_eq_some_iff.mp e
    obtain ⟨ps, ep, rfl⟩ := Option.map_eq_some_iff.mp e
    obtain ⟨vs, h1, h2⟩ := lk_sq ok el
    exact .lst h1 (pyL_dp (refPy_dp ok k) h2 ep)
theorem py_dp {K : PySem.W.Frag} {w : Wd} {d : D} {v : V} {p : PyData} (ok : w.Ok K) (r : Rp K w d v) (e : py w.h d = some p) : Dp K w.H v p := pyD_dp (refPy_dp ok 6) r e

def eqWith (neg : Bool) (x y : D) (h : VH) : Option (D × VH) := match py h x, py h y with
  | some a, some b => if SeqAt.shaped a && SeqAt.shaped b then some (.bl (if neg then !PyData.eqv a b else PyData.eqv a b), h) else none
  | _, _ => none
/-! ### ints -/
def ii (f : Int → Int → Option D) (x y : D) (h : VH) : Option (D × VH) := match x, y with
  | .int i, .int j => (f i j).map fun d => (d, h)
  | _, _ => none
theorem opd_ii {K : PySem.W.Frag} {r : R2} {f : Int → Int → Option D} (hr : ∀ (i j : Int) (d : D) (H : Hp) (Q : VK), f i j = some d → (∀ v, (∀ w : Wd, Rp K w d v) → Q v H) → r (.int i) (.int j) H Q) : OpD K r (ii f) := fun w x y vx vy Q ok rx ry h => by
  cases rx with
  | int i =>
    cases ry with
    | int j =>
      unfold ii at h
      simp only at h
      cases e : f i j with
      | none => rw [e] at h; exact h.elim
      | some d =>
        rw [e] at h
        exact hr i j d w.H Q e fun v hv => h w v ok rfl (.refl w) (hv w)
    | _ => exact h.elim
  | _ => cases ry <;> exact h.elim
theorem opd_or {K : PySem.W.Frag} {r r' : R2} {f f' g : D → D → VH → Option (D × VH)} (a : OpD K r f) (b : OpD K r' f') (h : ∀ x y hp, (g x y hp = f x y hp) ∨ (g x y hp = f' x y hp)) : OpD K (fun x y H Q => r x y H Q ∨ r' x y H Q) g := fun w x y vx vy Q ok rx ry hp => by
  rcases h x y w.h with e | e
  · rw [e] at hp; exact .inl (a w x y vx vy Q ok rx ry hp)
  · rw [e] at hp; exact .inr (b w x y vx vy Q ok rx ry hp)
/-- two partial operations side by side: the second where the first is not said -/
def orD (f g : D → D → VH → Option (D × VH)) : D → D → VH → Option (D × VH) := fun x y h => match f x y h with
  | some p => some p
  | none => g x y h
theorem opd_orD {K : PySem.W.Frag} {r r' : R2} {f f' : D → D → VH → Option (D × VH)} (a : OpD K r f) (b : OpD K r' f') : OpD K (fun x y H Q => r x y H Q ∨ r' x y H Q) (orD f f') :=
  opd_or a b fun x y hp => by
    unfold orD
    cases e : f x y hp with
    | none => exact .inr rfl
    | some p => exact .inl rfl

theorem eqd_opd (K : PySem.W.Frag) : OpD K (rEqD K) (eqWith false) := fun w x y vx vy Q ok rx ry h => by
  unfold eqWith at h
  cases ea : py w.h x with
  | none => rw [ea] at h; exact h.elim
  | some a =>
    cases eb : py w.h y with
    | none => rw [ea, eb] at h; exact h.elim
    | some b =>
      simp only [ea, eb] at h
      by_cases hs : (SeqAt.shaped a && SeqAt.shaped b) = true
      · rw [if_pos hs] at h
        rw [Bool.and_eq_true] at hs
        exact ⟨a, b, py_dp ok rx ea, py_dp ok ry eb, hs.1, hs.2, h w _ ok rfl (.refl w) (.bl _)⟩
      · rw [if_neg hs] at h
        exact h.elim
theorem ned_opd (K : PySem.W.Frag) : OpD K (rNeD K) (eqWith true) := fun w x y vx vy Q ok rx ry h => by
  unfold eqWith at h
  cases ea : py w.h x with
  | none => rw [ea] at h; exact h.elim
  | some a =>
    cases eb : py w.h y with
    | none => rw [ea, eb] at h; exact h.elim
    | some b =>
      simp only [ea, eb] at h
      by_cases hs : (SeqAt.shaped a && SeqAt.shaped b) = true
      · rw [if_pos hs] at h
        rw [Bool.and_eq_true] at hs
        exact ⟨a, b, py_dp ok rx ea, py_dp ok ry eb, hs.1, hs.2, h w _ ok rfl (.refl w) (.bl _)⟩
      · rw [if_neg hs] at h
        exact h.elim

/-- two texts -/
def eqStr (neg : Bool) (x y : D) (h : VH) : Option (D × VH) := match x, y with
  | .str a, .str b => some (.bl (if neg then !decide (a = b) else decide (a = b)), h)
  | _, _ => none
theorem eqs_opd (K : PySem.W.Frag) : OpD K rEq (eqStr false) := fun w x y vx vy Q ok rx ry h => by
  cases rx with
  | str a =>
    cases ry with
    | str b =>
      have e : decide (V.str a = V.str b) = decide (a = b) := by simp
      exact ⟨rfl, by rw [e]; exact h w _ ok rfl (.refl w) (.bl _)⟩
    | _ => exact h.elim
  | _ => cases ry <;> exact h.elim
theorem nes_opd (K : PySem.W.Frag) : OpD K rNe (eqStr true) := fun w x y vx vy Q ok rx ry h => by
  cases rx with
  | str a =>
    cases ry with
    | str b =>
      have e : decide (V.str a = V.str b) = decide (a = b) := by simp
      exact ⟨rfl, by rw [e]; exact h w _ ok rfl (.refl w) (.bl _)⟩
    | _ => exact h.elim
  | _ => cases ry <;> exact h.elim
def dEq : D → D → VH → Option (D × VH) := orD (eqStr false) (eqWith false)
def dNe : D → D → VH → Option (D × VH) := orD (eqStr true) (eqWith true)
def rEqA (K : PySem.W.Frag) : R2 := fun x y H Q => rEq x y H Q ∨ rEqD K x y H Q
def rNeA (K : PySem.W.Frag) : R2 := fun x y H Q => rNe x y H Q ∨ rNeD K x y H Q
theorem eq_opd (K : PySem.W.Frag) : OpD K (rEqA K) dEq := opd_orD (eqs_opd K) (eqd_opd K)
theorem ne_opd (K : PySem.W.Frag) : OpD K (rNeA K) dNe := opd_orD (nes_opd K) (ned_opd K)
theorem eq_opr {X : Cx} (hu : X.A.units + 64 < cLine) : OpR X (compareOp .Eq) (rEqA X.K) := OpR.or op_eq (op_eqD hu)
theorem ne_opr {X : Cx} (hu : X.A.units + 64 < cLine) : OpR X (compareOp .NotEq) (rNeA X.K) := OpR.or op_ne (op_neD hu)

def aAdd := ii fun i j => some (.int (i + j))
def aSub := ii fun i j => some (.int (i - j))
theorem add_ii (K : PySem.W.Frag) : OpD K (rI0 fun i j => .int (i + j)) aAdd := opd_ii fun i j d H Q e q => by
  cases e
  exact ⟨i, j, rfl, rfl, q _ fun _ => .int _⟩
theorem sub_ii (K : PySem.W.Frag) : OpD K (rI0 fun i j => .int (i - j)) aSub := opd_ii fun i j d H Q e q => by
  cases e
  exact ⟨i, j, rfl, rfl, q _ fun _ => .int _⟩
/-- a product's size: one side small, or both bounded -/
def mulOk (i j : Int) : Bool := decide (-(2 ^ 64) < i ∧ i < 2 ^ 64) || decide (-(2 ^ 64) < j ∧ j < 2 ^ 64) || decide (i.natAbs.log2 + j.natAbs.log2 < 1000000)
def aMul := ii fun i j => if mulOk i j then some (.int (i * j)) else none
theorem mul_ii (K : PySem.W.Frag) : OpD K (fun x y H Q => rI CMul (fun i j => .int (i * j)) x y H Q ∨ rI CMulW (fun i j => .int (i * j)) x y H Q) aMul := opd_ii fun i j d H Q e q => by
  by_cases h : mulOk i j = true
  · rw [if_pos h] at e
    cases e
    unfold mulOk at h
    simp only [Bool.or_eq_true, decide_eq_true_eq] at h
    rcases h with (h | h) | h
    · exact .inl ⟨i, j, rfl, rfl, .inl h, q _ fun _ => .int _⟩
    · exact .inl ⟨i, j, rfl, rfl, .inr h, q _ fun _ => .int _⟩
    · exact .inr ⟨i, j, rfl, rfl, h, q _ fun _ => .int _⟩
  · rw [if_neg h] at e
    cases e
def divOk (j : Int) : Bool := (j != 0 && decide (j.natAbs < 1073741824)) || (decide (0 < j) && decide (j.natAbs.log2 < 9000))
def aFdv := ii fun i j => if divOk j then some (.int (i.fdiv j)) else none
theorem fdv_ii (K : PySem.W.Frag) : OpD K (fun x y H Q => rI CDivN (fun i j => .int (i.fdiv j)) x y H Q ∨ rI CDivW (fun i j => .int (i / j)) x y H Q) aFdv := opd_ii fun i j d H Q e q => by
  by_cases h : divOk j = true
  · rw [if_pos h] at e
    cases e
    unfold divOk at h
    simp only [Bool.or_eq_true, Bool.and_eq_true, decide_eq_true_eq, bne_iff_ne] at h
    rcases h with h | h
    · exact .inl ⟨i, j, rfl, rfl, h, q _ fun _ => .int _⟩
    · refine .inr ⟨i, j, rfl, rfl, h, ?_⟩
      have e : i.fdiv j = i / j := Int.fdiv_eq_ediv_of_nonneg i (Int.le_of_lt h.1)
      show Q (.int (i / j)) H
      rw [← e]
      exact q _ fun _ => .int _
  · rw [if_neg h] at e
    cases e
def aMod := ii fun i j => if j = 0 then none else some (.int (i.fmod j))
theorem mod_ii (K : PySem.W.Frag) : OpD K (rI (fun _ j => j ≠ 0) fun i j => .int (i.fmod j)) aMod := opd_ii fun i j d H Q e q => by
  by_cases h : j = 0
  · rw [if_pos h] at e
    cases e
  · rw [if_neg h] at e
    cases e
    exact ⟨i, j, rfl, rfl, h, q _ fun _ => .int _⟩
def powOk (i j : Int) : Bool := decide (0 ≤ j) && decide ((Builtin.Int.intBits i : Int) * j ≤ 2 ^ 27)
def aPow := ii fun i j => if powOk i j then some (.int (i ^ j.toNat)) else none
theorem op_powB {X : Cx} : OpR X (binaryOp .Pow) (rI (fun i j => powOk i j = true) fun i j => .int (i ^ j.toNat)) := by
  rintro pins s σ H x y v u Q I rx ry ⟨i, j, rfl, rfl, c, q⟩
  obtain ⟨t, rfl⟩ := rx
  obtain ⟨t', rfl⟩ := ry
  unfold powOk at c
  simp only [Bool.and_eq_true, decide_eq_true_eq] at c
  exact pow_int c.1 c.2 ⟨.int _, H, I.tok _, ⟨_, rfl⟩, q⟩
theorem pow_ii (K : PySem.W.Frag) : OpD K (rI (fun i j => powOk i j = true) fun i j => .int (i ^ j.toNat)) aPow := opd_ii fun i j d H Q e q => by
  by_cases h : powOk i j = true
  · rw [if_pos h] at e
    cases e
    exact ⟨i, j, rfl, rfl, h, q _ fun _ => .int _⟩
  · rw [if_neg h] at e
    cases e
def aLt := ii fun i j => some (.bl (decide (i < j)))
def aLe := ii fun i j => some (.bl (decide (i ≤ j)))
def aGt := ii fun i j => some (.bl (decide (j < i)))
def aGe := ii fun i j => some (.bl (decide (j ≤ i)))
theorem lt_ii (K : PySem.W.Frag) : OpD K (rI0 fun i j => .bl (decide (i < j))) aLt := opd_ii fun i j d H Q e q => by
  cases e
  exact ⟨i, j, rfl, rfl, q _ fun _ => .bl _⟩
theorem le_ii (K : PySem.W.Frag) : OpD K (rI0 fun i j => .bl (decide (i ≤ j))) aLe := opd_ii fun i j d H Q e q => by
  cases e
  exact ⟨i, j, rfl, rfl, q _ fun _ => .bl _⟩
theorem gt_ii (K : PySem.W.Frag) : OpD K (rI0 fun i j => .bl (decide (j < i))) aGt := opd_ii fun i j d H Q e q => by
  cases e
  exact ⟨i, j, rfl, rfl, q _ fun _ => .bl _⟩
theorem ge_ii (K : PySem.W.Frag) : OpD K (rI0 fun i j => .bl (decide (j ≤ i))) aGe := opd_ii fun i j d H Q e q => by
  cases e
  exact ⟨i, j, rfl, rfl, q _ fun _ => .bl _⟩
def uNeg (x : D) (h : VH) : Option (D × VH) := match x with
  | .int i => some (.int (-i), h)
  | _ => none
theorem neg_un (K : PySem.W.Frag) : UnD K (rU fun i => .int (-i)) uNeg := fun w x vx Q ok rx h => by
  cases rx with
  | int i => exact ⟨i, rfl, h w _ ok rfl (.refl w) (.int _)⟩
  | _ => exact h.elim

/-! ### tuples, lists, texts -/
def tAddT : D → D → VH → Option (D × VH) := fun x y h => match x, y with
  | .tup a, .tup b => if a.length + b.length ≤ sizeLine then some (.tup (a ++ b), h) else none
  | _, _ => none
theorem addT_opd (K : PySem.W.Frag) : OpD K (rCatA K) tAddT := fun w x y vx vy Q ok rx ry h => by
  cases rx with
  | tup hx rx =>
    cases ry with
    | tup hy ry =>
      unfold tAddT at h
      simp only at h
      rename_i a vs ds b us es
      by_cases hl : ds.length + es.length ≤ sizeLine
      · rw [if_pos hl] at h
        refine ⟨_, _, _, _, rfl, rfl, hx, hy, by rw [← rx.length, ← ry.length]; exact hl, fun e => ?_, fun e1 e2 => ?_, fun e1 e2 p hp => ?_⟩
        · subst e
          cases rx
          exact h w _ ok rfl (.refl w) (.tup hy ry)
        · subst e2
          cases ry
          rw [List.append_nil] at h
          exact h w _ ok rfl (.refl w) (.tup hx rx)
        · exact h (w.tupAt p (.tup (vs ++ us))) _ (ok.tupAt hp) rfl (Wd.ext_tupAt hp) (.tup (SqT.of upd_same) ((Wd.ext_tupAt hp).rps (rx.append ry)))
      · rw [if_neg hl] at h
        exact h.elim
    | _ => exact h.elim
  | _ => cases ry <;> exact h.elim
def tAddL : D → D → VH → Option (D × VH) := fun x y h => match x, y with
  | .ref m, .ref n => match h[m]?, h[n]? with
    | some (.lst a), some (.lst b) => if a.length + b.length ≤ sizeLine then some (.ref h.length, h ++ [.lst (a ++ b)]) else none
    | _, _ => none
  | _, _ => none
theorem addL_opd (K : PySem.W.Frag) : OpD K rCat tAddL := fun w x y vx vy Q ok rx ry h => by
  cases rx with
  | ref hm =>
    rename_i m
    cases ry with
    | ref hn =>
      rename_i n
      unfold tAddL at h
      simp only at h
      cases e1 : w.h[m]? with
      | none => rw [e1] at h; exact h.elim
      | some c1 =>
        cases e2 : w.h[n]? with
        | none => cases c1 <;> (simp only [e1, e2] at h; exact h.elim)
        | some c2 =>
          cases c1 with
          | ro _ => simp only [e1, e2] at h; exact h.elim
          | lst a =>
            cases c2 with
            | ro _ => simp only [e1, e2] at h; exact h.elim
            | lst b =>
              simp only [e1, e2] at h
              by_cases hl : a.length + b.length ≤ sizeLine
              · rw [if_pos hl] at h
                obtain ⟨us, h1, r1⟩ := ok.cell m _ e1
                obtain ⟨vs, h2, r2⟩ := ok.cell n _ e2
                refine ⟨_, _, us, vs, rfl, rfl, h1, h2, by rw [← r1.length, ← r2.length]; exact hl, fun p hp => ?_⟩
                exact h (w.newL p (a ++ b) (us ++ vs)) _ (ok.newL hp (r1.append r2)) rfl (Wd.ext_newL hp) at_newL
              · rw [if_neg hl] at h
                exact h.elim
    | _ => exact h.elim
  | _ => cases ry <;> exact h.elim
def tAddS : D → D → VH → Option (D × VH) := fun x y h => match x, y with
  | .str a, .str b => if a.length + b.length ≤ sizeLine then some (.str (a ++ b), h) else none
  | _, _ => none
theorem addS_opd (K : PySem.W.Frag) : OpD K (fun x y H Q => ∃ i j, x = .str i ∧ y = .str j ∧ i.length + j.length ≤ sizeLine ∧ Q (.str (i ++ j)) H) tAddS := fun w x y vx vy Q ok rx ry h => by
  cases rx with
  | str a =>
    cases ry with
    | str b =>
      unfold tAddS at h
      simp only at h
      by_cases hl : a.length + b.length ≤ sizeLine
      · rw [if_pos hl] at h
        exact ⟨a, b, rfl, rfl, hl, h w _ ok rfl (.refl w) (.str _)⟩
      · rw [if_neg hl] at h
        exact h.elim
    | _ => exact h.elim
  | _ => cases ry <;> exact h.elim
/-- +: ints, tuples, lists, texts -/
def dAdd : D → D → VH → Option (D × VH) := orD aAdd (orD tAddT (orD tAddL tAddS))
def orR (a b : R2) : R2 := fun x y H Q => a x y H Q ∨ b x y H Q
def rStrCat : R2 := fun x y H Q => ∃ i j, x = .str i ∧ y = .str j ∧ i.length + j.length ≤ sizeLine ∧ Q (.str (i ++ j)) H
def rAdd (K : PySem.W.Frag) : R2 := orR (rI0 fun i j => .int (i + j)) (orR (rCatA K) (orR rCat rStrCat))
theorem add_opd (K : PySem.W.Frag) : OpD K (rAdd K) dAdd := opd_orD (add_ii K) (opd_orD (addT_opd K) (opd_orD (addL_opd K) (addS_opd K)))
theorem add_opr {X : Cx} : OpR X (binaryOp .Add) (rAdd X.K) := OpR.or (op_add (X := X)) (OpR.or (op_catA (X := X)) (OpR.or (op_cat (X := X)) (op_add_str (X := X))))

/-! ### in, not in (flat things) -/
def flatD : D → Bool
  | .tup _ => false
  | .ref _ => false
  | _ => true
def inWith (neg : Bool) (x y : D) (h : VH) : Option (D × VH) := match py h x, (seqOf h y).bind (pyL fun _ => none) with
  | some a, some l => if flatD x && ((seqOf h y).getD []).all flatD then some (.bl (if neg then !(l.any fun b => PyData.eqv b a) else l.any fun b => PyData.eqv b a), h) else none
  | _, _ => none

/-! ### subscripts -/
def dIx (x y : D) (h : VH) : Option (D × VH) := match y with
  | .int i => (seqOf h x).bind fun l => (atI l i).map fun d => (d, h)
  | _ => none
theorem atI_rep {K : PySem.W.Frag} {w : Wd} {ds : List D} {vs : List V} {i : Int} {d : D} (r : Rps K w ds vs) (e : atI ds i = some d) : ∃ v, atI vs i = some v ∧ Rp K w d v := by
  unfold atI at e ⊢
  rw [← RepL.length r]
  cases q : ixN ds.length i with
  | none => rw [q] at e; cases e
  | some j =>
    rw [q] at e
    obtain ⟨v, ev, rv⟩ := RepL.get r (i := j) e
    exact ⟨v, ev, rv⟩
theorem ix_opd (K : PySem.W.Frag) : OpD K (rIx K) dIx := fun w x y vx vy Q ok rx ry h => by
  cases ry with
  | int i =>
    unfold dIx at h
    simp only at h
    cases es : seqOf w.h x with
    | none => rw [es] at h; exact h.elim
    | some l =>
      rw [es] at h
      simp only [Option.bind_some] at h
      cases ea : atI l i with
      | none => rw [ea] at h; exact h.elim
      | some d =>
        rw [ea] at h
        obtain ⟨a, vs, rfl, hq, rr⟩ := seqOf_sq ok rx es
        obtain ⟨v, ev, rv⟩ := atI_rep rr ea
        have q := h w v ok rfl (.refl w) rv
        rcases hq with hq | hq
        · exact .inl ⟨a, vs, i, v, rfl, rfl, hq, ev, q⟩
        · exact .inr (.inl ⟨a, vs, i, v, rfl, rfl, hq, ev, q⟩)
  | _ => exact h.elim
end Vq

/-! Part 8: walks over tuples by enumerate; what built-ins do upon tuples; repr. -/
namespace Vq
open PySem PySem.Spec PyProof.Rows L2

/-! ### enumerate over what begins somehow -/
set_option maxHeartbeats 1000000 in
theorem meets_enum1 {v : Value} {o : Obj} {H : Heap → Prop} (B : Begins v o H) :
    Meets (Builtin.«enumerate.__new__» ⟨[.type "enumerate", v], []⟩) (fun _ R s => H s.heap ∧
      R (.ok (.ret (.ref (s.heap.push o).objs.size))) { s with heap := (s.heap.push o).push { cls := .type "enumerate", data := .fields #[.none, .bool false, .ref s.heap.objs.size, rawInt 0, .none, .none] } }) := by
  refine .of_wp fun prog w A R s h => ?_
  obtain ⟨hp, g, d, tk, os⟩ := s
  obtain ⟨h1, h⟩ := h
  have hsub := sub_enumerate
  have q1 : ∀ {A' : Around} {E : Value → Shared → Prop} {Q : Value → Shared → Prop}, Q (.ref hp.objs.size) ⟨hp.push o, g, d, tk, os⟩ →
      wpAny (model prog w) A' (pyIter v) Q E ⟨hp, g, d, tk, os⟩ := fun q => B.iter prog w _ _ ⟨hp, g, d, tk, os⟩ _ h1 q
  wp_walk using q1
  refine wpAny_stack_any fun st => wpAny_pure ?_
  split
  · rename_i c _ _ _ _ _
    cases (c == Value.type "enumerate") <;>
      (wp_walk using q1
       exact ⟨_, rfl, h⟩)
  · wp_walk using q1
    exact ⟨_, rfl, h⟩
section
variable {prog : Program} {w : World} {A : Around} {E : Value → Shared → Prop} {s : Shared}
theorem enum1_begins {v : Value} {o : Obj} {H : Heap → Prop} {Q : Value → Shared → Prop} (B : Begins v o H) (h1 : H s.heap)
    (h : ∀ h', IsEnum h' (s.heap.objs.size + 1) s.heap.objs.size 0 .none → h'.get? s.heap.objs.size = some o →
      (∀ b o, s.heap.get? b = some o → h'.get? b = some o) → Q (.ref (s.heap.objs.size + 1)) { s with heap := h' }) :
    wpAny (model prog w) A (call (.type "enumerate") [v]) Q E s := by
  refine callType_new F.called_enumerate (by decide) (F.typeCall_enumerate_1 _) (F.newCall_enumerate_1 _) (fun obj => F.args_object_init_2 obj _) F.entry_enumerate_new (meets_enum1 B) ⟨h1, ?_⟩
  have hz : (s.heap.push o).objs.size = s.heap.objs.size + 1 := Heap.size_push ..
  show _ ∧ _
  rw [hz]
  have he : IsEnum ((s.heap.push o).push { cls := .type "enumerate", data := .fields #[.none, .bool false, .ref s.heap.objs.size, rawInt 0, .none, .none] })
      (s.heap.objs.size + 1) s.heap.objs.size 0 .none := by
    have q := Heap.get?_push_size (s.heap.push o) (o := { cls := .type "enumerate", data := .fields #[.none, .bool false, .ref s.heap.objs.size, rawInt 0, .none, .none] }) rfl
    rw [hz] at q
    exact q
  exact ⟨⟨_, he, rfl⟩, h _ he (Heap.get?_push_of_some _ (Heap.get?_push_size _ B.free)) fun b o x => Heap.get?_push_of_some _ (Heap.get?_push_of_some _ x)⟩
end

/-- the tuple at a, of n items, numbered, in new pairs -/
def IteT (K : PySem.W.Frag) (a : Addr) (n : Nat) : It :=
  ⟨fun i H => ∃ xs x, SqT K H a xs ∧ xs.length = n ∧ xs[i]? = some x,
   fun i H v H' => ∃ T x, v = .ref T ∧ H T = none ∧ H' = upd H T (.tup [.int (i : Nat), x]) ∧ ∀ xs, SqT K H a xs → xs[i]? = some x,
   fun i H => ∃ xs, SqT K H a xs ∧ xs.length = n ∧ n ≤ i⟩
theorem tup_inj {X : Cx} {pins : List (Addr × Obj)} {σ : L2.St} {H : Hp} {s : Shared} {a : Addr} {xs ys : List V} (I : Inv X pins σ H s) (h : SqT X.K H a xs) (h' : SqT X.K H a ys) : xs = ys := by
  obtain ⟨its, r, ⟨o, e, _, n, d⟩, _⟩ := I.tuple h
  obtain ⟨its', r', ⟨o', e', _, n', d'⟩, _⟩ := I.tuple h'
  rw [e] at e'
  cases e'
  rw [d] at d'
  injection d' with d1 _
  have z : its = its' := by simpa using congrArg Array.toList d1
  subst z
  exact r.inj r'
theorem turn_enumT {P : Program} {w : World} {K : PySem.W.Frag} {elts : List Expr} {kk n : Nat} {tpos : Pos} (a e it : Addr) :
    Turn P w K (.Tuple elts kk tpos) (IteT K a n) [e, it] e (fun i h => (∃ old, IsEnum h e it ((i : Nat) : Int) old) ∧ h.IsTupleIter it a i ∧ e ≠ it ∧ i ≤ n) where
  mem := by simp
  obj := fun i h st b hb => by
    obtain ⟨⟨old, he⟩, ⟨o, ho, hc, hd⟩, _⟩ := st
    have e' : b = e ∨ b = it := by simpa using hb
    rcases e' with z | z
    · rw [z]
      exact ⟨_, he, fun v q => nomatch q⟩
    · rw [z]
      exact ⟨o, ho, fun v q => by rw [hd] at q; cases q⟩
  keep := fun i h h' st k => by
    obtain ⟨⟨old, he⟩, hi, hne, hn⟩ := st
    exact ⟨⟨old, k e (by simp) _ he⟩, hi.at fun o q => k it (by simp) o q, hne, hn⟩
  item := by
    intro X hP hw hK hc i pins s σ H E I hf st hg
    subst hP hw hK
    obtain ⟨⟨old, he⟩, hit, hne, hn⟩ := st
    obtain ⟨xs, x, hq, hlen, hx⟩ := hg
    obtain ⟨its, rv, p, hz⟩ := I.tuple hq
    obtain ⟨u, hu, ru⟩ := rv.get hx
    have hel : e < s.heap.objs.size := Heap.lt_size he
    have hil : it < s.heap.objs.size := by
      obtain ⟨_, q, _⟩ := hit
      exact Heap.lt_size q
    have pT : s.heap.IsTuple a its.toArray := p
    have hae : e ≠ a := by
      rintro rfl
      obtain ⟨o, eo, co, _⟩ := pT
      rw [show s.heap.get? e = _ from he] at eo
      cases eo
      injection co with z
      exact absurd z (by decide)
    have hai : a ≠ it := by
      rintro rfl
      obtain ⟨o, eo, co, _⟩ := pT
      obtain ⟨o2, e2, c2, _⟩ := hit
      rw [eo] at e2
      cases e2
      rw [co] at c2
      injection c2 with z
      exact absurd z (by decide)
    have hlt : i < its.toArray.size := by
      have := rv.length
      have := (List.getElem?_eq_some_iff.mp hx).1
      simp
      omega
    refine wpAny_pyNext_enum_itemD (Draws.tuple (show X.A.in1.handled = none from I.ok.hd hc) it a hai its.toArray) he ⟨hit, pT⟩ hlt hne (by simp [hne, hae]) fun x' h' tk hx' ho st' hT hsz hk => ?_
    have ex : x' = u := by
      have : its[i]? = some x' := by simpa using hx'
      rw [hu] at this
      exact (Option.some.inj this).symm
    subst ex
    refine ⟨_, rfl, wpAny_letOwnedTupleGo_enum (s := { s with heap := h', toks := tk + 1 }) ho fun h'' he' sb => ?_⟩
    have hT2 : h''.get? s.heap.objs.size = some { cls := .type "tuple", data := .seq #[.int i tk, x'] } := (sb.2 _ (Nat.ne_of_gt hel)).trans hT
    have new : ObjOk X.prog X.w (upd H s.heap.objs.size (.tup [.int (i : Nat), x])) h'' s.heap.objs.size (.tup [.int (i : Nat), x]) :=
      ⟨by show 2 ≤ sizeLine; decide, [.int i tk, x'], .cons ⟨_, rfl⟩ (.cons ru .nil), ⟨_, hT2, rfl, _, rfl⟩⟩
    have I1 : Inv X pins σ (upd H s.heap.objs.size (.tup [.int (i : Nat), x])) { s with heap := h'', toks := tk + 1 } :=
      I.turnedNew (ch := [e, it]) (fun b ob hb q => (sb.2 b (fun z => hb (by simp [z]))).trans (hk b ob (fun z => hb (by simp [z])) (fun z => hb (by simp [z])) q)) hf (Nat.le_refl _) new
    refine ⟨.ref s.heap.objs.size, _, I1, rfl, ⟨_, x, rfl, I.hok.fresh (Nat.le_refl _), rfl, fun ys hy => by rw [tup_inj I hy hq]; exact hx⟩, ⟨⟨x', ?_⟩, st'.1.at fun o q => (sb.2 it (Ne.symm hne)).trans q, hne, ?_⟩, fun b hb => ?_⟩
    · have e1 : ((i + 1 : Nat) : Int) = (i : Int) + 1 := by omega
      rw [e1]
      exact he'
    · have := (List.getElem?_eq_some_iff.mp hx).1
      omega
    · have hb' : b < s.heap.objs.size := by
        have e' : b = e ∨ b = it := by simpa using hb
        rcases e' with z | z
        · rw [z]; exact hel
        · rw [z]; exact hil
      rw [upd_ne (Nat.ne_of_lt hb')]
      exact (hf b hb).1
  done := by
    intro X hP hw hK hc i pins s σ H E I hf st hg
    subst hP hw hK
    obtain ⟨⟨old, he⟩, hit, hne, hn⟩ := st
    obtain ⟨xs, hq, hlen, hx⟩ := hg
    obtain ⟨its, rv, p, hz⟩ := I.tuple hq
    have pT : s.heap.IsTuple a its.toArray := p
    have hai : a ≠ it := by
      rintro rfl
      obtain ⟨o, eo, co, _⟩ := pT
      obtain ⟨o2, e2, c2, _⟩ := hit
      rw [eo] at e2
      cases e2
      rw [co] at c2
      injection c2 with z
      exact absurd z (by decide)
    have hi : its.toArray.size = i := by
      have := rv.length
      simp
      omega
    obtain ⟨f0, f1, f2, f3, f4, f5⟩ := hf it (by simp)
    exact wpAny_pyNext_enum_endD (Draws.tuple (show X.A.in1.handled = none from I.ok.hd hc) it a hai its.toArray) he (by rw [hi]; exact ⟨hit, pT⟩) fun h' eb => ⟨rfl, I.turned (t' := s.toks) (fun b o hb q => eb b o hb q) f0 f1 f3 f4 f5⟩
  self := fun A i s Q E st h => let ⟨⟨_, he⟩, _⟩ := st; wpAny_pyIter_enum he h
def iEnumT (K : PySem.W.Frag) (ta : TA) : TI := fun σ H R => ta σ H fun vs H1 => ∃ a xs, vs = [.ref a] ∧ SqT K H1 a xs ∧ R (IteT K a xs.length) H1
theorem pi_enumA {X : Cx} {e : Expr} {ta : TA} {p pos tpos : Pos} {elts : List Expr} {kk : Nat} (hg : Gl X "enumerate") (hm : X.mg "enumerate" = none) (ha : PA X [e] ta) (hs : starEach [e] X.env = [(false, eval e X.env)] := by rfl) :
    PI X (.Tuple elts kk tpos) (.Call (.Name "enumerate" p) [e] [] pos) (fun σ H R => ta σ H fun vs H1 => (∃ a xs, vs = [.ref a] ∧ SqL X.K H1 a xs ∧ R (Ite X.K a) H1) ∨ ∃ a xs, vs = [.ref a] ∧ SqT X.K H1 a xs ∧ R (IteT X.K a xs.length) H1) := by
  refine ⟨fun pins s σ H R I h => ?_⟩
  refine Call_ (ld_blt I hg hm boot_enumerate (PyProof.Rows.callWith_type1 (thn (ha.run pos pins s σ H _ I h) fun us s1 ⟨vs, H1, I1, r1, q1⟩ => ?_) hs rfl))
  rcases q1 with ⟨a, xs, ex, hq, q⟩ | ⟨a, xs, ex, hq, q⟩
  · subst ex
    cases r1 with
    | cons r rr =>
      cases rr
      cases r
      obtain ⟨its, rv, p', hz⟩ := I1.list hq
      refine call_enumerate_list p'.isList fun h' he hit hsz hk => wpAny_pyIter_enum he ?_
      have I2 : Inv X pins σ H1 { s1 with heap := h' } := I1.kept (t' := s1.toks) hk
      refine ⟨s1.heap.objs.size + 1, [s1.heap.objs.size + 1, s1.heap.objs.size], _, _, H1, rfl, I2, turn_enum a (s1.heap.objs.size + 1) s1.heap.objs.size, ⟨⟨.none, he⟩, hit, Nat.succ_ne_self _⟩, fun b hb => ?_, q⟩
      have hle : s1.heap.objs.size ≤ b := by
        rcases (show b = s1.heap.objs.size + 1 ∨ b = s1.heap.objs.size by simpa using hb) with z | z <;> rw [z]
        · exact Nat.le_add_right _ _
        · exact Nat.le_refl _
      exact I1.fpOk hle (I1.hok.fresh hle)
  · subst ex
    cases r1 with
    | cons r rr =>
      cases rr
      cases r
      obtain ⟨its, rv, p', hz⟩ := I1.tuple hq
      refine enum1_begins (begins_tuple a its.toArray) p' fun h' he hit hk => wpAny_pyIter_enum he ?_
      have I2 : Inv X pins σ H1 { s1 with heap := h' } := I1.kept (t' := s1.toks) hk
      refine ⟨s1.heap.objs.size + 1, [s1.heap.objs.size + 1, s1.heap.objs.size], _, _, H1, rfl, I2, turn_enumT (n := xs.length) a (s1.heap.objs.size + 1) s1.heap.objs.size, ⟨⟨.none, he⟩, ⟨_, hit, rfl, rfl⟩, Nat.succ_ne_self _, Nat.zero_le _⟩, fun b hb => ?_, q⟩
      have hle : s1.heap.objs.size ≤ b := by
        rcases (show b = s1.heap.objs.size + 1 ∨ b = s1.heap.objs.size by simpa using hb) with z | z <;> rw [z]
        · exact Nat.le_add_right _ _
        · exact Nat.le_refl _
      exact I1.fpOk hle (I1.hok.fresh hle)
end Vq

/-! Part 9: list(reversed(xs)), sums and extremes of tuples, repr. -/
namespace Vq
open PySem PySem.Spec PyProof.Rows L2
section
variable {prog : Program} {w : World} {A : Around} {E : Value → Shared → Prop} {s : Shared}
theorem init_rev {R : Result → Shared → Prop} {it l S : Addr} {items : Array Value} (hh : A.handled = none) (hit : s.heap.IsRevIter it l ((items.size : Int) - 1)) (hl : s.heap.IsList l items) (hne : l ≠ it) (hn : items.size ≤ sizeLine)
    (hS : s.heap.get? S = some { cls := .type "list", data := .seq #[] }) (hSi : S ≠ it) (hSl : S ≠ l)
    (hR : ∀ (h' : Heap) (tk : Nat) (acc : Array Value) (c : Nat), (∀ b o, b ≠ it → b ≠ S → s.heap.get? b = some o → h'.get? b = some o) → h'.get? S = some { cls := .type "list", dict := none, data := .seq acc c, slots := #[] } →
      ItemsOf (fun i v => items[items.size - 1 - i]? = some v) acc items.size → R (.ok (.ret .none)) { s with heap := h', toks := tk }) :
    wpAny (model prog w) A.in1 (Builtin.«list.__init__» ⟨[.ref S, .ref it], []⟩)
      (fun fin s' => match fin with | .done f => R (.ok f) s' | .again c' => c'.quiet = true ∧ codeAny (model prog w) A c' R s') (fun e s' => R (.error e) s') s := by
  have Wk := (Walks.listRev (prog := prog) (w := w) (A := A.in1) hh it l hne items).toS
  have hSf : S ∉ [it, l] := by
    simp only [List.mem_cons, List.not_mem_nil, or_false, not_or]
    exact ⟨hSi, hSl⟩
  show wpAny _ A.in1 (do let old ← Builtin.List.listItems (.ref S); Builtin.List.listUpdate (.ref S) (fun _ => #[]); letGo old.toList.reverse; Builtin.List.listExtendWith (.ref S) (.ref it) .none) _ _ s
  refine wpAny_bind ?_
  unfold Builtin.List.listItems
  refine wpAny_bind (wpAny_seqItems hS rfl (wpAny_pure ?_))
  show wpAny _ A.in1 (updateSeq S (fun _ => #[]) >>= fun _ => letGo (#[] : Array Value).toList.reverse >>= fun _ => Builtin.List.listExtendWith (.ref S) (.ref it) .none) _ _ s
  refine wpAny_bind (wpAny_updateSeq hS rfl ?_)
  have hS₂ := Heap.get?_update_self (Obj.mapSeq (fun _ => (#[] : Array Value))) hS rfl
  have oth : ∀ b o, b ≠ S → s.heap.get? b = some o → (s.heap.update S (Obj.mapSeq (fun _ => (#[] : Array Value)))).get? b = some o :=
    fun b o hb e => (Heap.get?_update_other _ _ (Ne.symm hb)).trans e
  refine wpAny_bind (wpAny_letGo ?_)
  generalize hG : s.heap.update S (Obj.mapSeq (fun _ => (#[] : Array Value))) = G at hS₂ oth ⊢
  have hit1 : G.IsRevIter it l ((items.size : Int) - 1) := hit.at fun o e => oth _ _ (Ne.symm hSi) e
  have hl1 : G.IsList l items := hl.at fun o e => oth _ _ (Ne.symm hSl) e
  have hT : ({ s with heap := G } : Shared).TypeIs (.ref it) "list_reverseiterator" := Heap.IsRevIter.typeIs (s := { s with heap := G }) hit1
  have h1 : Builtin.List.listSameRef (.ref S) (.ref it) = false := by simp [Builtin.List.listSameRef, hSi]
  unfold Builtin.List.listExtendWith
  refine wpAny_bind (wpAny_typeOf hT ?_)
  rw [if_neg (by rw [h1]; decide)]
  refine wpAny_bind (wpAny_pyIter_revIter (s := { s with heap := G }) hit1 ?_)
  refine wpAny_bind (wpAny_holding ?_)
  unfold Builtin.List.listLengthHint
  refine wpAny_bind (wpAny_specialOf hT RT.nolen_lri ?_)
  show wpAny _ A.in1 (specialOf (Value.ref it) (Str.ofString "__length_hint__") >>= _) _ _ _
  refine wpAny_bind (wpAny_specialOf hT RT.hint_lri ?_)
  generalize hid : ("list_reverseiterator.__length_hint__" : String) = id0
  wp_delta
  rw [show splitId id0 = some ("list_reverseiterator", "__length_hint__") from by subst hid; decide +kernel]
  subst hid
  refine wpAny_bind (wpAny_isInstance (b := true) hT (by rw [isSubtype_type]; kernel_rfl) ?_)
  refine wpAny_pure ?_
  rw [if_neg (by decide)]
  have e0 : ((items.size : Nat) : Int) - 1 - ((0 : Nat) : Int) = (items.size : Int) - 1 := by omega
  refine wpAny_pure ⟨plainId_quiet F.plain_extend_loop _, codeAny_extend_loopS Wk hn _ hSf _ items.size 0 _ _ _ rfl (Nat.zero_le _) ⟨Nat.zero_le _, by rw [e0]; exact hit1, hl1⟩ hS₂ (ItemsOf.nil _) fun s' acc' c' hm hS' hacc => ?_⟩
  rw [Moved.eq_with hm]
  refine hR s'.heap s'.toks acc' c' (fun b o hb hb2 e => hm.heap b o (fun hmem => ?_) (oth b o hb2 e)) hS' hacc
  rcases List.mem_cons.mp hmem with e' | hmem
  · exact hb2 e'
  · exact hb (by simpa using hmem)
theorem call_list_rev {it l : Addr} {items : Array Value} {Q : Value → Shared → Prop} (hh : A.handled = none) (hit : s.heap.IsRevIter it l ((items.size : Int) - 1)) (hl : s.heap.IsList l items) (hne : l ≠ it) (hn : items.size ≤ sizeLine)
    (hQ : ∀ (h' : Heap) (tk : Nat) (acc : Array Value) (c : Nat), (∀ b o, b ≠ it → s.heap.get? b = some o → h'.get? b = some o) → h'.get? s.heap.objs.size = some { cls := .type "list", dict := none, data := .seq acc c, slots := #[] } →
      ItemsOf (fun i v => items[items.size - 1 - i]? = some v) acc items.size → Q (.ref s.heap.objs.size) { s with heap := h', toks := tk }) :
    wpAny (model prog w) A (call (.type "list") [.ref it]) Q E s := by
  obtain ⟨oi, hoi, _⟩ := id hit
  obtain ⟨ol, hol, _⟩ := id hl
  have hSi : s.heap.objs.size ≠ it := Nat.ne_of_gt (Heap.lt_size hoi)
  have hSl : s.heap.objs.size ≠ l := Nat.ne_of_gt (Heap.lt_size hol)
  refine callType_codes (Q₁ := fun obj s₁ => obj = .ref s.heap.objs.size ∧ s₁ = { s with heap := s.heap.push { cls := .type "list", data := .seq #[] } }) F.called_list (F.typeCall_list_1 _) F.entry_list_init
    (code_list_new _ ⟨rfl, rfl⟩) fun obj s₁ h₁ => ?_
  obtain ⟨rfl, rfl⟩ := h₁
  have hS : (s.heap.push { cls := .type "list", data := .seq #[] }).get? s.heap.objs.size = some { cls := .type "list", data := .seq #[] } := Heap.get?_push_size _ rfl
  refine ⟨⟨_, hS, rfl⟩, F.args_list_init_2 _ _, init_rev (s := { s with heap := s.heap.push { cls := .type "list", data := .seq #[] } }) hh (hit.at fun o e => Heap.get?_push_of_some _ e) (hl.push _) hne hn hS hSi hSl fun h' tk acc c k e i => ?_⟩
  exact ⟨rfl, hQ h' tk acc c (fun b o hb q => k b o hb (fun z => by
    rw [z] at q
    exact absurd (Heap.lt_size q) (Nat.lt_irrefl _)) (Heap.get?_push_of_some _ q)) e i⟩
end

theorem vals_reverse : ∀ {xs : List V} {us : List Value}, Vals xs us → Vals xs.reverse us.reverse
  | _, _, .nil => .nil
  | _, _, .cons h t => by
    simp only [List.reverse_cons]
    exact (vals_reverse t).append (.cons h .nil)
section
variable {X : Cx} {e : Expr} {ta : TA} {p p2 pos pos2 : Pos}
/-- list(reversed(e)) -/
def tLRev (K : PySem.W.Frag) (ta : TA) : TE := fun σ H Q => ta σ H fun vs H1 => ∃ a xs, vs = [.ref a] ∧ SqL K H1 a xs ∧ ∀ q, H1 q = none → Q (.ref q) (upd H1 q (.lst xs.reverse))
theorem pe_listRev (hc : X.calm = true) (ha : PA X [e] ta) (hg : Gl X "list") (hm : X.mg "list" = none) (hg2 : Gl X "reversed") (hm2 : X.mg "reversed" = none)
    (hs1 : starEach [Expr.Call (.Name "reversed" p2) [e] [] pos2] X.env = [(false, eval (Expr.Call (.Name "reversed" p2) [e] [] pos2) X.env)] := by rfl)
    (hs : starEach [e] X.env = [(false, eval e X.env)] := by rfl) :
    PE X (.Call (.Name "list" p) [.Call (.Name "reversed" p2) [e] [] pos2] [] pos) (tLRev X.K ta) := by
  refine ⟨fun pins s σ H Q I h => ?_⟩
  refine Call_ (ld_blt I hg hm (u := .type "list") (by decide +kernel) (PyProof.Rows.callWith_type1 ?_ hs1 rfl))
  rw [hs1]
  refine Calls.spliced_cons (Call_ (ld_blt I hg2 hm2 (u := .type "reversed") (by decide +kernel) (PyProof.Rows.callWith_type1 (thn (ha.run pos2 pins s σ H _ I h) fun us s1 ⟨vs, H1, I1, r1, q1⟩ => ?_) hs rfl)))
  obtain ⟨a, xs, ex, hq, q⟩ := q1
  subst ex
  cases r1 with
  | cons r rr =>
    cases rr
    cases r
    obtain ⟨its, rv, p', hz⟩ := I1.list hq
    have hl := rv.length
    refine call_reversed_list p'.isList (Calls.spliced_nil ?_)
    have kp : ∀ b u, s1.heap.get? b = some u → (s1.heap.push (revObj a ((its.toArray.size : Int) - 1))).get? b = some u := fun b u z => Heap.get?_push_of_some _ z
    have I2 : Inv X pins σ H1 { s1 with heap := s1.heap.push (revObj a ((its.toArray.size : Int) - 1)) } := I1.kept (t' := s1.toks) kp
    have ne : a ≠ s1.heap.objs.size := by
      obtain ⟨o, z, _⟩ := p'.isList
      exact Nat.ne_of_lt (Heap.lt_size z)
    have F : FpOk X pins H1 s1.heap.objs.size := I1.fpOk (Nat.le_refl _) (I1.hok.fresh (Nat.le_refl _))
    refine call_list_rev (s := { s1 with heap := s1.heap.push (revObj a ((its.toArray.size : Int) - 1)) }) (it := s1.heap.objs.size) (l := a) (items := its.toArray) (I1.ok.hd hc) ⟨_, Heap.get?_push_size _ rfl, rfl, rfl⟩ (p'.isList.push _) ne (by simp; omega)
      fun h' tk acc c k en ie => ?_
    have eacc : acc.toList = its.reverse := by
      apply List.ext_getElem?
      intro j
      by_cases hj : j < its.length
      · have hj' : j < acc.size := by
          have := ie.1
          simp at this
          omega
        have z := ie.2 j acc[j] (by simp [hj'])
        rw [Array.getElem?_toList, Array.getElem?_eq_getElem hj', List.getElem?_reverse hj]
        rw [← z]
        simp
      · rw [List.getElem?_eq_none (by have := ie.1; simp at this; simp; omega), List.getElem?_eq_none (by simp; omega)]
    have hfresh : H1 (s1.heap.push (revObj a ((its.toArray.size : Int) - 1))).objs.size = none := I2.hok.fresh (Nat.le_refl _)
    refine ⟨.ref (s1.heap.push (revObj a ((its.toArray.size : Int) - 1))).objs.size, upd H1 (s1.heap.push (revObj a ((its.toArray.size : Int) - 1))).objs.size (.lst xs.reverse), I2.turnedNew (h' := h') (t' := tk) (ch := [s1.heap.objs.size]) (fun b o hb z => k b o (by simpa using hb) z) (fun b hb => ?_) (Nat.le_refl _) ?_, rfl, q _ hfresh⟩
    · rw [show b = s1.heap.objs.size by simpa using hb]
      exact F
    · refine ⟨by rw [List.length_reverse]; exact hz, its.reverse, c, ?_, ?_⟩
      · exact vals_reverse rv
      · rw [← eacc]
        simpa using en
end

/-! ### sums and extremes of tuples -/
section
variable {prog : Program} {w : World} {A : Around} {E : Value → Shared → Prop} {s : Shared}
theorem ext_old {o : Obj} {h' : Heap} (hk : ∀ b u, b ∉ [s.heap.objs.size] → (s.heap.push o).get? b = some u → h'.get? b = some u) : ∀ b u, s.heap.get? b = some u → h'.get? b = some u := fun b u e =>
  hk b u (fun z => by
    have z' : b = s.heap.objs.size := by simpa using z
    rw [z'] at e
    exact Nat.lt_irrefl _ (Heap.lt_size e)) (Heap.get?_push_of_some _ e)
theorem ints_pack {us : List Value} {ns : List Int} (hi : IntsAre us ns) : ∃ xs : Array (Int × Tok), us.toArray = intItems xs ∧ xs.toList.map (·.1) = ns := by
  induction hi with
  | nil => exact ⟨#[], by simp [intItems], rfl⟩
  | cons n t r ih =>
    obtain ⟨xs, e1, e2⟩ := ih
    refine ⟨#[(n, t)] ++ xs, ?_, by simp [e2]⟩
    apply Array.toList_inj.mp
    have e3 := congrArg Array.toList e1
    simp [intItems] at e3 ⊢
    exact e3
theorem ext_tuple {id : String} {l : Addr} {us : List Value} {ns : List Int} {Q : Value → Shared → Prop} (hh : A.handled = none) (hl : s.heap.IsTuple l us.toArray) (hi : IntsAre us ns) (hne : ns ≠ [])
    (hid : id = "max" ∧ (∀ M h' tk t', M ∈ ns → (∀ a, a ∈ ns → a ≤ M) → (∀ b o, s.heap.get? b = some o → h'.get? b = some o) → Q (.int M t') { s with heap := h', toks := tk }) ∨
      id = "min" ∧ (∀ M h' tk t', M ∈ ns → (∀ a, a ∈ ns → M ≤ a) → (∀ b o, s.heap.get? b = some o → h'.get? b = some o) → Q (.int M t') { s with heap := h', toks := tk })) :
    wpAny (model prog w) A (call (.builtin id) [.ref l]) Q E s := by
  obtain ⟨xs, e1, e2⟩ := ints_pack hi
  rw [e1] at hl
  have hsz : 0 < xs.size := by
    have : ns.length = xs.size := by rw [← e2]; simp
    have : ns.length ≠ 0 := by simpa using hne
    omega
  have hlt : l < s.heap.objs.size := by
    obtain ⟨_, z, _⟩ := hl
    exact Heap.lt_size z
  have low : ∀ b ∈ [s.heap.objs.size, l], b < (s.heap.push { cls := .type "tuple_iterator", data := .fields #[.ref l, .int 0 0] }).objs.size := fun b hb => by
    rw [Heap.size_push]
    rcases (show b = s.heap.objs.size ∨ b = l by simpa using hb) with z | z <;> rw [z]
    · exact Nat.lt_succ_self _
    · exact Nat.lt_succ_of_lt hlt
  have hit : (s.heap.push { cls := .type "tuple_iterator", data := .fields #[.ref l, .int 0 0] }).IsTupleIter s.heap.objs.size l 0 := ⟨_, Heap.get?_push_size _ rfl, rfl, rfl⟩
  rcases hid with ⟨rfl, h⟩ | ⟨rfl, h⟩
  · refine call_max_walk (wpAny_pyIter_tuple hl ?_)
    refine ⟨_, _, _, _, _, _, _, rfl, Walks.tuple (A := A.in1) hh _ l (Nat.ne_of_lt hlt) (intItems xs), ⟨hit, hl.push _⟩, low, by simpa [intItems] using hsz, CmpOf.ints_gt (numAt xs) (fun _ _ => intItems_at), fun v h' tk hP hk => ?_⟩
    obtain ⟨t, rfl⟩ := intItems_at hP
    obtain ⟨g1, g2⟩ := argBest_gt (numAt xs) (xs.size - 1)
    have sz : (intItems xs).size = xs.size := by simp [intItems]
    rw [sz]
    refine h _ h' tk t ?_ (fun a ha => ?_) (ext_old hk)
    · rw [← e2, numAt_eq]
      exact PySem.getD_mem (by rw [List.length_map, Array.length_toList]; omega)
    · rw [← e2] at ha
      obtain ⟨j, hj, rfl⟩ := mem_getD ha
      rw [List.length_map, Array.length_toList] at hj
      rw [← numAt_eq]
      exact g2 j (by omega)
  · refine call_min_walk (wpAny_pyIter_tuple hl ?_)
    refine ⟨_, _, _, _, _, _, _, rfl, Walks.tuple (A := A.in1) hh _ l (Nat.ne_of_lt hlt) (intItems xs), ⟨hit, hl.push _⟩, low, by simpa [intItems] using hsz, CmpOf.ints_lt (numAt xs) (fun _ _ => intItems_at), fun v h' tk hP hk => ?_⟩
    obtain ⟨t, rfl⟩ := intItems_at hP
    obtain ⟨g1, g2⟩ := argBest_lt (numAt xs) (xs.size - 1)
    have sz : (intItems xs).size = xs.size := by simp [intItems]
    rw [sz]
    refine h _ h' tk t ?_ (fun a ha => ?_) (ext_old hk)
    · rw [← e2, numAt_eq]
      exact PySem.getD_mem (by rw [List.length_map, Array.length_toList]; omega)
    · rw [← e2] at ha
      obtain ⟨j, hj, rfl⟩ := mem_getD ha
      rw [List.length_map, Array.length_toList] at hj
      rw [← numAt_eq]
      exact g2 j (by omega)
theorem preSum_getD (ns : List Int) : ∀ j, preSum (fun i => ns.getD i 0) j = (ns.take j).sum
  | 0 => rfl
  | j + 1 => by
    rw [preSum, preSum_getD ns j]
    by_cases h : j < ns.length
    · rw [List.take_succ, List.sum_append]
      simp [h]
    · rw [List.take_of_length_le (by omega), List.take_of_length_le (by omega)]
      simp [List.getD, List.getElem?_eq_none (show ns.length ≤ j by omega)]
theorem sum_tuple {l : Addr} {us : List Value} {ns : List Int} {Q : Value → Shared → Prop} (hh : A.handled = none) (hl : s.heap.IsTuple l us.toArray) (hi : IntsAre us ns)
    (h : ∀ h' tk t, (∀ b o, s.heap.get? b = some o → h'.get? b = some o) → Q (.int ns.sum t) { s with heap := h', toks := tk }) :
    wpAny (model prog w) A (call (.builtin "sum") [.ref l]) Q E s := by
  refine call_sum_walkAnyS (PySem.W.iter_tupleW (A := A.in1) hh hl fun s₂ e W st hfp hw hk => ?_)
  refine ⟨_, _, _, _, _, _, _, fun i => ns.getD i 0, rfl, W, st, hfp, fun i v q => ?_, fun s' t' m => ?_⟩
  · have q' : us[i]? = some v := by simpa using q
    clear q W hl h st
    induction hi generalizing i with
    | nil => simp at q'
    | cons n t r ih =>
      cases i with
      | zero =>
        simp at q'
        subst q'
        exact ⟨t, rfl⟩
      | succ i =>
        simp at q'
        simpa using ih i q'
  · obtain ⟨h', tk, rfl, hk'⟩ := PySem.W.moved_old e rfl m
    have e2 : preSum (fun i => ns.getD i 0) us.toArray.size = ns.sum := by
      rw [preSum_getD]
      have := hi.length
      rw [List.take_of_length_le (by simp; omega)]
    rw [e2]
    exact h h' tk t' hk'
end
end Vq

/-! Part 10: iterables; built-ins, methods, stores and slices by values. -/
namespace Vq
open PySem PySem.Spec PyProof.Rows L2

/-! ### what arguments are -/
def intD : D → Option Int
  | .int i => some i
  | _ => none
def one : List D → Option D
  | [d] => some d
  | _ => none
def two : List D → Option (D × D)
  | [d, e] => some (d, e)
  | _ => none
def int1 (l : List D) : Option Int := (one l).bind intD
def int2 (l : List D) : Option (Int × Int) := (two l).bind fun p => (intD p.1).bind fun i => (intD p.2).map fun j => (i, j)
def int3 : List D → Option (Int × Int × Int)
  | [.int i, .int j, .int k] => some (i, j, k)
  | _ => none
section
variable {K : PySem.W.Frag} {w : Wd}
theorem intD_rp {d : D} {v : V} {i : Int} (r : Rp K w d v) (e : intD d = some i) : d = .int i ∧ v = .int i := by
  cases r with
  | int j => cases e; exact ⟨rfl, rfl⟩
  | _ => cases e
theorem one_rps {ds : List D} {vs : List V} {d : D} (r : Rps K w ds vs) (e : one ds = some d) : ∃ v, ds = [d] ∧ vs = [v] ∧ Rp K w d v := by
  cases r with
  | nil => cases e
  | cons r rr =>
    cases rr with
    | nil => cases e; exact ⟨_, rfl, rfl, r⟩
    | cons _ _ => cases e
theorem two_rps {ds : List D} {vs : List V} {p : D × D} (r : Rps K w ds vs) (e : two ds = some p) : ∃ v u, ds = [p.1, p.2] ∧ vs = [v, u] ∧ Rp K w p.1 v ∧ Rp K w p.2 u := by
  cases r with
  | nil => cases e
  | cons r rr =>
    cases rr with
    | nil => cases e
    | cons r2 rr =>
      cases rr with
      | nil => cases e; exact ⟨_, _, rfl, rfl, r, r2⟩
      | cons _ _ => cases e
theorem int1_rps {ds : List D} {vs : List V} {i : Int} (r : Rps K w ds vs) (e : int1 ds = some i) : vs = [.int i] := by
  obtain ⟨d, e1, e2⟩ := Option.bind_eq_some_iff.mp e
  obtain ⟨v, _, rfl, r'⟩ := one_rps r e1
  rw [(intD_rp r' e2).2]
theorem int2_rps {ds : List D} {vs : List V} {p : Int × Int} (r : Rps K w ds vs) (e : int2 ds = some p) : vs = [.int p.1, .int p.2] := by
  obtain ⟨d, e1, e2⟩ := Option.bind_eq_some_iff.mp e
  obtain ⟨i, e3, e4⟩ := Option.bind_eq_some_iff.mp e2
  obtain ⟨j, e5, rfl⟩ := Option.map_eq_some_iff.mp e4
  obtain ⟨v, u, _, rfl, r1, r2⟩ := two_rps r e1
  rw [(intD_rp r1 e3).2, (intD_rp r2 e5).2]
theorem int3_rps {ds : List D} {vs : List V} {p : Int × Int × Int} (r : Rps K w ds vs) (e : int3 ds = some p) : vs = [.int p.1, .int p.2.1, .int p.2.2] := by
  unfold int3 at e
  split at e
  · cases e
    cases r with
    | cons a r =>
      cases r with
      | cons b r =>
        cases r with
        | cons c r =>
          cases r
          cases a
          cases b
          cases c
          rfl
  · cases e
end

/-! ### iterables -/
section
variable {X : Cx} {W : WX}
def srcOf (d : D) : Option (VH → Option (List D)) := match d with
  | .tup l => some fun _ => some l
  | .ref n => some fun h => lk h n
  | _ => none
def vIt (f : VE) : VI := fun s h => (f s h).bind fun p => match srcOf p.1 with
  | some src => .ok (src, p.2)
  | none => .bad
theorem PI_or {tg e : Expr} {a b : TI} (h : PI X tg e a) (h' : PI X tg e b) : PI X tg e (fun σ H R => a σ H R ∨ b σ H R) := ⟨fun pins s σ H R I q => q.elim (h.run pins s σ H R I) (h'.run pins s σ H R I)⟩
theorem walks_lst {K : PySem.W.Frag} {w : Wd} {n : Nat} (hn : n < w.h.length) : Walks K w (Itl K (w.ι n)) (fun h => lk h n) := fun w' i ys x ok e => by
  obtain ⟨vs, h1, h2⟩ := lk_sq ok e
  rw [x.ι n hn] at h1
  refine ⟨fun q => ⟨vs, h1, by rw [← RepL.length h2]; exact List.getElem?_eq_none_iff.mp q⟩, fun d ed => ?_⟩
  obtain ⟨v, ev, rv⟩ := RepL.get h2 ed
  refine ⟨⟨vs, v, h1, ev⟩, fun x' H' ⟨eH, ex⟩ => ⟨w', eH.symm, rfl, ok, .refl w', ?_⟩⟩
  have z := ex vs h1
  rw [ev] at z
  cases z
  exact rv
/-- for x in e: a list or a tuple -/
theorem qIt {tg e : Expr} {f : VE} (he : PE X e (gE X W f)) : PI X tg e (gI X W (vIt f)) :=
  PIw (PI_or (pi_list he) (pi_tup he)) fun σ H R ⟨w, s, hH, ok, sl, hp⟩ => by
    subst hH
    unfold vIt at hp
    cases e1 : f s w.h with
    | bad => rw [e1] at hp; exact hp.elim
    | ex x s' h' => rw [e1] at hp; exact .inl ⟨w, s, rfl, ok, sl, by rw [e1]; exact hp⟩
    | ok p =>
      obtain ⟨d, h1⟩ := p
      rw [e1] at hp
      simp only [Res.ok_bind] at hp
      cases d with
      | tup ds =>
        refine .inr ⟨w, s, rfl, ok, sl, ?_⟩
        rw [e1]
        intro w1 v ok1 eh x1 r1
        have r1' : RepV X.K w1.ι w1.h.length w1.H (.tup ds) v := r1
        cases r1' with
        | @tup a vs _ hq rr =>
          refine ⟨a, rfl, ⟨vs, hq⟩, hp w1 _ ok1 eh x1 fun w' i ys x' ok' e' => ?_⟩
          cases e'
          have h' := x'.tup _ _ hq
          refine ⟨fun n => ⟨vs, h', by rw [← RepL.length rr]; exact List.getElem?_eq_none_iff.mp n⟩, fun d ed => ?_⟩
          obtain ⟨v, ev, rv⟩ := (x'.rps rr).get ed
          refine ⟨⟨vs, v, h', ev⟩, fun x2 H' ⟨eH, ex⟩ => ⟨w', eH.symm, rfl, ok', .refl w', ?_⟩⟩
          have z := ex vs h'
          rw [ev] at z
          cases z
          exact rv
      | ref n =>
        refine .inl ⟨w, s, rfl, ok, sl, ?_⟩
        rw [e1]
        intro w1 v ok1 eh x1 r1
        have r1' : RepV X.K w1.ι w1.h.length w1.H (.ref n) v := r1
        cases r1' with
        | ref hn =>
          have : ∃ ds, lk w1.h n = some ds := by
            unfold lk
            rw [List.getElem?_eq_getElem hn]
            cases w1.h[n] <;> exact ⟨_, rfl⟩
          obtain ⟨ds, eds⟩ := this
          obtain ⟨vs, h1, h2⟩ := lk_sq ok1 eds
          exact ⟨_, rfl, ⟨vs, h1⟩, hp w1 _ ok1 eh x1 (walks_lst hn)⟩
      | _ => exact hp.elim

def rangeD (lo c : Int) (n : Nat) : List D := (List.range n).map fun (k : Nat) => D.int (lo + (k : Int) * c)
theorem rangeD_length (lo c : Int) (n : Nat) : (rangeD lo c n).length = n := by simp [rangeD]
theorem rangeD_get (lo c : Int) (n i : Nat) : (rangeD lo c n)[i]? = if i < n then some (.int (lo + (i : Int) * c)) else none := by
  unfold rangeD
  rw [List.getElem?_map]
  by_cases h : i < n
  · rw [if_pos h, List.getElem?_range h]; rfl
  · rw [if_neg h, List.getElem?_eq_none (by simpa using Nat.le_of_not_lt h)]; rfl
theorem walks_rng {K : PySem.W.Frag} {w : Wd} (lo : Int) (n : Nat) : Walks K w (Itr lo n) (fun _ => some (rangeD lo 1 n)) := fun w' i ys x ok e => by
  cases e
  refine ⟨fun q => by have z := List.getElem?_eq_none_iff.mp q; rw [rangeD_length] at z; exact z, fun d ed => ?_⟩
  rw [rangeD_get] at ed
  by_cases h : i < n
  · rw [if_pos h] at ed
    cases ed
    refine ⟨h, fun x' H' ⟨eH, ex⟩ => ⟨w', eH.symm, rfl, ok, .refl w', ?_⟩⟩
    rw [ex, Int.mul_one]
    exact .int _
  · rw [if_neg h] at ed
    cases ed
theorem walks_rngc {K : PySem.W.Frag} {w : Wd} (lo c : Int) (n : Nat) : Walks K w (Itc lo c n) (fun _ => some (rangeD lo c n)) := fun w' i ys x ok e => by
  cases e
  refine ⟨fun q => by have z := List.getElem?_eq_none_iff.mp q; rw [rangeD_length] at z; exact z, fun d ed => ?_⟩
  rw [rangeD_get] at ed
  by_cases h : i < n
  · rw [if_pos h] at ed
    cases ed
    refine ⟨h, fun x' H' ⟨eH, ex⟩ => ⟨w', eH.symm, rfl, ok, .refl w', ?_⟩⟩
    rw [ex]
    exact .int _
  · rw [if_neg h] at ed
    cases ed
def inRng (i : Int) : Bool := decide (-(2 ^ 62) ≤ i ∧ i < 2 ^ 62)
def vRng1 (a : VA) : VI := fun s h => (a s h).bind fun p => match int1 p.1 with
  | some j => if inRng j = true then .ok (fun _ => some (rangeD 0 1 j.toNat), p.2) else .bad
  | none => .bad
def vRng2 (a : VA) : VI := fun s h => (a s h).bind fun p => match int2 p.1 with
  | some (i, j) => if (inRng i && inRng j) = true then .ok (fun _ => some (rangeD i 1 (j - i).toNat), p.2) else .bad
  | none => .bad
def rgcB (i j c : Int) : Bool := c != 0 && decide (c.natAbs < 1073741824) && Builtin.Range.small i j c && decide (0 ≤ Builtin.Range.rangeSize i j c)
def vRng3 (a : VA) : VI := fun s h => (a s h).bind fun p => match int3 p.1 with
  | some (i, j, c) => if rgcB i j c = true then .ok (fun _ => some (rangeD i c (Builtin.Range.rangeSize i j c).toNat), p.2) else .bad
  | none => .bad
theorem qRng1 {tg a : Expr} {p pos : Pos} {g : VA} (hm : X.mg "range" = none) (ha : PA X [a] (gA X W g)) (hg : Gl X "range" := by rfl) (hs : starEach [a] X.env = [(false, eval a X.env)] := by rfl) : PI X tg (.Call (.Name "range" p) [a] [] pos) (gI X W (vRng1 g)) :=
  PIw (pi_range1 hg hm ha hs) fun σ H R ⟨w, s, hH, ok, sl, hp⟩ => by
    subst hH
    refine gA.seq ok sl (wI w R) hp fun ds w1 vs ok1 x1 sl1 r1 hp1 => ?_
    simp only at hp1
    cases e : int1 ds with
    | none => rw [e] at hp1; exact hp1.elim
    | some j =>
      rw [e] at hp1
      simp only at hp1
      by_cases h : inRng j = true
      · rw [if_pos h] at hp1
        have h' : -(2 ^ 62) ≤ j ∧ j < 2 ^ 62 := by simpa [inRng] using h
        exact ⟨j, int1_rps r1 e, h'.1, h'.2, hp1 w1 _ ok1 rfl x1 (walks_rng 0 j.toNat)⟩
      · rw [if_neg h] at hp1
        exact hp1.elim
theorem qRng2 {tg a b : Expr} {p pos : Pos} {g : VA} (hm : X.mg "range" = none) (ha : PA X [a, b] (gA X W g)) (hg : Gl X "range" := by rfl) (hs : starEach [a, b] X.env = [(false, eval a X.env), (false, eval b X.env)] := by rfl) (hs2 : starEach [b] X.env = [(false, eval b X.env)] := by rfl) :
    PI X tg (.Call (.Name "range" p) [a, b] [] pos) (gI X W (vRng2 g)) :=
  PIw (pi_range2 hg hm ha hs hs2) fun σ H R ⟨w, s, hH, ok, sl, hp⟩ => by
    subst hH
    refine gA.seq ok sl (wI w R) hp fun ds w1 vs ok1 x1 sl1 r1 hp1 => ?_
    simp only at hp1
    cases e : int2 ds with
    | none => rw [e] at hp1; exact hp1.elim
    | some q =>
      obtain ⟨i, j⟩ := q
      rw [e] at hp1
      simp only at hp1
      by_cases h : (inRng i && inRng j) = true
      · rw [if_pos h] at hp1
        have h' : (-(2 ^ 62) ≤ i ∧ i < 2 ^ 62) ∧ -(2 ^ 62) ≤ j ∧ j < 2 ^ 62 := by simpa [inRng] using h
        exact ⟨i, j, int2_rps r1 e, ⟨h'.1.1, h'.1.2, h'.2.1, h'.2.2⟩, hp1 w1 _ ok1 rfl x1 (walks_rng i _)⟩
      · rw [if_neg h] at hp1
        exact hp1.elim
theorem qRng3 {tg a b c : Expr} {p pos : Pos} {g : VA} (hm : X.mg "range" = none) (ha : PA X [a, b, c] (gA X W g)) (h : ∀ t, PA X [a, b, c] t → PI X tg (.Call (.Name "range" p) [a, b, c] [] pos) (iRng3 t)) :
    PI X tg (.Call (.Name "range" p) [a, b, c] [] pos) (gI X W (vRng3 g)) :=
  PIw (h _ ha) fun σ H R ⟨w, s, hH, ok, sl, hp⟩ => by
    subst hH
    refine gA.seq ok sl (wI w R) hp fun ds w1 vs ok1 x1 sl1 r1 hp1 => ?_
    simp only at hp1
    cases e : int3 ds with
    | none => rw [e] at hp1; exact hp1.elim
    | some q =>
      obtain ⟨i, j, c⟩ := q
      rw [e] at hp1
      simp only at hp1
      by_cases h : rgcB i j c = true
      · rw [if_pos h] at hp1
        simp only [rgcB, Bool.and_eq_true, bne_iff_ne, decide_eq_true_eq] at h
        exact ⟨i, j, c, _, int3_rps r1 e, ⟨h.1.1.1, h.1.1.2, h.1.2, (Int.toNat_of_nonneg h.2).symm⟩, hp1 w1 _ ok1 rfl x1 (walks_rngc i c _)⟩
      · rw [if_neg h] at hp1
        exact hp1.elim

/-- numbered items -/
def enumD (l : List D) : List D := l.zipIdx.map fun p => .tup [.int (p.2 : Int), p.1]
theorem enumD_get (l : List D) (i : Nat) : (enumD l)[i]? = (l[i]?).map fun d => D.tup [.int (i : Int), d] := by
  unfold enumD
  rw [List.getElem?_map, List.getElem?_zipIdx]
  cases l[i]? <;> simp
theorem yields_pair {K : PySem.W.Frag} {w : Wd} (ok : w.Ok K) {T : Addr} {a b : D} {va vb : V} (hT : w.H T = none) (ra : Rp K w a va) (rb : Rp K w b vb) :
    ∃ w', w'.H = upd w.H T (.tup [va, vb]) ∧ w'.h = w.h ∧ w'.Ok K ∧ Wd.Ext K w w' ∧ Rp K w' (.tup [a, b]) (.ref T) :=
  ⟨w.tupAt T (.tup [va, vb]), rfl, rfl, ok.tupAt hT, Wd.ext_tupAt hT, .tup (SqT.of upd_same) (.cons ((Wd.ext_tupAt hT).rp ra) (.cons ((Wd.ext_tupAt hT).rp rb) .nil))⟩
def vEnum (a : VA) : VI := fun s h => (a s h).bind fun p => match (one p.1).bind srcOf with
  | some src => .ok (fun h => (src h).map enumD, p.2)
  | none => .bad
theorem qEnum {elts : List Expr} {e : Expr} {kk : Nat} {p pos tpos : Pos} {g : VA} (hm : X.mg "enumerate" = none) (ha : PA X [e] (gA X W g)) (hg : Gl X "enumerate" := by rfl) (hs : starEach [e] X.env = [(false, eval e X.env)] := by rfl) :
    PI X (.Tuple elts kk tpos) (.Call (.Name "enumerate" p) [e] [] pos) (gI X W (vEnum g)) :=
  PIw (pi_enumA hg hm ha hs) fun σ H R ⟨w, s, hH, ok, sl, hp⟩ => by
    subst hH
    refine gA.seq ok sl (wI w R) hp fun ds w1 vs ok1 x1 sl1 r1 hp1 => ?_
    simp only at hp1
    cases e : one ds with
    | none => rw [e] at hp1; exact hp1.elim
    | some d =>
      obtain ⟨v, _, rfl, rd⟩ := one_rps r1 e
      rw [e] at hp1
      simp only [Option.bind_some] at hp1
      cases rd with
      | @tup a vs xs hq rr =>
        refine .inr ⟨a, vs, rfl, hq, hp1 w1 _ ok1 rfl x1 fun w' i ys x ok' e' => ?_⟩
        cases e'
        have h' := x.tup _ _ hq
        rw [enumD_get]
        refine ⟨fun q => ⟨vs, h', rfl, ?_⟩, fun d ed => ?_⟩
        · rw [← RepL.length rr]
          cases z : xs[i]? with
          | none => exact List.getElem?_eq_none_iff.mp z
          | some _ => rw [z] at q; cases q
        · obtain ⟨d0, z, rfl⟩ := Option.map_eq_some_iff.mp ed
          obtain ⟨v, ev, rv⟩ := (x.rps rr).get z
          refine ⟨⟨vs, v, h', rfl, ev⟩, fun x2 H' ⟨T, y, eT, hT, eH, ey⟩ => ?_⟩
          have z2 := ey vs h'
          rw [ev] at z2
          cases z2
          subst eH eT
          exact yields_pair ok' hT (.int _) rv
      | @ref n hn =>
        have : ∃ ds, lk w1.h n = some ds := by
          unfold lk
          rw [List.getElem?_eq_getElem hn]
          cases w1.h[n] <;> exact ⟨_, rfl⟩
        obtain ⟨xs, exs⟩ := this
        obtain ⟨vs, h1, h2⟩ := lk_sq ok1 exs
        refine .inl ⟨_, vs, rfl, h1, hp1 w1 _ ok1 rfl x1 fun w' i ys x ok' e' => ?_⟩
        obtain ⟨zs, ez, rfl⟩ := Option.map_eq_some_iff.mp e'
        obtain ⟨us, g1, g2⟩ := lk_sq ok' ez
        rw [x.ι n hn] at g1
        rw [enumD_get]
        refine ⟨fun q => ⟨us, g1, ?_⟩, fun d ed => ?_⟩
        · rw [← RepL.length g2]
          cases z : zs[i]? with
          | none => exact List.getElem?_eq_none_iff.mp z
          | some _ => rw [z] at q; cases q
        · obtain ⟨d0, z, rfl⟩ := Option.map_eq_some_iff.mp ed
          obtain ⟨v, ev, rv⟩ := RepL.get g2 z
          refine ⟨⟨us, v, g1, ev⟩, fun x2 H' ⟨T, y, eT, hT, eH, ey⟩ => ?_⟩
          have z2 := ey us g1
          rw [ev] at z2
          cases z2
          subst eH eT
          exact yields_pair ok' hT (.int _) rv
      | _ => exact hp1.elim

/-- two sequences side by side -/
def zipD (l m : List D) : List D := (l.zip m).map fun p => .tup [p.1, p.2]
theorem zipD_get (l m : List D) (i : Nat) : (zipD l m)[i]? = (l[i]?).bind fun a => (m[i]?).map fun b => D.tup [a, b] := by
  unfold zipD
  rw [List.getElem?_map, List.zip_eq_zipWith, List.getElem?_zipWith]
  cases l[i]? <;> cases m[i]? <;> rfl
def zipSrc (p : D × D) : Option (VH → Option (List D)) := match p.1, p.2 with
  | .tup l, .tup m => some fun _ => some (zipD l m)
  | .ref i, .ref j => some fun h => (lk h i).bind fun l => (lk h j).map fun m => zipD l m
  | _, _ => none
def vZip (a : VA) : VI := fun s h => (a s h).bind fun p => match (two p.1).bind zipSrc with
  | some src => .ok (src, p.2)
  | none => .bad
theorem qZip {elts : List Expr} {e e2 : Expr} {kk : Nat} {p pos tpos : Pos} {g : VA} (hm : X.mg "zip" = none) (ha : PA X [e, e2] (gA X W g)) (hg : Gl X "zip" := by rfl)
    (hs : starEach [e, e2] X.env = (false, eval e X.env) :: starEach [e2] X.env := by rfl) (hpl : (backTo pos (starEach [e2] X.env)).any (·.1) = false := by rfl) :
    PI X (.Tuple elts kk tpos) (.Call (.Name "zip" p) [e, e2] [] pos) (gI X W (vZip g)) :=
  PIw (RZ.pi_zipA hg hm ha hs hpl) fun σ H R ⟨w, s, hH, ok, sl, hp⟩ => by
    subst hH
    refine gA.seq ok sl (wI w R) hp fun ds w1 vs ok1 x1 sl1 r1 hp1 => ?_
    simp only at hp1
    cases e : two ds with
    | none => rw [e] at hp1; exact hp1.elim
    | some d =>
      obtain ⟨v, u, _, rfl, rd, re⟩ := two_rps r1 e
      obtain ⟨d1, d2⟩ := d
      rw [e] at hp1
      simp only [Option.bind_some] at hp1
      simp only at rd re
      cases rd with
      | @tup a vs xs hq rr =>
        cases re with
        | @tup b us ys hq2 rr2 =>
          refine ⟨a, b, vs, us, rfl, .inr ⟨hq, hq2, hp1 w1 _ ok1 rfl x1 fun w' i zs x ok' e' => ?_⟩⟩
          cases e'
          have h' := x.tup _ _ hq
          have h2 := x.tup _ _ hq2
          rw [zipD_get]
          refine ⟨fun q => ⟨vs, us, h', h2, ?_⟩, fun d ed => ?_⟩
          · rw [← RepL.length rr, ← RepL.length rr2]
            cases z : xs[i]? with
            | none => exact .inl (List.getElem?_eq_none_iff.mp z)
            | some _ =>
              cases z2 : ys[i]? with
              | none => exact .inr (List.getElem?_eq_none_iff.mp z2)
              | some _ => rw [z, z2] at q; cases q
          · obtain ⟨d0, z, ed⟩ := Option.bind_eq_some_iff.mp ed
            obtain ⟨d3, z3, rfl⟩ := Option.map_eq_some_iff.mp ed
            obtain ⟨v, ev, rv⟩ := (x.rps rr).get z
            obtain ⟨u, eu, ru⟩ := (x.rps rr2).get z3
            refine ⟨⟨vs, us, v, u, h', h2, ev, eu⟩, fun x2 H' ⟨T, y, y2, eT, hT, eH, ey, ey2⟩ => ?_⟩
            have q1 := ey vs h'
            rw [ev] at q1
            cases q1
            have q2 := ey2 us h2
            rw [eu] at q2
            cases q2
            subst eH eT
            exact yields_pair ok' hT rv ru
        | _ => exact hp1.elim
      | @ref n hn =>
        cases re with
        | @ref m hm' =>
          have ex : ∀ n, n < w1.h.length → ∃ ds, lk w1.h n = some ds := fun n hn => by
            unfold lk
            rw [List.getElem?_eq_getElem hn]
            cases w1.h[n] <;> exact ⟨_, rfl⟩
          obtain ⟨xs, exs⟩ := ex n hn
          obtain ⟨ys, eys⟩ := ex m hm'
          obtain ⟨vs, h1, h2⟩ := lk_sq ok1 exs
          obtain ⟨us, h3, h4⟩ := lk_sq ok1 eys
          refine ⟨_, _, vs, us, rfl, .inl ⟨h1, h3, hp1 w1 _ ok1 rfl x1 fun w' i zs x ok' e' => ?_⟩⟩
          obtain ⟨ls, el, e'⟩ := Option.bind_eq_some_iff.mp e'
          obtain ⟨ms, em, rfl⟩ := Option.map_eq_some_iff.mp e'
          obtain ⟨l1, g1, g2⟩ := lk_sq ok' el
          obtain ⟨m1, g3, g4⟩ := lk_sq ok' em
          rw [x.ι n hn] at g1
          rw [x.ι m hm'] at g3
          rw [zipD_get]
          refine ⟨fun q => ⟨l1, m1, g1, g3, ?_⟩, fun d ed => ?_⟩
          · rw [← RepL.length g2, ← RepL.length g4]
            cases z : ls[i]? with
            | none => exact .inl (List.getElem?_eq_none_iff.mp z)
            | some _ =>
              cases z2 : ms[i]? with
              | none => exact .inr (List.getElem?_eq_none_iff.mp z2)
              | some _ => rw [z, z2] at q; cases q
          · obtain ⟨d0, z, ed⟩ := Option.bind_eq_some_iff.mp ed
            obtain ⟨d3, z3, rfl⟩ := Option.map_eq_some_iff.mp ed
            obtain ⟨v, ev, rv⟩ := RepL.get g2 z
            obtain ⟨u, eu, ru⟩ := RepL.get g4 z3
            refine ⟨⟨l1, m1, v, u, g1, g3, ev, eu⟩, fun x2 H' ⟨T, y, y2, eT, hT, eH, ey, ey2⟩ => ?_⟩
            have q1 := ey l1 g1
            rw [ev] at q1
            cases q1
            have q2 := ey2 m1 g3
            rw [eu] at q2
            cases q2
            subst eH eT
            exact yields_pair ok' hT rv ru
        | _ => exact hp1.elim
      | _ => cases re <;> exact hp1.elim

/-! ### list(reversed(e)) -/
def vLRev (a : VA) : VE := fun s h => (a s h).bind fun p => match (one p.1) with
  | some (.ref n) => match lk p.2 n with
    | some l => .ok (.ref p.2.length, p.2 ++ [.lst l.reverse])
    | none => .bad
  | _ => .bad
theorem qLRev {e : Expr} {g : VA} {p p2 pos pos2 : Pos} (hc : X.calm = true) (hm : X.mg "list" = none) (hm2 : X.mg "reversed" = none) (ha : PA X [e] (gA X W g)) (hg : Gl X "list" := by rfl) (hg2 : Gl X "reversed" := by rfl)
    (hs1 : starEach [Expr.Call (.Name "reversed" p2) [e] [] pos2] X.env = [(false, eval (Expr.Call (.Name "reversed" p2) [e] [] pos2) X.env)] := by rfl) (hs : starEach [e] X.env = [(false, eval e X.env)] := by rfl) :
    PE X (.Call (.Name "list" p) [.Call (.Name "reversed" p2) [e] [] pos2] [] pos) (gE X W (vLRev g)) :=
  PEw (pe_listRev hc ha hg hm hg2 hm2 hs1 hs) fun σ H Q ⟨w, s, hH, ok, sl, hp⟩ => by
    subst hH
    refine gA.seq ok sl (wE w Q) hp fun ds w1 vs ok1 x1 sl1 r1 hp1 => ?_
    simp only at hp1
    cases e : one ds with
    | none => rw [e] at hp1; exact hp1.elim
    | some d =>
      obtain ⟨v, _, rfl, rd⟩ := one_rps r1 e
      rw [e] at hp1
      cases rd with
      | @ref n hn =>
        simp only at hp1
        cases el : lk w1.h n with
        | none => rw [el] at hp1; exact hp1.elim
        | some l =>
          rw [el] at hp1
          obtain ⟨us, h1, h2⟩ := lk_sq ok1 el
          exact ⟨_, us, rfl, h1, fun q hq => hp1 (w1.newL q l.reverse us.reverse) _ (ok1.newL hq h2.reverse) rfl (x1.trans (Wd.ext_newL hq)) at_newL⟩
      | _ => exact hp1.elim
end
end Vq

/-! Part 11: built-ins, methods, stores and slices by values. -/
namespace Vq
open PySem PySem.Spec PyProof.Rows L2

/-- a built-in that hands on a value and leaves the heap -/
def pureB (f : List D → VH → Option D) : List D → VH → Option (D × VH) := fun l h => (f l h).map fun d => (d, h)
theorem cd_pure {K : PySem.W.Frag} {r : List V → Hp → VK → Prop} {f : List D → VH → Option D}
    (hr : ∀ (w : Wd) (xs : List D) (vs : List V) (d : D) (Q : VK), w.Ok K → Rps K w xs vs → f xs w.h = some d → (∀ v, Rp K w d v → Q v w.H) → r vs w.H Q) : CallD K r (pureB f) := fun w xs vs Q ok rx h => by
  unfold pureB at h
  cases e : f xs w.h with
  | none => rw [e] at h; exact h.elim
  | some d =>
    rw [e] at h
    exact hr w xs vs d Q ok rx e fun v rv => h w v ok rfl (.refl w) rv

/-! ### ints in a sequence -/
def intsOf : List D → Option (List Int)
  | [] => some []
  | d :: r => (intD d).bind fun i => (intsOf r).map fun l => i :: l
@[simp] theorem intsOf_map (ns : List Int) : intsOf (ns.map D.int) = some ns := by
  induction ns with
  | nil => rfl
  | cons n r ih => simp [intsOf, intD, ih]
theorem intsOf_rps {K : PySem.W.Frag} {w : Wd} : ∀ {ds : List D} {vs : List V} {ns : List Int}, Rps K w ds vs → intsOf ds = some ns → vs = ns.map V.int
  | _, _, _, .nil, e => by cases e; rfl
  | _, _, _, .cons h r, e => by
    obtain ⟨i, e1, e⟩ := Option.bind_eq_some_iff.mp e
    obtain ⟨l, e2, rfl⟩ := Option.map_eq_some_iff.mp e
    rw [(intD_rp h e1).2, intsOf_rps r e2]
    rfl
def boolD : D → Option Bool
  | .bl b => some b
  | _ => none
def boolsOf : List D → Option (List Bool)
  | [] => some []
  | d :: r => (boolD d).bind fun i => (boolsOf r).map fun l => i :: l
@[simp] theorem boolsOf_map (ns : List Bool) : boolsOf (ns.map D.bl) = some ns := by
  induction ns with
  | nil => rfl
  | cons n r ih => simp [boolsOf, boolD, ih]
theorem boolsOf_rps {K : PySem.W.Frag} {w : Wd} : ∀ {ds : List D} {vs : List V} {ns : List Bool}, Rps K w ds vs → boolsOf ds = some ns → vs = ns.map V.bl
  | _, _, _, .nil, e => by cases e; rfl
  | _, _, _, .cons h r, e => by
    obtain ⟨i, e1, e⟩ := Option.bind_eq_some_iff.mp e
    obtain ⟨l, e2, rfl⟩ := Option.map_eq_some_iff.mp e
    cases h with
    | bl b =>
      cases e1
      rw [boolsOf_rps r e2]
      rfl
    | _ => cases e1
/-- the ints of the one argument, a list or a tuple -/
def argInts (l : List D) (h : VH) : Option (List Int) := (one l).bind fun d => (seqOf h d).bind intsOf
theorem argInts_rps {K : PySem.W.Frag} {w : Wd} {ds : List D} {vs : List V} {ns : List Int} (ok : w.Ok K) (r : Rps K w ds vs) (e : argInts ds w.h = some ns) : ∃ a, vs = [.ref a] ∧ (SqL K w.H a (ns.map V.int) ∨ SqT K w.H a (ns.map V.int)) := by
  obtain ⟨d, e1, e⟩ := Option.bind_eq_some_iff.mp e
  obtain ⟨l, e2, e3⟩ := Option.bind_eq_some_iff.mp e
  obtain ⟨v, _, rfl, rd⟩ := one_rps r e1
  obtain ⟨a, us, rfl, hq, rr⟩ := seqOf_sq ok rd e2
  rw [intsOf_rps rr e3] at hq
  exact ⟨a, rfl, hq⟩

section
variable {X : Cx}
def rSumS (K : PySem.W.Frag) : List V → Hp → VK → Prop := fun vs H Q => ∃ (a : Addr) (ns : List Int), vs = [V.ref a] ∧ (SqL K H a (ns.map V.int) ∨ SqT K H a (ns.map V.int)) ∧ Q (.int ns.sum) H
theorem cr_sumS (hc : X.calm = true) : CallR X (.builtin "sum") (rSumS X.K) := by
  rintro pins s σ H vs us Q I r ⟨a, ns, rfl, hs, q⟩
  rcases hs with hs | hs
  · exact cr_sum hc pins s σ H _ us Q I r ⟨a, ns, rfl, hs, q⟩
  · obtain ⟨its, rv, ht, _⟩ := I.tuple hs
    rw [Vals.ref1 r]
    exact sum_tuple (I.ok.hd hc) ht rv.ints fun h' tk t' hk => ⟨.int _, H, I.kept hk, ⟨_, rfl⟩, q⟩
def bSum : List D → VH → Option (D × VH) := pureB fun l h => (argInts l h).map fun ns => .int ns.sum
theorem sum_cd (K : PySem.W.Frag) : CallD K (rSumS K) bSum := cd_pure fun w xs vs d Q ok r e q => by
  obtain ⟨ns, e1, rfl⟩ := Option.map_eq_some_iff.mp e
  obtain ⟨a, rfl, hs⟩ := argInts_rps ok r e1
  exact ⟨a, ns, rfl, hs, q _ (.int _)⟩
/-- max of two, of a sequence -/
def rMaxS (K : PySem.W.Frag) : List V → Hp → VK → Prop := fun vs H Q => (∃ i j, vs = [.int i, .int j] ∧ Q (.int (if j > i then j else i)) H) ∨ ∃ (a : Addr) (ns : List Int) (m : Int), vs = [V.ref a] ∧ (SqL K H a (ns.map V.int) ∨ SqT K H a (ns.map V.int)) ∧ ns.max? = some m ∧ Q (.int m) H
def rMinS (K : PySem.W.Frag) : List V → Hp → VK → Prop := fun vs H Q => (∃ i j, vs = [.int i, .int j] ∧ Q (.int (if j < i then j else i)) H) ∨ ∃ (a : Addr) (ns : List Int) (m : Int), vs = [V.ref a] ∧ (SqL K H a (ns.map V.int) ∨ SqT K H a (ns.map V.int)) ∧ ns.min? = some m ∧ Q (.int m) H
theorem cr_maxS (hc : X.calm = true) : CallR X (.builtin "max") (rMaxS X.K) := by
  rintro pins s σ H vs us Q I r (h | ⟨a, ns, m, rfl, hs, hm, q⟩)
  · exact call_max2 hc pins s σ H vs us Q I r h
  · obtain ⟨m1, m2⟩ := List.max?_eq_some_iff.mp hm
    have uniq : ∀ M : Int, M ∈ ns → (∀ y, y ∈ ns → y ≤ M) → M = m := fun M h1 h2 => Int.le_antisymm (m2 M h1) (h2 m m1)
    have hne : ns ≠ [] := fun z => by rw [z] at m1; cases m1
    rcases hs with hs | hs
    · refine cr_max hc pins s σ H _ us Q I r ⟨a, ns, rfl, hs, ?_, fun M h1 h2 => by rw [uniq M h1 h2]; exact q⟩
      cases ns with
      | nil => exact absurd rfl hne
      | cons _ _ => exact Nat.succ_pos _
    · obtain ⟨its, rv, ht, _⟩ := I.tuple hs
      rw [Vals.ref1 r]
      exact ext_tuple (I.ok.hd hc) ht rv.ints hne (.inl ⟨rfl, fun M h' tk t' h1 h2 hk => ⟨.int _, H, I.kept hk, ⟨_, rfl⟩, by rw [uniq M h1 h2]; exact q⟩⟩)
theorem cr_minS (hc : X.calm = true) : CallR X (.builtin "min") (rMinS X.K) := by
  rintro pins s σ H vs us Q I r (h | ⟨a, ns, m, rfl, hs, hm, q⟩)
  · exact call_min2 hc pins s σ H vs us Q I r h
  · obtain ⟨m1, m2⟩ := List.min?_eq_some_iff.mp hm
    have uniq : ∀ M : Int, M ∈ ns → (∀ y, y ∈ ns → M ≤ y) → M = m := fun M h1 h2 => Int.le_antisymm (h2 m m1) (m2 M h1)
    have hne : ns ≠ [] := fun z => by rw [z] at m1; cases m1
    rcases hs with hs | hs
    · refine cr_min hc pins s σ H _ us Q I r ⟨a, ns, rfl, hs, ?_, fun M h1 h2 => by rw [uniq M h1 h2]; exact q⟩
      cases ns with
      | nil => exact absurd rfl hne
      | cons _ _ => exact Nat.succ_pos _
    · obtain ⟨its, rv, ht, _⟩ := I.tuple hs
      rw [Vals.ref1 r]
      exact ext_tuple (I.ok.hd hc) ht rv.ints hne (.inr ⟨rfl, fun M h' tk t' h1 h2 hk => ⟨.int _, H, I.kept hk, ⟨_, rfl⟩, by rw [uniq M h1 h2]; exact q⟩⟩)
def bMax : List D → VH → Option (D × VH) := pureB fun l h => match int2 l with
  | some (i, j) => some (.int (if j > i then j else i))
  | none => (argInts l h).bind fun ns => ns.max?.map .int
def bMin : List D → VH → Option (D × VH) := pureB fun l h => match int2 l with
  | some (i, j) => some (.int (if j < i then j else i))
  | none => (argInts l h).bind fun ns => ns.min?.map .int
theorem max_cd (K : PySem.W.Frag) : CallD K (rMaxS K) bMax := cd_pure fun w xs vs d Q ok r e q => by
  cases e2 : int2 xs with
  | some p =>
    rw [e2] at e
    cases e
    exact .inl ⟨_, _, int2_rps r e2, q _ (.int _)⟩
  | none =>
    rw [e2] at e
    obtain ⟨ns, e1, e⟩ := Option.bind_eq_some_iff.mp e
    obtain ⟨m, em, rfl⟩ := Option.map_eq_some_iff.mp e
    obtain ⟨a, rfl, hs⟩ := argInts_rps ok r e1
    exact .inr ⟨a, ns, m, rfl, hs, em, q _ (.int _)⟩
theorem min_cd (K : PySem.W.Frag) : CallD K (rMinS K) bMin := cd_pure fun w xs vs d Q ok r e q => by
  cases e2 : int2 xs with
  | some p =>
    rw [e2] at e
    cases e
    exact .inl ⟨_, _, int2_rps r e2, q _ (.int _)⟩
  | none =>
    rw [e2] at e
    obtain ⟨ns, e1, e⟩ := Option.bind_eq_some_iff.mp e
    obtain ⟨m, em, rfl⟩ := Option.map_eq_some_iff.mp e
    obtain ⟨a, rfl, hs⟩ := argInts_rps ok r e1
    exact .inr ⟨a, ns, m, rfl, hs, em, q _ (.int _)⟩
/-- all, any of a list of truth values -/
def argBools (l : List D) (h : VH) : Option (List Bool) := (one l).bind fun d => match d with
  | .ref n => (lk h n).bind boolsOf
  | _ => none
theorem argBools_rps {K : PySem.W.Frag} {w : Wd} {ds : List D} {vs : List V} {ns : List Bool} (ok : w.Ok K) (r : Rps K w ds vs) (e : argBools ds w.h = some ns) : ∃ a, vs = [.ref a] ∧ SqL K w.H a (ns.map V.bl) := by
  obtain ⟨d, e1, e⟩ := Option.bind_eq_some_iff.mp e
  obtain ⟨v, _, rfl, rd⟩ := one_rps r e1
  cases rd with
  | ref hn =>
    simp only at e
    obtain ⟨l, e2, e3⟩ := Option.bind_eq_some_iff.mp e
    obtain ⟨us, h1, h2⟩ := lk_sq ok e2
    rw [boolsOf_rps h2 e3] at h1
    exact ⟨_, rfl, h1⟩
  | _ => cases e
def bAll : List D → VH → Option (D × VH) := pureB fun l h => (argBools l h).map fun bs => .bl (bs.all id)
def bAny : List D → VH → Option (D × VH) := pureB fun l h => (argBools l h).map fun bs => .bl (bs.any id)
theorem all_cd (K : PySem.W.Frag) : CallD K (rAll K) bAll := cd_pure fun w xs vs d Q ok r e q => by
  obtain ⟨bs, e1, rfl⟩ := Option.map_eq_some_iff.mp e
  obtain ⟨a, rfl, hs⟩ := argBools_rps ok r e1
  exact ⟨a, bs, rfl, hs, q _ (.bl _)⟩
theorem any_cd (K : PySem.W.Frag) : CallD K (rAny K) bAny := cd_pure fun w xs vs d Q ok r e q => by
  obtain ⟨bs, e1, rfl⟩ := Option.map_eq_some_iff.mp e
  obtain ⟨a, rfl, hs⟩ := argBools_rps ok r e1
  exact ⟨a, bs, rfl, hs, q _ (.bl _)⟩
def bAbs : List D → VH → Option (D × VH) := pureB fun l _ => (int1 l).map fun i => .int (if i < 0 then -i else i)
theorem abs_cd (K : PySem.W.Frag) : CallD K (fun xs H Q => ∃ i, xs = [.int i] ∧ Q (.int (if i < 0 then -i else i)) H) bAbs := cd_pure fun w xs vs d Q ok r e q => by
  obtain ⟨i, e1, rfl⟩ := Option.map_eq_some_iff.mp e
  exact ⟨i, int1_rps r e1, q _ (.int _)⟩
def bInt : List D → VH → Option (D × VH) := pureB fun l _ => match one l with
  | some (.int i) => some (.int i)
  | some (.bl b) => some (.int (if b then 1 else 0))
  | _ => none
theorem int_cd (K : PySem.W.Frag) : CallD K (fun xs H Q => (∃ i, xs = [.int i] ∧ Q (.int i) H) ∨ ∃ k, xs = [.bl k] ∧ Q (.int (if k then 1 else 0)) H) bInt := cd_pure fun w xs vs d Q ok r e q => by
  cases e1 : one xs with
  | none => rw [e1] at e; cases e
  | some d =>
    obtain ⟨v, _, rfl, rd⟩ := one_rps r e1
    rw [e1] at e
    cases rd with
    | int i => cases e; exact .inl ⟨i, rfl, q _ (.int _)⟩
    | bl b => cases e; exact .inr ⟨b, rfl, q _ (.int _)⟩
    | _ => cases e
def bLen : List D → VH → Option (D × VH) := pureB fun l h => (one l).bind fun d => match d with
  | .str s => if s.length ≤ sizeLine then some (.int s.length) else none
  | _ => (seqOf h d).map fun l => .int l.length
theorem len_cd (K : PySem.W.Frag) : CallD K (fun xs H Q => ∃ x n, xs = [x] ∧ LenV K x H n ∧ Q (.int n) H) bLen := cd_pure fun w xs vs d Q ok r e q => by
  obtain ⟨x, e1, e⟩ := Option.bind_eq_some_iff.mp e
  obtain ⟨v, _, rfl, rd⟩ := one_rps r e1
  have gen : ∀ l, seqOf w.h x = some l → d = .int l.length → ∃ x n, [v] = [x] ∧ LenV K x w.H n ∧ Q (.int n) w.H := by
    intro l el ed
    subst ed
    obtain ⟨a, us, rfl, hq, rr⟩ := seqOf_sq ok rd el
    refine ⟨_, l.length, rfl, ?_, q _ (.int _)⟩
    rcases hq with hq | hq
    · exact .inl ⟨us, hq, RepL.length rr⟩
    · exact .inr ⟨us, hq, RepL.length rr⟩
  cases x with
  | str s =>
    cases rd
    simp only at e
    by_cases h : s.length ≤ sizeLine
    · rw [if_pos h] at e
      cases e
      exact ⟨_, _, rfl, ⟨h, rfl⟩, q _ (.int _)⟩
    · rw [if_neg h] at e
      cases e
  | tup l => obtain ⟨l', el, rfl⟩ := Option.map_eq_some_iff.mp e; exact gen l' el rfl
  | ref n => obtain ⟨l', el, rfl⟩ := Option.map_eq_some_iff.mp e; exact gen l' el rfl
  | _ => cases e
/-- list(e) of a list or tuple -/
def bList : List D → VH → Option (D × VH) := fun l h => (one l).bind fun d => (seqOf h d).map fun l => (.ref h.length, h ++ [.lst l])
theorem list_cd (K : PySem.W.Frag) : CallD K (fun xs H Q => ∃ p ys, xs = [.ref p] ∧ (SqL K H p ys ∨ SqT K H p ys) ∧ ∀ l, H l = none → Q (.ref l) (upd H l (.lst ys))) bList := fun w xs vs Q ok r h => by
  unfold bList at h
  cases e1 : one xs with
  | none => rw [e1] at h; exact h.elim
  | some d =>
    obtain ⟨v, _, rfl, rd⟩ := one_rps r e1
    rw [e1] at h
    simp only [Option.bind_some] at h
    cases e2 : seqOf w.h d with
    | none => rw [e2] at h; exact h.elim
    | some l =>
      rw [e2] at h
      obtain ⟨a, us, rfl, hq, rr⟩ := seqOf_sq ok rd e2
      exact ⟨a, us, rfl, hq, fun p hp => h (w.newL p l us) _ (ok.newL hp rr) rfl (Wd.ext_newL hp) at_newL⟩
def bTup : List D → VH → Option (D × VH) := pureB fun l h => (one l).bind fun d => (seqOf h d).map .tup
theorem tup_cd (K : PySem.W.Frag) : CallD K (fun xs H Q => ∃ p ys, xs = [.ref p] ∧ ((SqL K H p ys ∧ ∀ l, H l = none → Q (.ref l) (upd H l (.tup ys))) ∨ (SqT K H p ys ∧ Q (.ref p) H))) bTup := fun w xs vs Q ok r h => by
  unfold bTup pureB at h
  cases e1 : one xs with
  | none => simp only [e1] at h; exact h.elim
  | some d =>
    obtain ⟨v, _, rfl, rd⟩ := one_rps r e1
    simp only [e1, Option.bind_some] at h
    cases e2 : seqOf w.h d with
    | none => rw [e2] at h; exact h.elim
    | some l =>
      rw [e2] at h
      obtain ⟨a, us, rfl, hq, rr⟩ := seqOf_sq ok rd e2
      refine ⟨a, us, rfl, ?_⟩
      rcases hq with hq | hq
      · exact .inl ⟨hq, fun p hp => h (w.tupAt p (.tup us)) _ (ok.tupAt hp) rfl (Wd.ext_tupAt hp) (.tup (SqT.of upd_same) ((Wd.ext_tupAt hp).rps rr))⟩
      · exact .inr ⟨hq, h w _ ok rfl (.refl w) (.tup hq rr)⟩

/-! ### repr -/
def reprOk (p : PyData) : Bool := SeqAt.shaped p && p.showable && decide (p.shown.length ≤ sizeLine)
def rRepr (K : PySem.W.Frag) : List V → Hp → VK → Prop := fun xs H Q => ∃ x d, xs = [x] ∧ Dp K H x d ∧ reprOk d = true ∧ Q (.str d.shown) H
theorem depth_of_shaped {d : PyData} (h : SeqAt.shaped d = true) : d.canLay0 = true ∧ d.depth ≤ 64 := by
  unfold SeqAt.shaped at h
  simpa using h
theorem cr_repr (hg : X.A.guards = some []) (hu : X.A.units + 70 < cLine) : CallR X (.builtin "repr") (rRepr X.K) := by
  rintro pins s σ H vs us Q I r ⟨x, d, rfl, hd, hr, q⟩
  unfold reprOk at hr
  simp only [Bool.and_eq_true, decide_eq_true_eq] at hr
  obtain ⟨⟨h1, h2⟩, h3⟩ := hr
  obtain ⟨hlay, hdep⟩ := depth_of_shaped h1
  cases r with
  | cons rv rr =>
    cases rr
    obtain ⟨as, rds⟩ := Dp.reads I d x _ hd rv
    cases hd with
    | non =>
      cases rv
      exact P.repr_of_none ⟨.str _, H, I.tok _, ⟨_, rfl⟩, q⟩
    | bl b =>
      cases rv
      exact P.repr_of_bool ⟨.str _, H, I.tok _, ⟨_, rfl⟩, by
        cases b <;> exact q⟩
    | int i =>
      obtain ⟨t, rfl⟩ := rv
      exact P.repr_of_int (by simpa [PyData.showable] using h2) ⟨.str _, H, I.tok _, ⟨_, rfl⟩, q⟩
    | str z =>
      obtain ⟨t, rfl⟩ := rv
      exact P.repr_of_str ⟨.str _, H, I.tok _, ⟨_, rfl⟩, q⟩ h3
    | lst _ _ =>
      cases rv
      exact repr_of_reads' rds h2 (PyData.noDict_hsm (PyData.hasDict_of_canLay _ hlay)) hg (by omega) (fun b o e => e) (fun h' u tk hk => ⟨.str _, H, I.kept hk, ⟨_, rfl⟩, q⟩) h3
    | tup _ _ =>
      cases rv
      exact repr_of_reads' rds h2 (PyData.noDict_hsm (PyData.hasDict_of_canLay _ hlay)) hg (by omega) (fun b o e => e) (fun h' u tk hk => ⟨.str _, H, I.kept hk, ⟨_, rfl⟩, q⟩) h3
def bRepr : List D → VH → Option (D × VH) := pureB fun l h => (one l).bind fun d => (py h d).bind fun p => if reprOk p = true then some (.str p.shown) else none
theorem repr_cd (K : PySem.W.Frag) : CallD K (rRepr K) bRepr := cd_pure fun w xs vs d Q ok r e q => by
  obtain ⟨x, e1, e⟩ := Option.bind_eq_some_iff.mp e
  obtain ⟨v, _, rfl, rd⟩ := one_rps r e1
  obtain ⟨p, ep, e⟩ := Option.bind_eq_some_iff.mp e
  by_cases h : reprOk p = true
  · rw [if_pos h] at e
    cases e
    exact ⟨v, p, rfl, py_dp ok rd ep, h, q _ (.str _)⟩
  · rw [if_neg h] at e
    cases e
end
end Vq

/-! Part 12: in, is, products, methods, stores, slices. -/
namespace Vq
open PySem PySem.Spec PyProof.Rows L2

/-! ### in, not in: flat values -/
/-- == of flat values -/
def eqF : D → D → Bool
  | .non, .non => true
  | .bl a, .bl b => a == b
  | .bl a, .int b => (if a then 1 else 0) == b
  | .int a, .bl b => a == (if b then 1 else 0)
  | .int a, .int b => a == b
  | .str a, .str b => a == b
  | _, _ => false
theorem flat_rp {K : PySem.W.Frag} {w : Wd} {d : D} {v : V} (r : Rp K w d v) (h : flatD d = true) : flatV v = true := by
  cases r <;> first | rfl | cases h
theorem eqF_rp {K : PySem.W.Frag} {w : Wd} {d e : D} {v u : V} (r : Rp K w d v) (q : Rp K w e u) (h : flatD d = true) (g : flatD e = true) : eqV v u = eqF d e := by
  cases r <;> cases q <;> first | rfl | cases h | cases g
theorem all_flat {K : PySem.W.Frag} {w : Wd} : ∀ {ds : List D} {vs : List V}, Rps K w ds vs → ds.all flatD = true → vs.all flatV = true
  | _, _, .nil, _ => rfl
  | _, _, .cons h r, e => by
    simp only [List.all_cons, Bool.and_eq_true] at e ⊢
    exact ⟨flat_rp h e.1, all_flat r e.2⟩
theorem inV_rp {K : PySem.W.Frag} {w : Wd} {x : D} {vx : V} (rx : Rp K w x vx) (hx : flatD x = true) : ∀ {ds : List D} {vs : List V}, Rps K w ds vs → ds.all flatD = true → inV vx vs = ds.any fun y => eqF y x
  | _, _, .nil, _ => rfl
  | _, _, .cons h r, e => by
    simp only [List.all_cons, Bool.and_eq_true] at e
    show ((eqV _ vx) || inV vx _) = _
    rw [eqF_rp h rx e.1 hx, inV_rp rx hx r e.2]
    rfl
def inW (neg : Bool) (x y : D) (h : VH) : Option (D × VH) := (seqOf h y).bind fun l => if (flatD x && l.all flatD) = true then some (.bl (if neg then !(l.any fun y => eqF y x) else l.any fun y => eqF y x), h) else none
def dIn (x y : D) (h : VH) : Option (D × VH) := inW false x y h
def dNin (x y : D) (h : VH) : Option (D × VH) := inW true x y h
theorem inW_opd (K : PySem.W.Frag) (neg : Bool) : OpD K (rIn K neg) (inW neg) := fun w x y vx vy Q ok rx ry h => by
  unfold inW at h
  cases e : seqOf w.h y with
  | none => rw [e] at h; exact h.elim
  | some l =>
    rw [e] at h
    simp only [Option.bind_some] at h
    by_cases hf : (flatD x && l.all flatD) = true
    · rw [if_pos hf] at h
      rw [Bool.and_eq_true] at hf
      obtain ⟨a, us, rfl, hq, rr⟩ := seqOf_sq ok ry e
      refine ⟨a, us, rfl, hq, flat_rp rx hf.1, all_flat rr hf.2, ?_⟩
      rw [inV_rp rx hf.1 rr hf.2]
      exact h w _ ok rfl (.refl w) (.bl _)
    · rw [if_neg hf] at h
      exact h.elim
theorem in_opd (K : PySem.W.Frag) : OpD K (rIn K false) dIn := inW_opd K false
theorem nin_opd (K : PySem.W.Frag) : OpD K (rIn K true) dNin := inW_opd K true

/-! ### is None -/
def isNon : D → Bool
  | .non => true
  | _ => false
theorem isNon_rp {K : PySem.W.Frag} {w : Wd} {d : D} {v : V} (r : Rp K w d v) : decide (v = .non) = isNon d := by
  cases r <;> simp [isNon]
def dIsN (x y : D) (h : VH) : Option (D × VH) := if isNon y = true then some (.bl (isNon x), h) else none
def dNotN (x y : D) (h : VH) : Option (D × VH) := if isNon y = true then some (.bl (!isNon x), h) else none
theorem isN_opd (K : PySem.W.Frag) : OpD K (fun x y H Q => y = .non ∧ Q (.bl (decide (x = .non))) H) dIsN := fun w x y vx vy Q ok rx ry h => by
  unfold dIsN at h
  by_cases hn : isNon y = true
  · rw [if_pos hn] at h
    refine ⟨of_decide_eq_true ((isNon_rp ry).trans hn), ?_⟩
    rw [isNon_rp rx]
    exact h w _ ok rfl (.refl w) (.bl _)
  · rw [if_neg hn] at h
    exact h.elim
theorem notN_opd (K : PySem.W.Frag) : OpD K (fun x y H Q => y = .non ∧ Q (.bl (!decide (x = .non))) H) dNotN := fun w x y vx vy Q ok rx ry h => by
  unfold dNotN at h
  by_cases hn : isNon y = true
  · rw [if_pos hn] at h
    refine ⟨of_decide_eq_true ((isNon_rp ry).trans hn), ?_⟩
    rw [isNon_rp rx]
    exact h w _ ok rfl (.refl w) (.bl _)
  · rw [if_neg hn] at h
    exact h.elim

/-! ### products -/
theorem tuple_mul1 (l : Addr) (items : Array Value) (n : Nat) (dd : Option Addr) (sl : Array (Option Value)) (x : Int) (u : Tok)
    (c0 : (decide (x < -(2 ^ 63)) || decide (x ≥ 2 ^ 63)) = false) (c1 : (items.isEmpty || x == 1) = true) :
    Meets (Builtin.«tuple.__mul__» ⟨[.ref l, .int x u], []⟩) (fun _ R s => s.heap.get? l = some { cls := .type "tuple", dict := dd, data := .seq items n, slots := sl } ∧ R (.ok (.ret (Value.ref l))) s) := by
  refine .of_wp fun prog w A R s h => ?_
  obtain ⟨hp, g, d, tk, os⟩ := s
  obtain ⟨hl, h⟩ := h
  have f1 := AutoSeq1.idx_int
  wp_walk using wpAny_loadPart' hl
  repeat (first
    | (refine wpAny_ite_false (decide_eq_false (by rw [c0]; exact fun z => nomatch z)) ?_; wp_walk using wpAny_loadPart' hl)
    | (refine wpAny_ite_true (decide_eq_true c1) ?_; wp_walk using wpAny_loadPart' hl))
  exact ⟨_, rfl, h⟩
/-- t * 1, () * k: the tuple itself -/
def rRep1 (K : PySem.W.Frag) : R2 := fun x y H Q => ∃ l k xs, x = .ref l ∧ y = .int k ∧ SqT K H l xs ∧ -(2 ^ 63) ≤ k ∧ k < 2 ^ 63 ∧ (xs = [] ∨ k = 1) ∧ Q (.ref l) H
theorem op_rep1 {X : Cx} : OpR X (binaryOp .Mult) (rRep1 X.K) := by
  rintro pins s σ H x y v u Q I rx ry ⟨l, k, xs, rfl, rfl, hT, k1, k2, hk, q⟩
  cases rx
  obtain ⟨t, rfl⟩ := ry
  obtain ⟨its, r, ⟨⟨cls, dd, data, sl⟩, ho, hc, n, hd⟩, hs⟩ := I.tuple hT
  simp only at hc hd
  subst hc hd
  have c0 : (decide (k < -(2 ^ 63)) || decide (k ≥ 2 ^ 63)) = false := by
    rw [decide_eq_false (by omega), decide_eq_false (by omega)]
    rfl
  have c1 : (its.toArray.isEmpty || k == 1) = true := by
    rcases hk with h | h
    · subst h
      cases r
      rfl
    · subst h
      simp
  refine wpAny_binaryOp_repeat_ref (T := "tuple") (U := "int") (by decide) ⟨_, ho, rfl⟩ (fun s' => typeIs_int s' k t) noFill_tuple_mul F.fills_int_mul F.slot_int_rmul repeat_tuple F.slot_int_index.lookup ?_
  refine call_meets F.slot_int_rmul (typeIs_int s k t) F.entry_int_rmul (F.args_int_rmul_2 _ _) (int_rmul_tuple k t l its.toArray n dd sl) ⟨ho, rfl, ⟨_, ho, rfl⟩, ?_⟩
  exact call_meets F.slot_tuple_mul ⟨_, ho, rfl⟩ F.entry_tuple_mul (F.args_tuple_mul_2 _ _) (tuple_mul1 l its.toArray n dd sl k t c0 c1) ⟨ho, ⟨.ref l, H, I, rfl, q⟩⟩
def repD (k : Nat) (l : List D) : List D := (List.replicate k l).flatten
theorem reps_rep {K : PySem.W.Frag} {w : Wd} {ds : List D} {vs : List V} (r : Rps K w ds vs) : ∀ k : Nat, Rps K w (repD k ds) (List.replicate k vs).flatten
  | 0 => .nil
  | k + 1 => by
    show RepL K w.ι w.h.length w.H (List.replicate (k + 1) ds).flatten (List.replicate (k + 1) vs).flatten
    rw [List.replicate_succ, List.replicate_succ, List.flatten_cons, List.flatten_cons]
    exact r.append (reps_rep r k)
def tMulT : D → D → VH → Option (D × VH) := fun x y h => match x, y with
  | .tup l, .int k => if k = 1 then some (.tup l, h) else if 2 ≤ k ∧ k ≤ 1000 ∧ l ≠ [] ∧ l.length ≤ 1000 then some (.tup (repD k.toNat l), h) else none
  | _, _ => none
theorem mulT_opd (K : PySem.W.Frag) : OpD K (orR (rRep1 K) (rRepT K)) tMulT := fun w x y vx vy Q ok rx ry h => by
  cases rx with
  | @tup a vs ds hx rx =>
    cases ry with
    | int k =>
      unfold tMulT at h
      simp only at h
      by_cases h1 : k = 1
      · rw [if_pos h1] at h
        exact .inl ⟨a, k, vs, rfl, rfl, hx, by omega, by omega, .inr h1, h w _ ok rfl (.refl w) (.tup hx rx)⟩
      · rw [if_neg h1] at h
        by_cases h2 : 2 ≤ k ∧ k ≤ 1000 ∧ ds ≠ [] ∧ ds.length ≤ 1000
        · rw [if_pos h2] at h
          refine .inr ⟨a, k, vs, rfl, rfl, hx, fun z => h2.2.2.1 ?_, h2.1, h2.2.1, by rw [← rx.length]; exact h2.2.2.2, fun p hp => ?_⟩
          · subst z
            cases rx
            rfl
          · exact h (w.tupAt p (.tup _)) _ (ok.tupAt hp) rfl (Wd.ext_tupAt hp) (.tup (SqT.of upd_same) ((Wd.ext_tupAt hp).rps (reps_rep rx k.toNat)))
        · rw [if_neg h2] at h
          exact h.elim
    | _ => exact h.elim
  | _ => cases ry <;> exact h.elim
def tMulL : D → D → VH → Option (D × VH) := fun x y h => match x, y with
  | .ref m, .int k => match h[m]? with
    | some (.lst l) => if -(2 ^ 63) ≤ k ∧ k < 2 ^ 63 ∧ l.length * k.toNat ≤ sizeLine then some (.ref h.length, h ++ [.lst (repD k.toNat l)]) else none
    | _ => none
  | _, _ => none
theorem mulL_opd (K : PySem.W.Frag) : OpD K rRep tMulL := fun w x y vx vy Q ok rx ry h => by
  cases rx with
  | @ref m hm =>
    cases ry with
    | int k =>
      unfold tMulL at h
      simp only at h
      cases e1 : w.h[m]? with
      | none => simp only [e1] at h; exact h.elim
      | some c =>
        cases c with
        | ro _ => simp only [e1] at h; exact h.elim
        | lst l =>
          simp only [e1] at h
          by_cases h2 : -(2 ^ 63) ≤ k ∧ k < 2 ^ 63 ∧ l.length * k.toNat ≤ sizeLine
          · rw [if_pos h2] at h
            obtain ⟨us, g1, g2⟩ := ok.cell m _ e1
            exact ⟨_, k, us, rfl, rfl, g1, h2.1, h2.2.1, by rw [← g2.length]; exact h2.2.2, fun p hp => h (w.newL p _ _) _ (ok.newL hp (reps_rep g2 k.toNat)) rfl (Wd.ext_newL hp) at_newL⟩
          · rw [if_neg h2] at h
            exact h.elim
    | _ => exact h.elim
  | _ => cases ry <;> exact h.elim
def dMul : D → D → VH → Option (D × VH) := orD aMul (orD tMulT tMulL)
def rMulA (K : PySem.W.Frag) : R2 := orR (orR (rI CMul fun i j => .int (i * j)) (rI CMulW fun i j => .int (i * j))) (orR (orR (rRep1 K) (rRepT K)) rRep)
theorem mul_opd (K : PySem.W.Frag) : OpD K (rMulA K) dMul := opd_orD (mul_ii K) (opd_orD (mulT_opd K) (mulL_opd K))
theorem mul_opr {X : Cx} : OpR X (binaryOp .Mult) (rMulA X.K) := OpR.or (OpR.or op_mul op_mulW) (OpR.or (OpR.or op_rep1 op_repT) op_rep)
theorem fdv_opr {X : Cx} : OpR X (binaryOp .FloorDiv) (fun x y H Q => rI CDivN (fun i j => .int (i.fdiv j)) x y H Q ∨ rI CDivW (fun i j => .int (i / j)) x y H Q) := OpR.or op_fdivN op_fdivW

/-! ### stores -/
def sLst (o i d : D) (h : VH) : Option VH := match o, i with
  | .ref n, .int k => match h[n]? with
    | some (.lst l) => (ixN l.length k).map fun j => h.set n (.lst (l.set j d))
    | _ => none
  | _, _ => none
theorem lst_setd (K : PySem.W.Frag) : SetD K rSetL sLst := fun w o i d vo vi vd Q ok ro ri rd h => by
  cases ro with
  | @ref n hn =>
    cases ri with
    | int k =>
      unfold sLst at h
      simp only at h
      cases e1 : w.h[n]? with
      | none => simp only [e1] at h
      | some c =>
        cases c with
        | ro _ => simp only [e1] at h
        | lst l =>
          simp only [e1] at h
          cases ej : ixN l.length k with
          | none => simp only [ej] at h; exact h.elim
          | some j =>
            simp only [ej] at h
            obtain ⟨us, g1, g2⟩ := ok.cell n _ e1
            obtain ⟨ok', x'⟩ := ok.putL (ds := l.set j d) (vs := us.set j vd) e1 (g2.set rd j)
            exact ⟨_, us, k, j, rfl, rfl, g1, by rw [← g2.length]; exact ej, h (w.putL n _ _) ok' rfl x'⟩
    | _ => exact h.elim
  | _ => cases ri <;> exact h.elim

/-! ### methods -/
def MtD (K : PySem.W.Frag) (r : V → List V → Hp → VK → Prop) (f : D → List D → VH → Option (D × VH)) : Prop :=
  ∀ (w : Wd) (x : D) (xs : List D) (vx : V) (vs : List V) (Q : VK), w.Ok K → Rp K w x vx → Rps K w xs vs → PstO K w (f x xs w.h) Q → r vx vs w.H Q
def tyD (T : String) (d : D) (h : VH) : Bool := match d with
  | .ref n => T == "list" && (lk h n).isSome
  | .str _ => T == "str"
  | .int _ => T == "int"
  | _ => false
theorem tyD_tyV {K : PySem.W.Frag} {w : Wd} {T : String} {d : D} {v : V} (ok : w.Ok K) (r : Rp K w d v) (h : tyD T d w.h = true) : tyV K T v w.H := by
  cases r with
  | @ref n hn =>
    simp only [tyD, Bool.and_eq_true, beq_iff_eq] at h
    obtain ⟨ds, e⟩ := Option.isSome_iff_exists.mp h.2
    obtain ⟨vs, h1, h2⟩ := lk_sq ok e
    exact .inl ⟨h.1, vs, h1⟩
  | str s =>
    show T = "str"
    simpa [tyD] using h
  | int i =>
    show T = "int"
    simpa [tyD] using h
  | _ => cases h
def vMt (T : String) (f : D → List D → VH → Option (D × VH)) (o : VE) (a : VA) : VE := fun s h => (o s h).bind fun p => if tyD T p.1 p.2 = true then (a s p.2).bind fun q => lift (f p.1 q.1 q.2) else .bad
section
variable {X : Cx} {W : WX} {o e : Expr} {es : List Expr} {fo : VE} {g : VA} {name : Str} {apos cpos : Pos} {T id : String} {r : V → List V → Hp → VK → Prop} {f : D → List D → VH → Option (D × VH)}
theorem qMt0 (pa : PlainAttrs T) (slot : Slot T name id) (hty : typeOf (.builtin id) = pure (.type "method_descriptor")) (hm : MtR X id r) (hf : MtD X.K r f) (ho : PE X o (gE X W fo))
    (hbase : attributeBase o name X.env (eval o X.env) = eval o X.env := by rfl) (hline : (apos.endLine == cpos.line) = true := by rfl) : PE X (.Call (.Attribute o name apos) [] [] cpos) (gE X W (vMt T f fo vNil)) :=
  PEw (pe_bm0 pa slot hty hm ho hbase hline) fun σ H Q ⟨w, s, hH, ok, sl, hp⟩ => by
    subst hH
    refine gE.seq ok sl (wE w Q) hp fun d w1 v ok1 x1 sl1 r1 hp1 => ?_
    simp only at hp1
    by_cases ht : tyD T d w1.h = true
    · rw [if_pos ht] at hp1
      exact ⟨tyD_tyV ok1 r1 ht, hf w1 d [] v [] Q ok1 r1 .nil ((PstE.lift hp1).mono x1)⟩
    · rw [if_neg ht] at hp1
      exact hp1.elim
theorem qMt (pa : PlainAttrs T) (slot : Slot T name id) (hty : typeOf (.builtin id) = pure (.type "method_descriptor")) (hm : MtR X id r) (hf : MtD X.K r f) (ho : PE X o (gE X W fo)) (ha : PA X (e :: es) (gA X W g))
    (hbase : attributeBase o name X.env (eval o X.env) = eval o X.env := by rfl)
    (hfew : ((backTo cpos (starEach (e :: es) X.env)).all (fun x => !x.1) && (backToKw cpos (keywordEach [] X.env)).all (fun x => x.1.isSome)
      && decide ((e :: es).length + ([] : List Keyword).length + (if ([] : List Keyword).isEmpty then 0 else 1) < 30)) = true := by rfl)
    (hline : (apos.endLine == cpos.line) = true := by rfl) (hs : starEach (e :: es) X.env = (false, eval e X.env) :: starEach es X.env := by rfl) (hplain : (backTo cpos (starEach es X.env)).any (·.1) = false := by rfl) :
    PE X (.Call (.Attribute o name apos) (e :: es) [] cpos) (gE X W (vMt T f fo g)) :=
  PEw (pe_bm pa slot hty hm ho ha hbase hfew hline hs hplain) fun σ H Q ⟨w, s, hH, ok, sl, hp⟩ => by
    subst hH
    refine gE.seq ok sl (wE w Q) hp fun d w1 v ok1 x1 sl1 r1 hp1 => ?_
    simp only at hp1
    by_cases ht : tyD T d w1.h = true
    · rw [if_pos ht] at hp1
      refine ⟨tyD_tyV ok1 r1 ht, ?_⟩
      refine gA.seq ok1 sl1 ((wE w Q).mono x1) hp1 fun ds w2 vs ok2 x2 sl2 r2 hp2 => ?_
      exact hf w2 d ds v vs Q ok2 (x2.rp r1) r2 ((PstE.lift hp2).mono (x1.trans x2))
    · rw [if_neg ht] at hp1
      exact hp1.elim
end
/-- the list at a reference -/
def lstAt (h : VH) : D → Option (Nat × List D)
  | .ref n => match h[n]? with
    | some (.lst l) => some (n, l)
    | _ => none
  | _ => none
theorem lstAt_rp {K : PySem.W.Frag} {w : Wd} {d : D} {v : V} {n : Nat} {l : List D} (ok : w.Ok K) (r : Rp K w d v) (e : lstAt w.h d = some (n, l)) : d = .ref n ∧ w.h[n]? = some (.lst l) ∧ v = .ref (w.ι n) ∧ ∃ us, w.H (w.ι n) = some (.lst us) ∧ Rps K w l us := by
  cases r with
  | @ref m hm =>
    unfold lstAt at e
    simp only at e
    cases e1 : w.h[m]? with
    | none => simp only [e1] at e; cases e
    | some c =>
      cases c with
      | ro _ => simp only [e1] at e; cases e
      | lst l' =>
        simp only [e1] at e
        cases e
        exact ⟨rfl, e1, rfl, ok.cell _ _ e1⟩
  | _ => cases e
def mAppend (x : D) (xs : List D) (h : VH) : Option (D × VH) := (lstAt h x).bind fun p => (one xs).bind fun d => if p.2.length < sizeLine then some (.non, h.set p.1 (.lst (p.2 ++ [d]))) else none
theorem append_mtd (K : PySem.W.Frag) : MtD K rAppend mAppend := fun w x xs vx vs Q ok rx rs h => by
  unfold mAppend at h
  cases e1 : lstAt w.h x with
  | none => rw [e1] at h; exact h.elim
  | some p =>
    obtain ⟨n, l⟩ := p
    obtain ⟨rfl, en, rfl, us, g1, g2⟩ := lstAt_rp ok rx e1
    rw [e1] at h
    simp only [Option.bind_some] at h
    cases e2 : one xs with
    | none => rw [e2] at h; exact h.elim
    | some d =>
      obtain ⟨v, _, rfl, rd⟩ := one_rps rs e2
      rw [e2] at h
      simp only [Option.bind_some] at h
      by_cases hl : l.length < sizeLine
      · rw [if_pos hl] at h
        obtain ⟨ok', x'⟩ := ok.putL (ds := l ++ [d]) (vs := us ++ [v]) en (g2.append (.cons rd .nil))
        exact ⟨_, us, v, rfl, rfl, g1, by rw [← RepL.length g2]; exact hl, h (w.putL n _ _) _ ok' rfl x' .non⟩
      · rw [if_neg hl] at h
        exact h.elim
def mPop (x : D) (xs : List D) (h : VH) : Option (D × VH) := (lstAt h x).bind fun p => if xs.isEmpty = true then (p.2[p.2.length - 1]?).map fun d => (d, h.set p.1 (.lst p.2.dropLast)) else none
theorem RepL.dropLast {K : PySem.W.Frag} {w : Wd} {ds : List D} {vs : List V} (r : Rps K w ds vs) : Rps K w ds.dropLast vs.dropLast := by
  rw [List.dropLast_eq_take, List.dropLast_eq_take, ← RepL.length r]
  exact RepL.take _ r
theorem pop_mtd (K : PySem.W.Frag) : MtD K rPop mPop := fun w x xs vx vs Q ok rx rs h => by
  unfold mPop at h
  cases e1 : lstAt w.h x with
  | none => rw [e1] at h; exact h.elim
  | some p =>
    obtain ⟨n, l⟩ := p
    obtain ⟨rfl, en, rfl, us, g1, g2⟩ := lstAt_rp ok rx e1
    rw [e1] at h
    simp only [Option.bind_some] at h
    cases rs with
    | cons _ _ => exact h.elim
    | nil =>
      simp only [List.isEmpty_nil, if_true] at h
      cases e2 : l[l.length - 1]? with
      | none => rw [e2] at h; exact h.elim
      | some d =>
        rw [e2] at h
        obtain ⟨v, ev, rv⟩ := RepL.get g2 e2
        obtain ⟨ok', x'⟩ := ok.putL (ds := l.dropLast) (vs := us.dropLast) en (RepL.dropLast g2)
        exact ⟨_, us, v, rfl, rfl, g1, by rw [← RepL.length g2]; exact ev, h (w.putL n _ _) v ok' rfl x' (x'.rp rv)⟩
def mExtend (x : D) (xs : List D) (h : VH) : Option (D × VH) := (lstAt h x).bind fun p => ((one xs).bind (lstAt h)).bind fun q => if p.2.length + q.2.length ≤ sizeLine then some (.non, h.set p.1 (.lst (p.2 ++ q.2))) else none
theorem extend_mtd (K : PySem.W.Frag) : MtD K rExtend mExtend := fun w x xs vx vs Q ok rx rs h => by
  unfold mExtend at h
  cases e1 : lstAt w.h x with
  | none => rw [e1] at h; exact h.elim
  | some p =>
    obtain ⟨n, l⟩ := p
    obtain ⟨rfl, en, rfl, us, g1, g2⟩ := lstAt_rp ok rx e1
    rw [e1] at h
    simp only [Option.bind_some] at h
    cases e2 : one xs with
    | none => rw [e2] at h; exact h.elim
    | some d =>
      obtain ⟨v, _, rfl, rd⟩ := one_rps rs e2
      rw [e2] at h
      simp only [Option.bind_some] at h
      cases e3 : lstAt w.h d with
      | none => rw [e3] at h; exact h.elim
      | some q =>
        obtain ⟨m, k⟩ := q
        obtain ⟨rfl, em, rfl, zs, g3, g4⟩ := lstAt_rp ok rd e3
        rw [e3] at h
        simp only [Option.bind_some] at h
        by_cases hl : l.length + k.length ≤ sizeLine
        · rw [if_pos hl] at h
          obtain ⟨ok', x'⟩ := ok.putL (ds := l ++ k) (vs := us ++ zs) en (g2.append g4)
          exact ⟨_, _, us, zs, rfl, rfl, g1, g3, by rw [← RepL.length g2, ← RepL.length g4]; exact hl, h (w.putL n _ _) _ ok' rfl x' .non⟩
        · rw [if_neg hl] at h
          exact h.elim

/-! ### slices -/
abbrev VO := VS → VH → Res (Option Int × VH)
def oNone : VO := fun _ h => .ok (none, h)
def oSome (f : VE) : VO := fun s h => (f s h).bind fun p => match intD p.1 with
  | some i => .ok (some i, p.2)
  | none => .bad
def PstI' (X : Cx) (W : WX) (w : Wd) (r : Res (Option Int × VH)) (Q : Option Int → Hp → Prop) : Prop :=
  match r with
  | .ok p => ∀ w', w'.Ok X.K → w'.h = p.2 → Wd.Ext X.K w w' → Q p.1 w'.H
  | .ex x s h => PstX X W w x s h
  | .bad => False
def gO (X : Cx) (W : WX) (f : VO) : TO := fun σ H Q => ∃ w s, w.H = H ∧ w.Ok X.K ∧ Slots X.K w s σ ∧ PstI' X W w (f s w.h) Q
/-- a slice's items -/
def cutD (l : List D) (lo hi : Option Int) : List D := (l.drop (HT.sIx l.length 0 lo)).take (HT.sIx l.length l.length hi - HT.sIx l.length 0 lo)
def slD (x : D) (lo hi : Option Int) (h : VH) : Option (D × VH) := match x with
  | .tup l => some (.tup (cutD l lo hi), h)
  | .ref n => (lk h n).map fun l => (.ref h.length, h ++ [.lst (cutD l lo hi)])
  | _ => none
def vSl (x : VE) (lo hi : VO) : VE := fun s h => (x s h).bind fun p => (lo s p.2).bind fun q => (hi s q.2).bind fun r => lift (slD p.1 q.1 r.1 r.2)
section
variable {X : Cx} {W : WX} {e : Expr} {f : VE} {lo hi : Option Expr} {fl fh : VO} {pos p2 : Pos}
theorem POw {o : Option Expr} {t t' : TO} (h : PO X o t) (i : ∀ σ H Q, t' σ H Q → t σ H Q) : PO X o t' := ⟨fun pins s σ H Q I q => h.run pins s σ H Q I (i σ H Q q)⟩
theorem qo0 : PO X none (gO X W oNone) := POw po_none fun σ H Q ⟨w, s, hH, ok, sl, hp⟩ => by
  subst hH
  exact hp w ok rfl (.refl w)
theorem wO (w : Wd) (Q : Option Int → Hp → Prop) : Wants X W w (fun r => PstI' X W w r Q) := ⟨id, fun _ _ _ h => h⟩
theorem qo (h : PE X e (gE X W f)) : PO X (some e) (gO X W (oSome f)) := POw (po_some h) fun σ H Q ⟨w, s, hH, ok, sl, hp⟩ => by
  subst hH
  refine gE.seq ok sl (wO w Q) hp fun d w1 v ok1 x1 sl1 r1 hp1 => ?_
  simp only at hp1
  cases e1 : intD d with
  | none => rw [e1] at hp1; exact hp1.elim
  | some i =>
    rw [e1] at hp1
    exact ⟨i, (intD_rp r1 e1).2, hp1 w1 ok1 rfl x1⟩
theorem gO.seq {f : VO} {β : Type} {k : Option Int × VH → Res β} {P : Res β → Prop} {w : Wd} {s : VS} {σ : L2.St} {Q : Option Int → Hp → Prop} (ok : w.Ok X.K) (sl : Slots X.K w s σ) (hP : Wants X W w P) (hp : P ((f s w.h).bind k))
    (hq : ∀ d w1, w1.Ok X.K → Wd.Ext X.K w w1 → Slots X.K w1 s σ → P (k (d, w1.h)) → Q d w1.H) : gO X W f σ w.H Q := by
  refine ⟨w, s, rfl, ok, sl, ?_⟩
  cases e : f s w.h with
  | ok p =>
    rw [e] at hp
    obtain ⟨p1, p2⟩ := p
    intro w' ok' q x
    refine hq p1 w' ok' x (sl.ext x) ?_
    rw [show w'.h = p2 from q]
    exact hp
  | ex x s h => rw [e] at hp; exact hP.ex _ _ _ hp
  | bad => rw [e] at hp; exact (hP.bad hp).elim
theorem cut_rps {K : PySem.W.Frag} {w : Wd} {ds : List D} {vs : List V} (r : Rps K w ds vs) (lo hi : Option Int) : Rps K w (cutD ds lo hi) (cutV vs lo hi) := by
  unfold cutD cutV
  rw [← RepL.length r]
  exact (RepL.drop _ r).take _
theorem qSl (he : PE X e (gE X W f)) (hl : PO X lo (gO X W fl)) (hu : PO X hi (gO X W fh)) : PE X (.Subscript e (.Slice lo hi none p2) pos) (gE X W (vSl f fl fh)) :=
  PEw (pe_slice (SlR.or sl_list sl_tupA) he hl hu) fun σ H Q ⟨w, s, hH, ok, sl, hp⟩ => by
    subst hH
    refine gE.seq ok sl (wE w Q) hp fun d w1 v ok1 x1 sl1 r1 hp1 => ?_
    refine gO.seq ok1 sl1 ((wE w Q).mono x1) hp1 fun i w2 ok2 x2 sl2 hp2 => ?_
    refine gO.seq ok2 sl2 ((wE w Q).mono (x1.trans x2)) hp2 fun j w3 ok3 x3 sl3 hp3 => ?_
    have r3 := (x2.trans x3).rp r1
    have hp3 := (PstE.lift hp3).mono ((x1.trans x2).trans x3)
    unfold slD at hp3
    cases r3 with
    | @tup a vs ds hq rr =>
      simp only at hp3
      refine .inr ⟨a, vs, rfl, hq, fun z => ?_, fun z p hn => ?_⟩
      · have e : cutD ds i j = ds := by
          unfold cutD
          rw [RepL.length rr, z.1, z.2]
          simp [← RepL.length rr]
        rw [e] at hp3
        exact hp3 w3 _ ok3 rfl (.refl w3) (.tup hq rr)
      · exact hp3 (w3.tupAt p (.tup _)) _ (ok3.tupAt hn) rfl (Wd.ext_tupAt hn) (.tup (SqT.of upd_same) ((Wd.ext_tupAt hn).rps (cut_rps rr i j)))
    | @ref n hn =>
      simp only at hp3
      cases el : lk w3.h n with
      | none => rw [el] at hp3; exact hp3.elim
      | some l =>
        rw [el] at hp3
        obtain ⟨us, h1, h2⟩ := lk_sq ok3 el
        exact .inl ⟨_, us, rfl, h1, fun p hq => hp3 (w3.newL p _ _) _ (ok3.newL hq (cut_rps h2 i j)) rfl (Wd.ext_newL hq) at_newL⟩
    | _ => exact hp3.elim
end

/-! ### chains of two comparisons -/
def vChain (f g : D → D → VH → Option (D × VH)) (a b c : VE) : VE := fun s h => (a s h).bind fun p => (b s p.2).bind fun q => (lift (f p.1 q.1 q.2)).bind fun r => match boolD r.1 with
  | some true => (c s r.2).bind fun u => lift (g q.1 u.1 u.2)
  | some false => .ok (.bl false, r.2)
  | none => .bad
section
variable {X : Cx} {W : WX} {a b c : Expr} {fa fb fc : VE} {pos : Pos}
theorem chain_red {r r' : R2} {f g : D → D → VH → Option (D × VH)} (hf : OpD X.K r f) (hg : OpD X.K r' g) {σ : L2.St} {H : Hp} {Q : VK} (h : gE X W (vChain f g fa fb fc) σ H Q) : tChain r r' (gE X W fa) (gE X W fb) (gE X W fc) σ H Q := by
  obtain ⟨w, s, hH, ok, sl, hp⟩ := h
  subst hH
  refine gE.seq ok sl (wE w Q) hp fun d w1 v ok1 x1 sl1 r1 hp1 => ?_
  refine gE.seq ok1 sl1 ((wE w Q).mono x1) hp1 fun d2 w2 v2 ok2 x2 sl2 r2 hp2 => ?_
  refine hf w2 d d2 v v2 _ ok2 (x2.rp r1) r2 ?_
  simp only at hp2
  cases e : f d d2 w2.h with
  | none => rw [e] at hp2; exact hp2.elim
  | some p =>
    obtain ⟨z, h3⟩ := p
    rw [e] at hp2
    simp only [lift_some, Res.ok_bind] at hp2
    intro w3 vz ok3 e3 x3 rz
    have e3 : w3.h = h3 := e3
    subst e3
    cases rz with
    | bl k =>
      refine ⟨k, rfl, ?_⟩
      cases k with
      | false =>
        simp only [boolD, Bool.false_eq_true, if_false] at hp2 ⊢
        exact hp2 w3 _ ok3 rfl ((x1.trans x2).trans x3) (.bl _)
      | true =>
        simp only [boolD, if_true] at hp2 ⊢
        refine gE.seq ok3 (sl2.ext x3) ((wE w Q).mono ((x1.trans x2).trans x3)) hp2 fun d4 w4 v4 ok4 x4 sl4 r4 hp4 => ?_
        exact hg w4 d2 d4 v2 v4 Q ok4 ((x3.trans x4).rp r2) r4 ((PstE.lift hp4).mono (((x1.trans x2).trans x3).trans x4))
    | _ => exact hp2.elim
theorem qChain {op op' : CmpOp} {r r' : R2} {f g : D → D → VH → Option (D × VH)} (ho : OpR X (compareOp op) r) (hf : OpD X.K r f) (ho' : OpR X (compareOp op') r') (hg : OpD X.K r' g) (ha : PE X a (gE X W fa)) (hb : PE X b (gE X W fb)) (hc : PE X c (gE X W fc))
    (hm : lastMarks [op, op'] [b, c] = false := by with_unfolding_all rfl) : PE X (.Compare a [op, op'] [b, c] pos) (gE X W (vChain f g fa fb fc)) := PEw (pe_chain ho ho' ha hb hc hm) fun _ _ _ h => chain_red hf hg h
end

/-! ### a, b = x, y; a, b, c = x, y, z -/
def vPar3 (i j l : Nat) (a : VA) : VSt := fun s h => (a s h).bind fun p => match p.1 with
  | [x, y, z] => .ok (.nx, ((s.set i (some x)).set j (some y)).set l (some z), p.2)
  | _ => .bad
section
variable {X : Cx} {W : WX} {i j l : Nat} {x y z : Str} {a b c : Expr} {f : VA} {px py pz pt pos : Pos} {kt : Nat} {k2 : Nat} {pt2 : Pos}
theorem qPar2 (hc : X.calm = true) (hN : X.N.Nodup) (ha : PA X [a, b] (gA X W f)) (hi : X.N[i]? = some x := by rfl) (hj : X.N[j]? = some y := by rfl) (hij : i ≠ j := by decide)
    (hx : X.env.scope.names.lookup x = some .local := by rfl) (hy : X.env.scope.names.lookup y = some .local := by rfl)
    (hw : swappedStores [.Tuple [.Name x px, .Name y py] kt pt] (.Tuple [a, b] k2 pt2) X.env = pure (some [x, y]) := by rfl)
    (hs : swapsWithSole [.Tuple [.Name x px, .Name y py] kt pt] (.Tuple [a, b] k2 pt2) pos.line X.env = pure false := by rfl) :
    PS X (.Assign [.Tuple [.Name x px, .Name y py] kt pt] (.Tuple [a, b] k2 pt2) pos) (gS X W (vPar i j f)) :=
  qPar hc hN hi hj hij ha fun t h => ps_par hc hN hi hj hij hx hy h hw hs
theorem qPar3 (hc : X.calm = true) (hN : X.N.Nodup) (ha : PA X [a, b, c] (gA X W f)) (hi : X.N[i]? = some x := by rfl) (hj : X.N[j]? = some y := by rfl) (hl : X.N[l]? = some z := by rfl) (hij : i ≠ j := by decide) (hil : i ≠ l := by decide) (hjl : j ≠ l := by decide)
    (hx : X.env.scope.names.lookup x = some .local := by rfl) (hy : X.env.scope.names.lookup y = some .local := by rfl) (hz : X.env.scope.names.lookup z = some .local := by rfl)
    (hw : swappedStores [.Tuple [.Name x px, .Name y py, .Name z pz] kt pt] (.Tuple [a, b, c] k2 pt2) X.env = pure (some [x, y, z]) := by rfl)
    (hs : swapsWithSole [.Tuple [.Name x px, .Name y py, .Name z pz] kt pt] (.Tuple [a, b, c] k2 pt2) pos.line X.env = pure false := by rfl) :
    PS X (.Assign [.Tuple [.Name x px, .Name y py, .Name z pz] kt pt] (.Tuple [a, b, c] k2 pt2) pos) (gS X W (vPar3 i j l f)) :=
  PSw (ps_par3 hc hN hi hj hl hij hil hjl hx hy hz ha hw hs) fun D σ H ⟨w, s, hH, ok, sl, hp⟩ => by
    subst hH
    refine gA.seq ok sl (wS w D) hp fun d w1 v ok1 x1 sl1 r1 hp1 => ?_
    cases r1 with
    | nil => exact hp1.elim
    | cons r1 rr =>
      cases rr with
      | nil => exact hp1.elim
      | cons r2 rr =>
        cases rr with
        | nil => exact hp1.elim
        | cons r3 rr =>
          cases rr with
          | cons _ _ => exact hp1.elim
          | nil => exact ⟨_, _, _, rfl, hp1 w1 _ ok1 rfl x1 (((sl1.set i r1).set j r2).set l r3)⟩
end
end Vq

/-! Part 13: what the printed derivations use. -/
namespace Vq
open PySem PySem.Spec PyProof.Rows L2

theorem At.blk {X : Cx} {W : WX} {k : Nat} (a : At X W k) {s : Shared} {H : Hp} {scope : Scope} {cenv : Env} {fp : List Addr} : At (X.blk s H scope cenv fp) W0 k :=
  ⟨a.room, a.gd, fun u s' ⟨_, _, _, _, _, _, _, _, _, _, _, _, _, _, _, _, z⟩ => z.elim, PassesOwn.never⟩
theorem At.rp {X : Cx} {W : WX} {k : Nat} (a : At X W k) : X.A.units + 70 < cLine := by
  have := a.room.un
  omega
theorem At.hu {X : Cx} {W : WX} {k : Nat} (a : At X W k) : X.A.units + 64 < cLine := a.room.units

theorem bindP_of {K : PySem.W.Frag} {x qual : Str} {st : Stmt} {f : Addr} {fd : FuncData} {ps : List Str} (F : Fun K x qual st f fd)
    (h : ∀ (kV doc pm : Value) (an : Option Addr) (cdv ct : Value) (us : List Value), us.length = ps.length → bindArgs (PySem.W.fnOf x qual (defArgs st) (defBody st) (defScope st) .none kV doc pm an cdv ct) ⟨us, []⟩ = pure (ps.zip us)) : BindP K fd ps := by
  obtain ⟨oc, od, kV, doc, pm, an, cdv, ct, osl, rfl, _, _⟩ := F.ex
  exact fun us hl => h kV doc pm an cdv ct us hl

/-- the values in the parameters' order -/
def permL (ix : List Nat) {α : Type} (us ws : List α) : List α := ix.filterMap fun i => (us ++ ws)[i]?
theorem get_reps {K : PySem.W.Frag} {w : Wd} {ds : List D} {vs : List V} (r : Rps K w ds vs) : ∀ ix : List Nat, Rps K w (ix.filterMap fun i => ds[i]?) (ix.filterMap fun i => vs[i]?)
  | [] => .nil
  | i :: ix => by
    have ih := get_reps r ix
    cases e : ds[i]? with
    | none =>
      have e2 : vs[i]? = none := List.getElem?_eq_none (by rw [← RepL.length r]; exact List.getElem?_eq_none_iff.mp e)
      simp only [List.filterMap_cons, e, e2]
      exact ih
    | some d =>
      obtain ⟨v, e2, rv⟩ := RepL.get r e
      simp only [List.filterMap_cons, e, e2]
      exact .cons rv ih
theorem get_vals {vs : List V} {us : List Value} (r : Vals vs us) : ∀ ix : List Nat, Vals (ix.filterMap fun i => vs[i]?) (ix.filterMap fun i => us[i]?)
  | [] => .nil
  | i :: ix => by
    have ih := get_vals r ix
    cases e : vs[i]? with
    | none =>
      simp only [List.filterMap_cons, e, r.none_of e]
      exact ih
    | some v =>
      obtain ⟨u, e2, ru⟩ := r.get e
      simp only [List.filterMap_cons, e, e2]
      exact .cons ru ih
theorem bindK_of {K : PySem.W.Frag} {x qual : Str} {st : Stmt} {f : Addr} {fd : FuncData} {ps : List Str} (F : Fun K x qual st f fd) (ks : List Str) (n : Nat) (ix : List Nat)
    (h : ∀ (kV doc pm : Value) (an : Option Addr) (cdv ct : Value) (us ws : List Value), us.length = n → ws.length = ks.length →
      bindArgs (PySem.W.fnOf x qual (defArgs st) (defBody st) (defScope st) .none kV doc pm an cdv ct) ⟨us, ks.zip ws⟩ = pure (ps.zip (permL ix us ws))) : BindK fd ps ks n (permL ix) := by
  obtain ⟨oc, od, kV, doc, pm, an, cdv, ct, osl, rfl, _, _⟩ := F.ex
  exact ⟨fun us ws h1 h2 => h kV doc pm an cdv ct us ws h1 h2, fun K w ds es vs zs r1 r2 => get_reps (r1.append r2) ix, fun vs zs us ws r1 r2 => get_vals (r1.append r2) ix⟩
/-- the keywords' order as it stands in the printed text -/
def kwP (n m np : Nat) (ix : List Nat) : List D → List D → List D := fun a b => if a.length = n ∧ b.length = m then permL ix a b else List.replicate (np + 1) .non
end Vq

/-! Part 14: reckoning with denotations. -/
namespace Vq
open PySem

section
variable (s : VS) (h : VH)
@[simp] theorem vVar_ap (i : Nat) : vVar i s h = match s[i]? with
  | some (some d) => .ok (d, h)
  | _ => .bad := rfl
@[simp] theorem vC_ap (d : D) : vC d s h = .ok (d, h) := rfl
@[simp] theorem vNil_ap : vNil s h = .ok ([], h) := rfl
@[simp] theorem vCons_ap (f : VE) (g : VA) : vCons f g s h = (f s h).bind fun p => (g s p.2).bind fun q => .ok (p.1 :: q.1, q.2) := rfl
@[simp] theorem vTup_ap (g : VA) : vTup g s h = (g s h).bind fun p => if p.1.length ≤ sizeLine then .ok (.tup p.1, p.2) else .bad := rfl
@[simp] theorem vLst_ap (g : VA) : vLst g s h = (g s h).bind fun p => if p.1.length ≤ sizeLine then .ok (.ref p.2.length, p.2 ++ [.lst p.1]) else .bad := rfl
@[simp] theorem vOp_ap (f : D → D → VH → Option (D × VH)) (a b : VE) : vOp f a b s h = (a s h).bind fun p => (b s p.2).bind fun q => lift (f p.1 q.1 q.2) := rfl
@[simp] theorem vTr_ap (f : VE) : vTr f s h = (f s h).bind fun p => match p.1 with
  | .bl b => .ok (b, p.2)
  | _ => .bad := rfl
@[simp] theorem vNotT_ap (f : VT) : vNotT f s h = (f s h).bind fun p => .ok (!p.1, p.2) := rfl
@[simp] theorem vAndT_ap (f g : VT) : vAndT f g s h = (f s h).bind fun p => if p.1 = true then g s p.2 else .ok (false, p.2) := rfl
@[simp] theorem vOrT_ap (f g : VT) : vOrT f g s h = (f s h).bind fun p => if p.1 = true then .ok (true, p.2) else g s p.2 := rfl
@[simp] theorem vAnd_ap (f g : VE) : vAnd f g s h = (f s h).bind fun p => match p.1 with
  | .bl true => g s p.2
  | .bl false => .ok (.bl false, p.2)
  | _ => .bad := rfl
@[simp] theorem vOr_ap (f g : VE) : vOr f g s h = (f s h).bind fun p => match p.1 with
  | .bl true => .ok (.bl true, p.2)
  | .bl false => g s p.2
  | _ => .bad := rfl
@[simp] theorem vNot_ap (f : VE) : vNot f s h = (f s h).bind fun p => match p.1 with
  | .bl b => .ok (.bl (!b), p.2)
  | _ => .bad := rfl
@[simp] theorem vIf_ap (c : VT) (f g : VE) : vIf c f g s h = (c s h).bind fun p => if p.1 = true then f s p.2 else g s p.2 := rfl
@[simp] theorem vUn_ap (f : D → VH → Option (D × VH)) (a : VE) : vUn f a s h = (a s h).bind fun p => lift (f p.1 p.2) := rfl
@[simp] theorem vBl_ap (f : List D → VH → Option (D × VH)) (a : VA) : vBl f a s h = (a s h).bind fun p => lift (f p.1 p.2) := rfl
@[simp] theorem vSeq_ap (f g : VSt) : vSeq f g s h = (f s h).bind fun p => match p with
  | (.nx, s', h') => g s' h'
  | q => .ok q := rfl
@[simp] theorem vPass_ap : vPass s h = .ok (.nx, s, h) := rfl
@[simp] theorem vBreak_ap : vBreak s h = .ok (.bk, s, h) := rfl
@[simp] theorem vCont_ap : vCont s h = .ok (.ct, s, h) := rfl
@[simp] theorem vRet_ap (f : VE) : vRet f s h = (f s h).bind fun p => .ok (.rt p.1, s, p.2) := rfl
@[simp] theorem vRetN_ap : vRetN s h = .ok (.rt .non, s, h) := rfl
@[simp] theorem vDrop_ap (f : VE) : vDrop f s h = (f s h).bind fun p => .ok (.nx, s, p.2) := rfl
@[simp] theorem vIfS_ap (c : VT) (f g : VSt) : vIfS c f g s h = (c s h).bind fun p => if p.1 = true then f s p.2 else g s p.2 := rfl
@[simp] theorem vAsg_ap (f : VE) (g : VG) : vAsg f g s h = (f s h).bind fun p => (g p.1 s p.2).bind fun q => .ok (.nx, q.1, q.2) := rfl
@[simp] theorem gName_ap (i : Nat) (d : D) : gName i d s h = .ok (s.set i (some d), h) := rfl
@[simp] theorem gsNil_ap : gsNil [] s h = .ok (s, h) := rfl
@[simp] theorem gsCons_ap (g : VG) (k : VGs) (d : D) (r : List D) : gsCons g k (d :: r) s h = (g d s h).bind fun p => k r p.1 p.2 := rfl
@[simp] theorem gTupl_ap (n : Nat) (k : VGs) (l : List D) : gTupl n k (.tup l) s h = if l.length = n then k l s h else .bad := rfl
@[simp] theorem gSubs_ap (f : D → D → D → VH → Option VH) (o i : VE) (d : D) : gSubs f o i d s h = (o s h).bind fun p => (i s p.2).bind fun q => (lift (f p.1 q.1 d q.2)).bind fun h' => .ok (s, h') := rfl
@[simp] theorem vPar_ap (i j : Nat) (a : VA) : vPar i j a s h = (a s h).bind fun p => match p.1 with
  | [x, y] => .ok (.nx, (s.set i (some x)).set j (some y), p.2)
  | _ => .bad := rfl
@[simp] theorem vPar3_ap (i j l : Nat) (a : VA) : vPar3 i j l a s h = (a s h).bind fun p => match p.1 with
  | [x, y, z] => .ok (.nx, ((s.set i (some x)).set j (some y)).set l (some z), p.2)
  | _ => .bad := rfl
@[simp] theorem vIt_ap (f : VE) : vIt f s h = (f s h).bind fun p => match srcOf p.1 with
  | some src => .ok (src, p.2)
  | none => .bad := rfl
@[simp] theorem vMt_ap (T : String) (f : D → List D → VH → Option (D × VH)) (o : VE) (a : VA) : vMt T f o a s h = (o s h).bind fun p => if tyD T p.1 p.2 = true then (a s p.2).bind fun q => lift (f p.1 q.1 q.2) else .bad := rfl
@[simp] theorem vSl_ap (x : VE) (lo hi : VO) : vSl x lo hi s h = (x s h).bind fun p => (lo s p.2).bind fun q => (hi s q.2).bind fun r => lift (slD p.1 q.1 r.1 r.2) := rfl
@[simp] theorem oNone_ap : oNone s h = .ok (none, h) := rfl
@[simp] theorem oSome_ap (f : VE) : oSome f s h = (f s h).bind fun p => match intD p.1 with
  | some i => .ok (some i, p.2)
  | none => .bad := rfl
@[simp] theorem vChain_ap (f g : D → D → VH → Option (D × VH)) (a b c : VE) : vChain f g a b c s h = (a s h).bind fun p => (b s p.2).bind fun q => (lift (f p.1 q.1 q.2)).bind fun r => match boolD r.1 with
  | some true => (c s r.2).bind fun u => lift (g q.1 u.1 u.2)
  | some false => .ok (.bl false, r.2)
  | none => .bad := rfl
@[simp] theorem vCall_ap (n : Nat) (F : Fn) (a : VA) : vCall n F a s h = (a s h).bind fun p => if p.1.length = n then callR s (F p.1 p.2) else .bad := rfl
@[simp] theorem vCallK_ap (n : Nat) (F : Fn) (pl : List D → List D → List D) (a k : VA) : vCallK n F pl a k s h = (a s h).bind fun p => (k s p.2).bind fun q => if (pl p.1 q.1).length = n then callR s (F (pl p.1 q.1) q.2) else .bad := rfl
@[simp] theorem vYes_ap : vYes s h = .ok (true, h) := rfl
@[simp] theorem vLRev_ap (a : VA) : vLRev a s h = (a s h).bind fun p => match (one p.1) with
  | some (.ref n) => match lk p.2 n with
    | some l => .ok (.ref p.2.length, p.2 ++ [.lst l.reverse])
    | none => .bad
  | _ => .bad := rfl
end

/-! ### values -/
@[simp] theorem intD_i (i : Int) : intD (.int i) = some i := rfl
@[simp] theorem one_1 (d : D) : one [d] = some d := rfl
@[simp] theorem two_2 (d e : D) : two [d, e] = some (d, e) := rfl
@[simp] theorem int1_1 (i : Int) : int1 [.int i] = some i := rfl
@[simp] theorem int2_2 (i j : Int) : int2 [.int i, .int j] = some (i, j) := rfl
@[simp] theorem int2_1 (d : D) : int2 [d] = none := rfl
@[simp] theorem boolD_b (b : Bool) : boolD (.bl b) = some b := rfl
@[simp] theorem srcOf_t (l : List D) : srcOf (.tup l) = some fun _ => some l := rfl
@[simp] theorem srcOf_r (n : Nat) : srcOf (.ref n) = some fun h => lk h n := rfl
@[simp] theorem seqOf_t (h : VH) (l : List D) : seqOf h (.tup l) = some l := rfl
@[simp] theorem seqOf_r (h : VH) (n : Nat) : seqOf h (.ref n) = lk h n := rfl
@[simp] theorem aAdd_i (i j : Int) (h : VH) : aAdd (.int i) (.int j) h = some (.int (i + j), h) := rfl
@[simp] theorem aSub_i (i j : Int) (h : VH) : aSub (.int i) (.int j) h = some (.int (i - j), h) := rfl
@[simp] theorem dAdd_i (i j : Int) (h : VH) : dAdd (.int i) (.int j) h = some (.int (i + j), h) := rfl
@[simp] theorem dAdd_t (a b : List D) (h : VH) : dAdd (.tup a) (.tup b) h = if a.length + b.length ≤ sizeLine then some (.tup (a ++ b), h) else none := by
  unfold dAdd orD aAdd ii tAddT tAddL tAddS
  by_cases c : a.length + b.length ≤ sizeLine <;> simp [c]
@[simp] theorem aLt_i (i j : Int) (h : VH) : aLt (.int i) (.int j) h = some (.bl (decide (i < j)), h) := rfl
@[simp] theorem aLe_i (i j : Int) (h : VH) : aLe (.int i) (.int j) h = some (.bl (decide (i ≤ j)), h) := rfl
@[simp] theorem aGt_i (i j : Int) (h : VH) : aGt (.int i) (.int j) h = some (.bl (decide (j < i)), h) := rfl
@[simp] theorem aGe_i (i j : Int) (h : VH) : aGe (.int i) (.int j) h = some (.bl (decide (j ≤ i)), h) := rfl
@[simp] theorem uNeg_i (i : Int) (h : VH) : uNeg (.int i) h = some (.int (-i), h) := rfl
theorem aMod_i {i j : Int} {h : VH} (hj : j ≠ 0) : aMod (.int i) (.int j) h = some (.int (i.fmod j), h) := by
  simp [aMod, ii, hj]
theorem aFdv_i {i j : Int} {h : VH} (hj : divOk j = true) : aFdv (.int i) (.int j) h = some (.int (i.fdiv j), h) := by
  simp [aFdv, ii, hj]
theorem dMul_i {i j : Int} {h : VH} (hj : mulOk i j = true) : dMul (.int i) (.int j) h = some (.int (i * j), h) := by
  simp [dMul, orD, aMul, ii, hj]
theorem aPow_i {i j : Int} {h : VH} (hj : powOk i j = true) : aPow (.int i) (.int j) h = some (.int (i ^ j.toNat), h) := by
  simp [aPow, ii, hj]
@[simp] theorem dIx_i (x : D) (i : Int) (h : VH) : dIx x (.int i) h = (seqOf h x).bind fun l => (L2.atI l i).map fun d => (d, h) := rfl
@[simp] theorem bInt_i (i : Int) (h : VH) : bInt [.int i] h = some (.int i, h) := rfl
@[simp] theorem bInt_b (b : Bool) (h : VH) : bInt [.bl b] h = some (.int (if b = true then 1 else 0), h) := rfl
@[simp] theorem bAbs_i (i : Int) (h : VH) : bAbs [.int i] h = some (.int (if i < 0 then -i else i), h) := rfl
@[simp] theorem bTup_s (d : D) (h : VH) : bTup [d] h = ((seqOf h d).map .tup).map fun d => (d, h) := rfl
@[simp] theorem bList_s (d : D) (h : VH) : bList [d] h = (seqOf h d).map fun l => (.ref h.length, h ++ [.lst l]) := rfl
@[simp] theorem bLen_t (l : List D) (h : VH) : bLen [.tup l] h = some (.int l.length, h) := rfl
@[simp] theorem bLen_r (n : Nat) (h : VH) : bLen [.ref n] h = (lk h n).map fun l => (.int l.length, h) := by
  unfold bLen pureB
  simp [one]
  rfl
@[simp] theorem dIsN_n (x : D) (h : VH) : dIsN x .non h = some (.bl (isNon x), h) := rfl
@[simp] theorem dNotN_n (x : D) (h : VH) : dNotN x .non h = some (.bl (!isNon x), h) := rfl
@[simp] theorem isNon_n : isNon .non = true := rfl
@[simp] theorem isNon_t (l : List D) : isNon (.tup l) = false := rfl
@[simp] theorem isNon_i (i : Int) : isNon (.int i) = false := rfl
@[simp] theorem permL_ap (ix : List Nat) {α : Type} (us ws : List α) : permL ix us ws = ix.filterMap fun i => (us ++ ws)[i]? := rfl
@[simp] theorem kwP_ap (n m np : Nat) (ix : List Nat) (a b : List D) : kwP n m np ix a b = if a.length = n ∧ b.length = m then permL ix a b else List.replicate (np + 1) .non := rfl

section
variable {s : VS} {h h1 : VH} {a : VA}
theorem vRng1_of {j : Int} (e : a s h = .ok ([.int j], h1)) (hj : inRng j = true) : vRng1 a s h = .ok (fun _ => some (rangeD 0 1 j.toNat), h1) := by
  unfold vRng1
  rw [e]
  simp only [Res.ok_bind, int1_1, hj, if_true]
theorem vRng2_of {i j : Int} (e : a s h = .ok ([.int i, .int j], h1)) (hi : inRng i = true) (hj : inRng j = true) : vRng2 a s h = .ok (fun _ => some (rangeD i 1 (j - i).toNat), h1) := by
  unfold vRng2
  rw [e]
  simp only [Res.ok_bind, int2_2, hi, hj, Bool.and_self, if_true]
theorem vEnum_of {d : D} {src : VH → Option (List D)} (e : a s h = .ok ([d], h1)) (es : srcOf d = some src) : vEnum a s h = .ok (fun h => (src h).map enumD, h1) := by
  unfold vEnum
  rw [e]
  simp only [Res.ok_bind, one_1, Option.bind_some, es]
theorem vZip_of {d e : D} {src : VH → Option (List D)} (e1 : a s h = .ok ([d, e], h1)) (es : zipSrc (d, e) = some src) : vZip a s h = .ok (src, h1) := by
  unfold vZip
  rw [e1]
  simp only [Res.ok_bind, two_2, Option.bind_some, es]
end

/-! ### heaps that grow at their end -/
@[simp] theorem lk_at (h : VH) (l : List D) (r : VH) : lk (h ++ .lst l :: r) h.length = some l := by simp [lk]
@[simp] theorem lk_at1 (h : VH) (c : Cell) (l : List D) (r : VH) : lk (h ++ c :: .lst l :: r) (h.length + 1) = some l := by
  unfold lk
  rw [List.getElem?_append_right (by omega)]
  simp
@[simp] theorem lk_at2 (h : VH) (c c2 : Cell) (l : List D) (r : VH) : lk (h ++ c :: c2 :: .lst l :: r) (h.length + 2) = some l := by
  unfold lk
  rw [List.getElem?_append_right (by omega)]
  simp
theorem lk_app {h : VH} {n : Nat} {l : List D} (e : lk h n = some l) (g : VH) : lk (h ++ g) n = some l := by
  unfold lk at e ⊢
  have : n < h.length := by
    by_cases q : n < h.length
    · exact q
    · rw [List.getElem?_eq_none (by omega)] at e
      cases e
  rw [List.getElem?_append_left this]
  exact e
@[simp] theorem set_at (h : VH) (c d : Cell) (r : VH) : (h ++ c :: r).set h.length d = h ++ d :: r := by
  rw [List.set_append_right _ _ (Nat.le_refl _)]
  simp
@[simp] theorem set_at1 (h : VH) (b c d : Cell) (r : VH) : (h ++ b :: c :: r).set (h.length + 1) d = h ++ b :: d :: r := by
  rw [List.set_append_right _ _ (by omega)]
  simp

/-! ### loops -/
/-- one turn -/
def turn (g : VG) (body : VSt) (d : D) (s : VS) (h : VH) : Res (Out × VS × VH) := (g d s h).bind fun q => body q.1 q.2
/-- a turn that goes on to the next -/
def Goes (r : Res (Out × VS × VH)) (s : VS) (h : VH) : Prop := r = .ok (.nx, s, h) ∨ r = .ok (.ct, s, h)
/-- a for whose turns keep I, or hand something back -/
theorem loop_run {src : VH → Option (List D)} {g : VG} {body : VSt} {xs : List D} (I : Nat → VS → VH → Prop) (R : D → VS → VH → Prop)
    (hsrc : ∀ i s h, I i s h → src h = some xs)
    (step : ∀ i d s h, xs[i]? = some d → I i s h → (∃ s' h', Goes (turn g body d s h) s' h' ∧ I (i + 1) s' h') ∨ ∃ d' s' h', turn g body d s h = .ok (.rt d', s', h') ∧ R d' s' h') :
    ∀ (n i : Nat) (s : VS) (h : VH), i + n = xs.length → I i s h →
      (∃ s' h', loopF src g body n i s h = .ok (.nx, s', h') ∧ I xs.length s' h') ∨ ∃ d' s' h', loopF src g body n i s h = .ok (.rt d', s', h') ∧ R d' s' h'
  | 0, i, s, h, e, hi => by
    have e' : i = xs.length := by omega
    subst e'
    refine .inl ⟨s, h, ?_, hi⟩
    unfold loopF
    rw [hsrc _ _ _ hi]
    simp
  | n + 1, i, s, h, e, hi => by
    have hlt : i < xs.length := by omega
    have ei : xs[i]? = some xs[i] := List.getElem?_eq_getElem hlt
    unfold loopF
    simp only [hsrc _ _ _ hi, ei]
    rcases step i _ s h ei hi with ⟨s', h', go, hi'⟩ | ⟨d', s', h', er, hr⟩
    · have ih := loop_run I R hsrc step n (i + 1) s' h' (by omega) hi'
      unfold turn at go
      cases eg : g xs[i] s h with
      | bad => rw [eg] at go; rcases go with go | go <;> cases go
      | ex _ _ _ => rw [eg] at go; rcases go with go | go <;> cases go
      | ok q =>
        rw [eg] at go
        simp only [Res.ok_bind] at go ⊢
        rcases go with go | go <;> (rw [go]; exact ih)
    · refine .inr ⟨d', s', h', ?_, hr⟩
      unfold turn at er
      cases eg : g xs[i] s h with
      | bad => rw [eg] at er; cases er
      | ex _ _ _ => rw [eg] at er; cases er
      | ok q =>
        rw [eg] at er
        simp only [Res.ok_bind] at er ⊢
        rw [er]
        rfl
theorem for_run {it : VI} {g : VG} {body : VSt} {s : VS} {h h1 : VH} {src : VH → Option (List D)} {xs : List D} (I : Nat → VS → VH → Prop) (R : D → VS → VH → Prop)
    (hit : it s h = .ok (src, h1)) (hsrc : ∀ i s h, I i s h → src h = some xs) (h0 : I 0 s h1)
    (step : ∀ i d s h, xs[i]? = some d → I i s h → (∃ s' h', Goes (turn g body d s h) s' h' ∧ I (i + 1) s' h') ∨ ∃ d' s' h', turn g body d s h = .ok (.rt d', s', h') ∧ R d' s' h') :
    (∃ s' h', vFor it g body s h = .ok (.nx, s', h') ∧ I xs.length s' h') ∨ ∃ d' s' h', vFor it g body s h = .ok (.rt d', s', h') ∧ R d' s' h' := by
  have z := loop_run I R hsrc step xs.length 0 s h1 (by omega) h0
  unfold vFor
  simp only [hit, Res.ok_bind, hsrc _ _ _ h0]
  exact z
/-- .. that hands nothing back -/
theorem for_all {it : VI} {g : VG} {body : VSt} {s : VS} {h h1 : VH} {src : VH → Option (List D)} {xs : List D} (I : Nat → VS → VH → Prop)
    (hit : it s h = .ok (src, h1)) (hsrc : ∀ i s h, I i s h → src h = some xs) (h0 : I 0 s h1)
    (step : ∀ i d s h, xs[i]? = some d → I i s h → ∃ s' h', Goes (turn g body d s h) s' h' ∧ I (i + 1) s' h') :
    ∃ s' h', vFor it g body s h = .ok (.nx, s', h') ∧ I xs.length s' h' := by
  rcases for_run I (fun _ _ _ => False) hit hsrc h0 (fun i d s h e hi => .inl (step i d s h e hi)) with z | ⟨_, _, _, _, z⟩
  · exact z
  · exact z.elim

/-! ### comprehensions -/
/-- a fold that maps -/
def mapS {S α β : Type} (f : S → α → β × S) : List α → S → List β × S
  | [], s => ([], s)
  | a :: r, s => let p := f s a; let q := mapS f r p.2; (p.1 :: q.1, q.2)
theorem mapS_length {S α β : Type} (f : S → α → β × S) : ∀ (l : List α) (s : S), (mapS f l s).1.length = l.length
  | [], _ => rfl
  | a :: r, s => by simp [mapS, mapS_length f r]
/-- a comprehension without a test whose element turns a state; the heap by the state -/
theorem lc_st {S α : Type} {it : VI} {vs : List Nat} {g : VP} {e : VE} {s : VS} {h : VH} {src : VH → Option (List D)} {ys : List α} {c : α → D} (hp : S → VH) (f : S → α → D × S) (st : S)
    (hit : it s h = .ok (src, hp st)) (hlen : ∀ st', (hp st').length = (hp st).length) (hsrc : ∀ st' acc, src (hp st' ++ [.lst acc]) = some (ys.map c)) (hz : ys.length ≤ sizeLine)
    (step : ∀ y ∈ ys, ∀ st' acc, ∃ s', g (c y) (vwipe s vs) = some s' ∧ e s' (hp st' ++ [.lst acc]) = .ok ((f st' y).1, hp (f st' y).2 ++ [.lst acc])) :
    vLc it vs g vYes e s h = .ok (.ref (hp st).length, hp (mapS f ys st).2 ++ [.lst (mapS f ys st).1]) := by
  have gen : ∀ (k i : Nat) (st' : S) (acc : List D), i + k = ys.length → acc.length = i →
      lcF src vs g vYes e (hp st).length s k i (hp st' ++ [.lst acc]) = .ok (hp (mapS f (ys.drop i) st').2 ++ [.lst (acc ++ (mapS f (ys.drop i) st').1)]) := by
    intro k
    induction k with
    | zero =>
      intro i st' acc e1 e2
      unfold lcF
      rw [hsrc]
      simp only
      rw [if_pos (by rw [List.length_map]; omega), List.drop_eq_nil_of_le (by omega)]
      simp [mapS]
    | succ k ih =>
      intro i st' acc e1 e2
      have hlt : i < ys.length := by omega
      obtain ⟨s', eg, ee⟩ := step ys[i] (List.getElem_mem hlt) st' acc
      unfold lcF
      rw [hsrc]
      simp only [List.getElem?_map, List.getElem?_eq_getElem hlt, Option.map_some, eg, vYes_ap, noex_ok, Res.ok_bind, if_true, ee]
      have pa : putAt (hp st).length (f st' ys[i]).1 (hp (f st' ys[i]).2 ++ [.lst acc]) = .ok (hp (f st' ys[i]).2 ++ [.lst (acc ++ [(f st' ys[i]).1])]) := by
        unfold putAt
        rw [← hlen (f st' ys[i]).2]
        simp only [List.getElem?_concat_length]
        rw [if_pos (by omega)]
        rw [set_at]
      rw [pa]
      simp only [Res.ok_bind]
      rw [ih (i + 1) _ _ (by omega) (by simp [e2])]
      rw [List.drop_eq_getElem_cons hlt]
      simp [mapS]
  unfold vLc
  simp only [hit, Res.ok_bind, hsrc]
  rw [show (ys.map c).length = ys.length from List.length_map ..]
  rw [gen ys.length 0 st [] (by omega) rfl]
  simp
/-- .. whose element leaves the heap, with a test -/
theorem lc_pure {α : Type} {it : VI} {vs : List Nat} {g : VP} {t : VT} {e : VE} {s : VS} {h h1 : VH} {src : VH → Option (List D)} {ys : List α} {c : α → D} (p : α → Bool) (f : α → D)
    (hit : it s h = .ok (src, h1)) (hsrc : ∀ acc, src (h1 ++ [.lst acc]) = some (ys.map c)) (hz : ys.length ≤ sizeLine)
    (step : ∀ y ∈ ys, ∀ acc, ∃ s', g (c y) (vwipe s vs) = some s' ∧ t s' (h1 ++ [.lst acc]) = .ok (p y, h1 ++ [.lst acc]) ∧ (p y = true → e s' (h1 ++ [.lst acc]) = .ok (f y, h1 ++ [.lst acc]))) :
    vLc it vs g t e s h = .ok (.ref h1.length, h1 ++ [.lst ((ys.filter p).map f)]) := by
  have gen : ∀ (k i : Nat) (acc : List D), i + k = ys.length → acc.length ≤ i →
      lcF src vs g t e h1.length s k i (h1 ++ [.lst acc]) = .ok (h1 ++ [.lst (acc ++ ((ys.drop i).filter p).map f)]) := by
    intro k
    induction k with
    | zero =>
      intro i acc e1 e2
      unfold lcF
      rw [hsrc]
      simp only
      rw [if_pos (by rw [List.length_map]; omega), List.drop_eq_nil_of_le (by omega)]
      simp
    | succ k ih =>
      intro i acc e1 e2
      have hlt : i < ys.length := by omega
      obtain ⟨s', eg, et, ee⟩ := step ys[i] (List.getElem_mem hlt) acc
      unfold lcF
      rw [hsrc]
      simp only [List.getElem?_map, List.getElem?_eq_getElem hlt, Option.map_some, eg, et, noex_ok, Res.ok_bind]
      rw [List.drop_eq_getElem_cons hlt, List.filter_cons]
      cases hp : p ys[i] with
      | false =>
        simp only [Bool.false_eq_true, if_false]
        exact ih (i + 1) acc (by omega) (by omega)
      | true =>
        simp only [if_true, ee hp, noex_ok, Res.ok_bind]
        have pa : putAt h1.length (f ys[i]) (h1 ++ [.lst acc]) = .ok (h1 ++ [.lst (acc ++ [f ys[i]])]) := by
          unfold putAt
          simp only [List.getElem?_concat_length]
          rw [if_pos (by omega), set_at]
        rw [pa]
        simp only [Res.ok_bind]
        rw [ih (i + 1) _ (by omega) (by simp; omega)]
        simp
  unfold vLc
  simp only [hit, Res.ok_bind, hsrc]
  rw [show (ys.map c).length = ys.length from List.length_map ..]
  rw [gen ys.length 0 [] (by omega) (Nat.le_refl _)]
  simp

theorem le_line {n : Nat} (h : n ≤ 16777216) : n ≤ sizeLine := by
  rw [sizeLine_eq]
  exact h
theorem lt_line {n : Nat} (h : n < 16777216) : n < sizeLine := by
  rw [sizeLine_eq]
  exact h
@[simp] theorem rangeD_one (lo : Int) (n : Nat) : rangeD lo 1 n = (List.range n).map fun (k : Nat) => D.int (lo + (k : Int)) := by
  unfold rangeD
  simp only [Int.mul_one]
/-- over range(n), no test -/
theorem lc_rng1 {a : VA} {vs : List Nat} {g : VP} {e : VE} {s : VS} {h h1 : VH} {n : Int} (f : Nat → D) (ha : a s h = .ok ([.int n], h1)) (h0 : -1000000 ≤ n) (h2 : n ≤ 1000000)
    (step : ∀ k : Nat, (k : Int) < n → ∀ acc, ∃ s', g (.int (k : Int)) (vwipe s vs) = some s' ∧ e s' (h1 ++ [.lst acc]) = .ok (f k, h1 ++ [.lst acc])) :
    vLc (vRng1 a) vs g vYes e s h = .ok (.ref h1.length, h1 ++ [.lst ((List.range n.toNat).map f)]) := by
  have z := lc_pure (it := vRng1 a) (vs := vs) (g := g) (t := vYes) (e := e) (s := s) (h := h) (h1 := h1) (src := fun _ => some (rangeD 0 1 n.toNat)) (ys := List.range n.toNat) (c := fun (k : Nat) => D.int ((0 : Int) + (k : Int))) (fun _ => true) f
    (vRng1_of ha (by unfold inRng; exact decide_eq_true (by omega))) (fun acc => by rw [rangeD_one]) (by rw [List.length_range]; exact le_line (by omega)) (fun k hk acc => by
      have hk' : (k : Int) < n := by
        have := List.mem_range.mp hk
        omega
      obtain ⟨s', e1, e2⟩ := step k hk' acc
      exact ⟨s', by rw [Int.zero_add]; exact e1, rfl, fun _ => e2⟩)
  rw [z, List.filter_eq_self.mpr (fun _ _ => rfl)]
/-- over range(i, j) with a test -/
theorem lc_rng2 {a : VA} {vs : List Nat} {g : VP} {t : VT} {e : VE} {s : VS} {h h1 : VH} {i j : Int} (p : Nat → Bool) (f : Nat → D) (ha : a s h = .ok ([.int i, .int j], h1)) (h0 : -1000000 ≤ i) (h2 : i ≤ 1000000) (h3 : -1000000 ≤ j) (h4 : j ≤ 1000000)
    (step : ∀ k : Nat, i + (k : Int) < j → ∀ acc, ∃ s', g (.int (i + (k : Int))) (vwipe s vs) = some s' ∧ t s' (h1 ++ [.lst acc]) = .ok (p k, h1 ++ [.lst acc]) ∧ (p k = true → e s' (h1 ++ [.lst acc]) = .ok (f k, h1 ++ [.lst acc]))) :
    vLc (vRng2 a) vs g t e s h = .ok (.ref h1.length, h1 ++ [.lst (((List.range (j - i).toNat).filter p).map f)]) :=
  lc_pure (src := fun _ => some (rangeD i 1 (j - i).toNat)) p f
    (vRng2_of ha (by unfold inRng; exact decide_eq_true (by omega)) (by unfold inRng; exact decide_eq_true (by omega))) (fun acc => by rw [rangeD_one]) (by rw [List.length_range]; exact le_line (by omega)) (fun k hk acc => by
      have hk' : i + (k : Int) < j := by
        have := List.mem_range.mp hk
        omega
      exact step k hk' acc)
/-- over a tuple -/
theorem lc_tup {α : Type} {a : VE} {vs : List Nat} {g : VP} {t : VT} {e : VE} {s : VS} {h h1 : VH} {ys : List α} {c : α → D} (p : α → Bool) (f : α → D) (ha : a s h = .ok (.tup (ys.map c), h1)) (hz : ys.length ≤ 16777216)
    (step : ∀ y ∈ ys, ∀ acc, ∃ s', g (c y) (vwipe s vs) = some s' ∧ t s' (h1 ++ [.lst acc]) = .ok (p y, h1 ++ [.lst acc]) ∧ (p y = true → e s' (h1 ++ [.lst acc]) = .ok (f y, h1 ++ [.lst acc]))) :
    vLc (vIt a) vs g t e s h = .ok (.ref h1.length, h1 ++ [.lst ((ys.filter p).map f)]) :=
  lc_pure (src := fun _ => some (ys.map c)) p f (by simp [ha]) (fun _ => rfl) (le_line hz) step
/-- over a list that stands -/
theorem lc_lst {α : Type} {a : VE} {vs : List Nat} {g : VP} {t : VT} {e : VE} {s : VS} {h h1 : VH} {n : Nat} {ys : List α} {c : α → D} (p : α → Bool) (f : α → D) (ha : a s h = .ok (.ref n, h1)) (hn : lk h1 n = some (ys.map c)) (hz : ys.length ≤ 16777216)
    (step : ∀ y ∈ ys, ∀ acc, ∃ s', g (c y) (vwipe s vs) = some s' ∧ t s' (h1 ++ [.lst acc]) = .ok (p y, h1 ++ [.lst acc]) ∧ (p y = true → e s' (h1 ++ [.lst acc]) = .ok (f y, h1 ++ [.lst acc]))) :
    vLc (vIt a) vs g t e s h = .ok (.ref h1.length, h1 ++ [.lst ((ys.filter p).map f)]) :=
  lc_pure (src := fun h => lk h n) p f (by simp [ha]) (fun acc => lk_app hn _) (le_line hz) step
/-- over enumerate of a tuple -/
theorem lc_enum {α : Type} {a : VA} {vs : List Nat} {g : VP} {t : VT} {e : VE} {s : VS} {h h1 : VH} {ys : List α} {c : α → D} (p : α × Nat → Bool) (f : α × Nat → D) (ha : a s h = .ok ([.tup (ys.map c)], h1)) (hz : ys.length ≤ 16777216)
    (step : ∀ y ∈ ys.zipIdx, ∀ acc, ∃ s', g (.tup [.int (y.2 : Int), c y.1]) (vwipe s vs) = some s' ∧ t s' (h1 ++ [.lst acc]) = .ok (p y, h1 ++ [.lst acc]) ∧ (p y = true → e s' (h1 ++ [.lst acc]) = .ok (f y, h1 ++ [.lst acc]))) :
    vLc (vEnum a) vs g t e s h = .ok (.ref h1.length, h1 ++ [.lst ((ys.zipIdx.filter p).map f)]) :=
  lc_pure (src := fun _ => some (enumD (ys.map c))) (c := fun (y : α × Nat) => D.tup [.int (y.2 : Int), c y.1]) p f (vEnum_of ha rfl) (fun _ => by
    unfold enumD
    congr 1
    rw [List.zipIdx_map, List.map_map]
    rfl) (by rw [List.length_zipIdx]; exact le_line hz) step
/-- over zip of two tuples -/
theorem lc_zip {α β : Type} {a : VA} {vs : List Nat} {g : VP} {t : VT} {e : VE} {s : VS} {h h1 : VH} {ys : List α} {zs : List β} {c : α → D} {d : β → D} (p : α × β → Bool) (f : α × β → D) (ha : a s h = .ok ([.tup (ys.map c), .tup (zs.map d)], h1)) (hz : ys.length ≤ 16777216)
    (step : ∀ y ∈ ys.zip zs, ∀ acc, ∃ s', g (.tup [c y.1, d y.2]) (vwipe s vs) = some s' ∧ t s' (h1 ++ [.lst acc]) = .ok (p y, h1 ++ [.lst acc]) ∧ (p y = true → e s' (h1 ++ [.lst acc]) = .ok (f y, h1 ++ [.lst acc]))) :
    vLc (vZip a) vs g t e s h = .ok (.ref h1.length, h1 ++ [.lst (((ys.zip zs).filter p).map f)]) :=
  lc_pure (src := fun _ => some (zipD (ys.map c) (zs.map d))) (c := fun (y : α × β) => D.tup [c y.1, d y.2]) p f (vZip_of ha rfl) (fun _ => by
    unfold zipD
    congr 1
    rw [List.zip_map, List.map_map]
    rfl) (by rw [List.length_zip]; exact le_line (by omega)) step

/-! ### saying it plainly -/
/-- no address within -/
def D.flat (d : D) : Bool := D.lt 0 d
mutual
theorem lt_mono {m n : Nat} (h : m ≤ n) : ∀ d : D, D.lt m d = true → D.lt n d = true
  | .tup l, e => by simp only [D.lt] at e ⊢; exact ltAll_mono h l e
  | .ref k, e => by simp only [D.lt, decide_eq_true_eq] at e ⊢; omega
  | .non, _ => by simp [D.lt]
  | .bl _, _ => by simp [D.lt]
  | .int _, _ => by simp [D.lt]
  | .str _, _ => by simp [D.lt]
theorem ltAll_mono {m n : Nat} (h : m ≤ n) : ∀ d : List D, D.ltAll m d = true → D.ltAll n d = true
  | [], _ => rfl
  | d :: r, e => by
    simp only [D.ltAll, Bool.and_eq_true] at e ⊢
    exact ⟨lt_mono h d e.1, ltAll_mono h r e.2⟩
end
def pureFn (f : List D → Option D) : Fn := fun ds h => match f ds with
  | some d => .ok (d, h)
  | none => .bad
theorem says_pure {f : List D → Option D} {F : Fn} (hp : ∀ ds d, f ds = some d → D.flat d = true) (hF : ∀ ds d h, closed h → f ds = some d → ∃ g, F ds h = .ok (d, h ++ g)) : Says (pureFn f) F := fun ds h hc hl => by
  unfold pureFn
  cases e : f ds with
  | none => trivial
  | some d => exact ⟨hF ds d h hc e, Nat.le_refl _, hc, lt_mono (Nat.zero_le _) d (hp ds d e)⟩
theorem mF_rt {N : Nat} {f : VSt} {ds : List D} {h h' : VH} {d : D} {s' : VS} (e : f (ds.map some ++ List.replicate (N - ds.length) none) h = .ok (.rt d, s', h')) : mF N f ds h = .ok (d, h') := by
  unfold mF
  rw [e]
theorem mF_nx {N : Nat} {f : VSt} {ds : List D} {h h' : VH} {s' : VS} (e : f (ds.map some ++ List.replicate (N - ds.length) none) h = .ok (.nx, s', h')) : mF N f ds h = .ok (.non, h') := by
  unfold mF
  rw [e]
end Vq

/-! Part 15: plain data: ints, truth values, tuples of such; == and repr of them. -/
namespace Vq
open PySem

@[simp] theorem pyD_i (f : Nat → Option PyData) (i : Int) : pyD f (.int i) = some (.int i) := by simp only [pyD]
@[simp] theorem pyD_b (f : Nat → Option PyData) (i : Bool) : pyD f (.bl i) = some (.bool i) := by simp only [pyD]
@[simp] theorem pyD_n (f : Nat → Option PyData) : pyD f .non = some .none := by simp only [pyD]
@[simp] theorem pyD_s (f : Nat → Option PyData) (i : Str) : pyD f (.str i) = some (.str i) := by simp only [pyD]
@[simp] theorem pyL_nil (f : Nat → Option PyData) : pyL f [] = some [] := by simp only [pyL]

/-- plain data of one kind -/
class Pl (α : Type) [DecidableEq α] where
  d : α → D
  p : α → PyData
  dep : Nat
  hp : ∀ f a, pyD f (d a) = some (p a)
  lay : ∀ a, (p a).canLay0 = true
  depth : ∀ a, (p a).depth ≤ dep
  fl : ∀ n a, D.lt n (d a) = true
  eq : ∀ a b, PyData.eqv (p a) (p b) = decide (a = b)
instance : Pl Int where
  d := .int
  p := .int
  dep := 0
  hp := fun f a => pyD_i f a
  lay := fun a => by simp only [PyData.canLay0]
  depth := fun a => by simp only [PyData.depth, Nat.le_refl]
  fl := fun n a => by simp only [D.lt]
  eq := fun a b => by simp only [PyData.eqv]; rfl
instance : Pl Bool where
  d := .bl
  p := .bool
  dep := 0
  hp := fun f a => pyD_b f a
  lay := fun a => by simp only [PyData.canLay0]
  depth := fun a => by simp only [PyData.depth, Nat.le_refl]
  fl := fun n a => by simp only [D.lt]
  eq := fun a b => by simp only [PyData.eqv]; cases a <;> cases b <;> rfl
section
variable {α : Type} [DecidableEq α] [Pl α]
theorem pl_pyL (f : Nat → Option PyData) : ∀ l : List α, pyL f (l.map Pl.d) = some (l.map Pl.p)
  | [] => by simp only [List.map_nil, pyL]
  | a :: r => by
    simp only [List.map_cons, pyL, Pl.hp, pl_pyL f r]
    rfl
theorem pl_lay : ∀ l : List α, PyData.canLayAll0 (l.map Pl.p) = true
  | [] => by simp only [List.map_nil, PyData.canLayAll0]
  | a :: r => by simp only [List.map_cons, PyData.canLayAll0, Pl.lay, pl_lay r, Bool.and_self]
theorem pl_depth : ∀ l : List α, PyData.depthAll (l.map Pl.p) ≤ Pl.dep α
  | [] => by simp only [List.map_nil, PyData.depthAll, Nat.zero_le]
  | a :: r => by
    simp only [List.map_cons, PyData.depthAll]
    exact Nat.max_le.mpr ⟨Pl.depth a, pl_depth r⟩
theorem pl_fl (n : Nat) : ∀ l : List α, D.ltAll n (l.map Pl.d) = true
  | [] => by simp only [List.map_nil, D.ltAll]
  | a :: r => by simp only [List.map_cons, D.ltAll, Pl.fl, pl_fl n r, Bool.and_self]
theorem pl_eq : ∀ l m : List α, PyData.eqvAll (l.map Pl.p) (m.map Pl.p) = decide (l = m)
  | [], [] => by simp [PyData.eqvAll]
  | [], _ :: _ => by simp [PyData.eqvAll]
  | _ :: _, [] => by simp [PyData.eqvAll]
  | a :: r, b :: s => by
    simp only [List.map_cons, PyData.eqvAll, Pl.eq, pl_eq r s, List.cons.injEq, Bool.decide_and]
end
instance {α : Type} [DecidableEq α] [Pl α] : Pl (List α) where
  d := fun l => .tup (l.map Pl.d)
  p := fun l => .tuple (l.map Pl.p)
  dep := Pl.dep α + 1
  hp := fun f l => by simp only [pyD, pl_pyL]; rfl
  lay := fun l => by simp only [PyData.canLay0, pl_lay]
  depth := fun l => by simp only [PyData.depth]; exact Nat.succ_le_succ (pl_depth l)
  fl := fun n l => by simp only [D.lt, pl_fl]
  eq := fun l m => by simp only [PyData.eqv, pl_eq]
instance {α β : Type} [DecidableEq α] [DecidableEq β] [Pl α] [Pl β] : Pl (α × β) where
  d := fun a => .tup [Pl.d a.1, Pl.d a.2]
  p := fun a => .tuple [Pl.p a.1, Pl.p a.2]
  dep := max (Pl.dep α) (Pl.dep β) + 1
  hp := fun f a => by simp only [pyD, pyL, Pl.hp]; rfl
  lay := fun a => by simp only [PyData.canLay0, PyData.canLayAll0, Pl.lay, Bool.and_self]
  depth := fun a => by
    simp only [PyData.depth, PyData.depthAll]
    have := Pl.depth a.1
    have := Pl.depth a.2
    omega
  fl := fun n a => by simp only [D.lt, D.ltAll, Pl.fl, Bool.and_self]
  eq := fun a b => by
    simp only [PyData.eqv, PyData.eqvAll, Pl.eq, Bool.and_true]
    obtain ⟨a1, a2⟩ := a
    obtain ⟨b1, b2⟩ := b
    simp only [Prod.mk.injEq, Bool.decide_and]
section
variable {α : Type} [DecidableEq α] [Pl α]
theorem pl_shaped (hd : Pl.dep α ≤ 64) (a : α) : SeqAt.shaped (Pl.p a) = true := by
  unfold SeqAt.shaped
  rw [Pl.lay, decide_eq_true (Nat.le_trans (Pl.depth a) hd)]
  rfl
theorem pl_py (h : VH) (a : α) : py h (Pl.d a) = some (Pl.p a) := Pl.hp _ a
theorem pl_eqW (neg : Bool) (h : VH) (hd : Pl.dep α ≤ 64) (a b : α) : eqWith neg (Pl.d a) (Pl.d b) h = some (.bl (if neg then !decide (a = b) else decide (a = b)), h) := by
  unfold eqWith
  simp only [pl_py, pl_shaped hd, Bool.and_self, if_true, Pl.eq]
end
@[simp] theorem eqWith_ii (neg : Bool) (h : VH) (a b : Int) : eqWith neg (.int a) (.int b) h = some (.bl (if neg then !decide (a = b) else decide (a = b)), h) := pl_eqW (α := Int) neg h (Nat.zero_le _) a b
@[simp] theorem dEq_i (h : VH) (a b : Int) : dEq (.int a) (.int b) h = some (.bl (decide (a = b)), h) := eqWith_ii false h a b
@[simp] theorem dNe_i (h : VH) (a b : Int) : dNe (.int a) (.int b) h = some (.bl (!decide (a = b)), h) := eqWith_ii true h a b
@[simp] theorem dEq_b (h : VH) (a b : Bool) : dEq (.bl a) (.bl b) h = some (.bl (decide (a = b)), h) := pl_eqW (α := Bool) false h (Nat.zero_le _) a b
@[simp] theorem dNe_b (h : VH) (a b : Bool) : dNe (.bl a) (.bl b) h = some (.bl (!decide (a = b)), h) := pl_eqW (α := Bool) true h (Nat.zero_le _) a b
@[simp] theorem dEq_s (h : VH) (a b : Str) : dEq (.str a) (.str b) h = some (.bl (decide (a = b)), h) := rfl
@[simp] theorem dNe_s (h : VH) (a b : Str) : dNe (.str a) (.str b) h = some (.bl (!decide (a = b)), h) := rfl
@[simp] theorem dEq_I (h : VH) (a b : List Int) : dEq (.tup (a.map .int)) (.tup (b.map .int)) h = some (.bl (decide (a = b)), h) := pl_eqW (α := List Int) false h (by decide) a b
@[simp] theorem dNe_I (h : VH) (a b : List Int) : dNe (.tup (a.map .int)) (.tup (b.map .int)) h = some (.bl (!decide (a = b)), h) := pl_eqW (α := List Int) true h (by decide) a b
@[simp] theorem dEq_In (h : VH) (a : List Int) : dEq (.tup (a.map .int)) (.tup []) h = some (.bl (decide (a = [])), h) := dEq_I h a []
@[simp] theorem dNe_In (h : VH) (a : List Int) : dNe (.tup (a.map .int)) (.tup []) h = some (.bl (!decide (a = [])), h) := dNe_I h a []
/-- lists of ints -/
theorem py_ref {h : VH} {n : Nat} {l : List D} {ps : List PyData} (e : lk h n = some l) (hp : ∀ f, pyL f l = some ps) : py h (.ref n) = some (.list ps) := by
  unfold py
  simp only [pyD, refPy, e, Option.bind_some, hp, Option.map_some]
theorem eqL (neg : Bool) {h : VH} {n m : Nat} {a b : List Int} (e1 : lk h n = some (a.map .int)) (e2 : lk h m = some (b.map .int)) : eqWith neg (.ref n) (.ref m) h = some (.bl (if neg then !decide (a = b) else decide (a = b)), h) := by
  have p1 := py_ref (ps := a.map .int) e1 fun f => pl_pyL (α := Int) f a
  have p2 := py_ref (ps := b.map .int) e2 fun f => pl_pyL (α := Int) f b
  have s1 : ∀ a : List Int, SeqAt.shaped (.list (a.map .int)) = true := fun a => by
    unfold SeqAt.shaped
    have h1 : PyData.canLay0 (.list (a.map .int)) = true := by
      simp only [PyData.canLay0]
      exact pl_lay (α := Int) a
    have h2 : PyData.depth (.list (a.map .int)) ≤ 64 := by
      simp only [PyData.depth]
      have : PyData.depthAll (a.map .int) ≤ 0 := pl_depth (α := Int) a
      omega
    rw [h1, decide_eq_true h2]
    rfl
  have e : PyData.eqv (.list (a.map .int)) (.list (b.map .int)) = decide (a = b) := by
    simp only [PyData.eqv]
    exact pl_eq (α := Int) a b
  unfold eqWith
  simp only [p1, p2, s1, Bool.and_self, if_true, e]
theorem dEq_L {h : VH} {n m : Nat} {a b : List Int} (e1 : lk h n = some (a.map .int)) (e2 : lk h m = some (b.map .int)) : dEq (.ref n) (.ref m) h = some (.bl (decide (a = b)), h) := eqL false e1 e2
theorem dNe_L {h : VH} {n m : Nat} {a b : List Int} (e1 : lk h n = some (a.map .int)) (e2 : lk h m = some (b.map .int)) : dNe (.ref n) (.ref m) h = some (.bl (!decide (a = b)), h) := eqL true e1 e2

/-! ### repr -/
mutual
/-- how large a thing is -/
def size : PyData → Nat
  | .none => 1
  | .bool _ => 1
  | .int _ => 1
  | .str x => x.length + 1
  | .list l => sizes l + 1
  | .tuple l => sizes l + 1
  | .dict _ => 0
def sizes : List PyData → Nat
  | [] => 0
  | x :: r => size x + sizes r
end
def noDict : PyData → Bool := fun d => d.canLay0
theorem strLen_app (a b : Str) : (a ++ b).length = a.length + b.length := strLen_append a b
mutual
theorem shown_len : ∀ d : PyData, d.canLay0 = true → d.showable = true → d.shown.length + 2 ≤ 2000 * size d
  | .none, _, _ => by simp only [PyData.shown, size]; decide
  | .bool b, _, _ => by
    simp only [PyData.shown, size]
    cases b <;> decide
  | .int i, _, h => by
    simp only [PyData.showable, decide_eq_true_eq] at h
    have h1 := int_text_length_le (a := i) (k := 1920) (by decide) h
    have h2 : (Str.ofString (toString i)).length = (toString i).length := ofString_length _
    simp only [PyData.shown, size]
    rw [h2]
    omega
  | .str x, h, _ => by
    simp only [PyData.shown, size]
    have h1 : (reprText x).length ≤ 10 * x.length + 2 := StrLaws.reprText_len x fun c hc => by
      simp only [PyData.canLay0, PyData.strOk] at h
      have h' := (Array.all_eq_true'.mp h) c (by simpa using hc)
      have h' : c < 0x110000 := by simpa using h'
      exact Nat.lt_trans h' (by decide)
    omega
  | .list l, h, g => by
    simp only [PyData.canLay0] at h
    simp only [PyData.showable] at g
    simp only [PyData.shown, size]
    have ih := shown_lens l h g
    cases l with
    | nil =>
      simp only [PyData.shownAll, sizes]
      decide
    | cons a r =>
      unfold listText
      rw [strLen_app]
      have z := textFrom_length_pos (PyData.shownAll (a :: r)) 1 "[" (by decide)
      have q : (textFrom 0 "[" (PyData.shownAll (a :: r))).length + 2 = (textFrom 1 "[" (PyData.shownAll (a :: r))).length := by
        simp only [PyData.shownAll, textFrom]
        rw [textFrom_length_pos _ 1 _ (by decide), textFrom_length_pos _ 2 _ (by decide)]
        simp only [strLen_app]
        have e1 : (Str.ofString (if 0 > 0 then ", " else "")).length = 0 := by decide
        have e2 : (Str.ofString (if 1 > 0 then ", " else "")).length = 2 := by decide
        omega
      have e3 : (Str.ofString "]").length = 1 := by decide
      have e4 : (Str.ofString "[").length = 1 := by decide
      omega
  | .tuple l, h, g => by
    simp only [PyData.canLay0] at h
    simp only [PyData.showable] at g
    simp only [PyData.shown, size]
    have ih := shown_lens l h g
    unfold tupleText
    simp only [strLen_app]
    have e4 : (Str.ofString "(").length = 1 := by decide
    have e5 : (Str.ofString (if ((PyData.shownAll l).length == 1) = true then ",)" else ")")).length ≤ 2 := by
      split <;> decide
    cases l with
    | nil =>
      simp only [PyData.shownAll, sizes] at *
      have : (Str.join ", " []).length = 0 := by decide
      omega
    | cons a r =>
      have z := join_length_add (PyData.shownAll (a :: r)) (by simp [PyData.shownAll])
      omega
  | .dict _, h, _ => by simp only [PyData.canLay0] at h; cases h
theorem shown_lens : ∀ l : List PyData, PyData.canLayAll0 l = true → PyData.showableAll l = true → piled (PyData.shownAll l) ≤ 2000 * sizes l
  | [], _, _ => by simp only [PyData.shownAll, sizes]; decide
  | a :: r, h, g => by
    simp only [PyData.canLayAll0, Bool.and_eq_true] at h
    simp only [PyData.showableAll, Bool.and_eq_true] at g
    simp only [PyData.shownAll, sizes, piled_cons]
    have h1 := shown_len a h.1 g.1
    have h2 := shown_lens r h.2 g.2
    omega
end
theorem reprOk_of {p : PyData} (h1 : SeqAt.shaped p = true) (h2 : p.showable = true) (h3 : size p ≤ 8000) : reprOk p = true := by
  unfold reprOk
  have z := shown_len p (depth_of_shaped h1).1 h2
  have q : p.shown.length ≤ sizeLine := le_line (by omega)
  rw [h1, h2, decide_eq_true q]
  rfl
theorem bRepr_of {h : VH} {d : D} {p : PyData} (e : py h d = some p) (hr : reprOk p = true) : bRepr [d] h = some (.str p.shown, h) := by
  unfold bRepr pureB
  simp only [one_1, Option.bind_some, e, hr, if_true, Option.map_some]
end Vq

/-! Part 16: a law's bag of cells: [cells still to come, what is left of the present one, a mixed number]. -/
namespace Vq
open PySem

/-- rc: the cells still to come, the next one first -/
structure Bag where
  rc : List Int
  m : Int
  x : Int
  hl : rc.length ≤ 63
def Bag.cells (B : Bag) : Cell := .lst (B.rc.reverse.map .int)
def Bag.top (B : Bag) (c : Nat) : Cell := .lst [.ref c, .int B.m, .int B.x]
structure IsBag (h : VH) (b c : Nat) (B : Bag) : Prop where
  hb : h[b]? = some (B.top c)
  hc : h[c]? = some B.cells
  ne : b ≠ c
def putBag (h : VH) (b c : Nat) (B : Bag) : VH := (h.set c B.cells).set b (B.top c)
section
variable {h g : VH} {b c : Nat} {B B' : Bag}
theorem lt_of_get {h : VH} {n : Nat} {d : Cell} (e : h[n]? = some d) : n < h.length := (List.getElem?_eq_some_iff.mp e).1
theorem IsBag.lb (q : IsBag h b c B) : b < h.length := lt_of_get q.hb
theorem IsBag.lc (q : IsBag h b c B) : c < h.length := lt_of_get q.hc
theorem IsBag.lkb (q : IsBag h b c B) : lk h b = some [.ref c, .int B.m, .int B.x] := by unfold lk; rw [q.hb]; rfl
theorem IsBag.lkc (q : IsBag h b c B) : lk h c = some (B.rc.reverse.map .int) := by unfold lk; rw [q.hc]; rfl
theorem put_length : (putBag h b c B).length = h.length := by simp [putBag]
theorem IsBag.put (q : IsBag h b c B) (B' : Bag) : IsBag (putBag h b c B') b c B' := by
  refine ⟨?_, ?_, q.ne⟩
  · unfold putBag
    rw [List.getElem?_set_self (by rw [List.length_set]; exact q.lb)]
  · unfold putBag
    rw [List.getElem?_set_ne q.ne, List.getElem?_set_self q.lc]
theorem put_put (hne : b ≠ c) : putBag (putBag h b c B) b c B' = putBag h b c B' := by
  unfold putBag
  rw [List.set_comm _ _ hne, List.set_set, List.set_set]
theorem IsBag.self (q : IsBag h b c B) : putBag h b c B = h := by
  unfold putBag
  have e1 : h.set c B.cells = h := by
    apply List.ext_getElem?
    intro i
    by_cases e : c = i
    · subst e
      rw [List.getElem?_set_self q.lc, q.hc]
    · rw [List.getElem?_set_ne e]
  rw [e1]
  apply List.ext_getElem?
  intro i
  by_cases e : b = i
  · subst e
    rw [List.getElem?_set_self q.lb, q.hb]
  · rw [List.getElem?_set_ne e]
theorem IsBag.app (q : IsBag h b c B) (g : VH) : IsBag (h ++ g) b c B :=
  ⟨by rw [List.getElem?_append_left q.lb]; exact q.hb, by rw [List.getElem?_append_left q.lc]; exact q.hc, q.ne⟩
theorem IsBag.put_app (q : IsBag h b c B) (g : VH) (B' : Bag) : putBag (h ++ g) b c B' = putBag h b c B' ++ g := by
  unfold putBag
  rw [List.set_append_left _ _ q.lc, List.set_append_left _ _ (by rw [List.length_set]; exact q.lb)]
theorem IsBag.lk_put (q : IsBag h b c B) {n : Nat} (h1 : n ≠ b) (h2 : n ≠ c) : lk (putBag h b c B') n = lk h n := by
  unfold lk putBag
  rw [List.getElem?_set_ne (Ne.symm h1), List.getElem?_set_ne (Ne.symm h2)]
theorem ints_lt (n : Nat) : ∀ l : List Int, D.ltAll n (l.map .int) = true
  | [] => by simp only [List.map_nil, D.ltAll]
  | a :: r => by simp only [List.map_cons, D.ltAll, D.lt, ints_lt n r, Bool.and_self]
theorem IsBag.closed (q : IsBag h b c B) (hc : Vq.closed h) (B' : Bag) : Vq.closed (putBag h b c B') := fun d hd => by
  rw [put_length]
  unfold putBag at hd
  rcases List.mem_or_eq_of_mem_set hd with hd | rfl
  · rcases List.mem_or_eq_of_mem_set hd with hd | rfl
    · exact hc d hd
    · simp only [Bag.cells, Cell.lt, ints_lt]
  · simp only [Bag.top, Cell.lt, D.ltAll, D.lt, Bool.and_true, decide_eq_true_eq]
    exact q.lc
end

def bagOf (h : VH) (b : Nat) : Option (Nat × Bag) := match h[b]? with
  | some (.lst [.ref c, .int m, .int x]) => match h[c]? with
    | some (.lst l) => if b = c then none else (intsOf l).bind fun cells => if hl : cells.length ≤ 63 then some (c, ⟨cells.reverse, m, x, by rw [List.length_reverse]; exact hl⟩) else none
    | _ => none
  | _ => none
theorem intsOf_inv : ∀ {l : List D} {ns : List Int}, intsOf l = some ns → l = ns.map .int
  | [], _, e => by cases e; rfl
  | d :: r, ns, e => by
    obtain ⟨i, e1, e⟩ := Option.bind_eq_some_iff.mp e
    obtain ⟨l, e2, rfl⟩ := Option.map_eq_some_iff.mp e
    cases d with
    | int j => cases e1; rw [intsOf_inv e2]; rfl
    | _ => cases e1
theorem bagOf_is {h : VH} {b c : Nat} {B : Bag} (e : bagOf h b = some (c, B)) : IsBag h b c B := by
  unfold bagOf at e
  split at e
  · rename_i c' m x e1
    split at e
    · rename_i l e2
      split at e
      · cases e
      · rename_i hne
        obtain ⟨ns, e3, e4⟩ := Option.bind_eq_some_iff.mp e
        by_cases hl : ns.length ≤ 63
        · rw [dif_pos hl] at e4
          cases e4
          refine ⟨e1, ?_, hne⟩
          rw [e2, intsOf_inv e3]
          simp [Bag.cells]
        · rw [dif_neg hl] at e4
          cases e4
    · cases e
  · cases e
theorem IsBag.of {h : VH} {b c : Nat} {B : Bag} (q : IsBag h b c B) : bagOf h b = some (c, B) := by
  unfold bagOf
  rw [q.hb]
  simp only [Bag.top, q.hc, Bag.cells, if_neg q.ne, intsOf_map, Option.bind_some, List.length_reverse, B.hl, dite_true, List.reverse_reverse]
theorem lstAt_of {h : VH} {n : Nat} {l : List D} (e : h[n]? = some (.lst l)) : lstAt h (.ref n) = some (n, l) := by
  show (match h[n]? with
    | some (.lst l) => some (n, l)
    | _ => none) = _
  rw [e]
theorem sLst_of {h : VH} {n : Nat} {l : List D} {k : Int} {j : Nat} (d : D) (e : h[n]? = some (.lst l)) (hj : L2.ixN l.length k = some j) : sLst (.ref n) (.int k) d h = some (h.set n (.lst (l.set j d))) := by
  show (match h[n]? with
    | some (.lst l) => (L2.ixN l.length k).map fun j => h.set n (.lst (l.set j d))
    | _ => none) = _
  rw [e]
  simp only [hj, Option.map_some]
section
variable {h : VH} {b c : Nat} {B : Bag}
theorem IsBag.setc (q : IsBag h b c B) (B' : Bag) (e : B'.rc = B.rc) : putBag h b c B' = h.set b (B'.top c) := by
  unfold putBag
  congr 1
  apply List.ext_getElem?
  intro i
  by_cases z : c = i
  · subst z
    rw [List.getElem?_set_self q.lc, q.hc]
    simp only [Bag.cells, e]
  · rw [List.getElem?_set_ne z]
theorem IsBag.set1 (q : IsBag h b c B) (v : Int) : sLst (.ref b) (.int 1) (.int v) h = some (putBag h b c ⟨B.rc, v, B.x, B.hl⟩) := by
  rw [sLst_of (j := 1) (.int v) q.hb rfl, q.setc ⟨B.rc, v, B.x, B.hl⟩ rfl]
  rfl
theorem IsBag.set2 (q : IsBag h b c B) (v : Int) : sLst (.ref b) (.int 2) (.int v) h = some (putBag h b c ⟨B.rc, B.m, v, B.hl⟩) := by
  rw [sLst_of (j := 2) (.int v) q.hb rfl, q.setc ⟨B.rc, B.m, v, B.hl⟩ rfl]
  rfl
theorem IsBag.pop {a : Int} {r : List Int} (q : IsBag h b c B) (e : B.rc = a :: r) (hl : r.length ≤ 63) : mPop (.ref c) [] h = some (.int a, putBag h b c ⟨r, B.m, B.x, hl⟩) := by
  unfold mPop
  rw [lstAt_of q.hc]
  have e1 : B.rc.reverse.map D.int = r.reverse.map D.int ++ [.int a] := by rw [e]; simp
  simp only [Option.bind_some, e1, List.isEmpty_nil, if_true, List.length_append, List.length_singleton, Nat.add_sub_cancel, List.getElem?_concat_length, Option.map_some, List.dropLast_concat]
  have e2 : putBag h b c ⟨r, B.m, B.x, hl⟩ = h.set c (.lst (r.reverse.map D.int)) := by
    unfold putBag
    apply List.ext_getElem?
    intro i
    by_cases z : b = i
    · subst z
      rw [List.getElem?_set_self (by rw [List.length_set]; exact q.lb), List.getElem?_set_ne (Ne.symm q.ne), q.hb]
      rfl
    · rw [List.getElem?_set_ne z]
      rfl
  rw [e2]
theorem IsBag.tyc (q : IsBag h b c B) : tyD "list" (.ref c) h = true := by simp [tyD, q.lkc]
end
/-- a def whose first argument is the bag, the others plain -/
def bagFn (f : List D → Bag → Option (D × Bag)) : Fn := fun ds h => match ds with
  | .ref b :: r => match bagOf h b with
    | some (c, B) => match f r B with
      | some (d, B') => .ok (d, putBag h b c B')
      | none => .bad
    | none => .bad
  | _ => .bad
theorem bagFn_of {f : List D → Bag → Option (D × Bag)} {h : VH} {b c : Nat} {B B' : Bag} {r : List D} {d : D} (q : IsBag h b c B) (e : f r B = some (d, B')) : bagFn f (.ref b :: r) h = .ok (d, putBag h b c B') := by
  unfold bagFn
  simp only [q.of, e]
theorem says_bag {f : List D → Bag → Option (D × Bag)} {F : Fn} (hp : ∀ r B d B', f r B = some (d, B') → D.flat d = true)
    (hF : ∀ h b c B r d B', closed h → IsBag h b c B → f r B = some (d, B') → ∃ g, F (.ref b :: r) h = .ok (d, putBag h b c B' ++ g)) : Says (bagFn f) F := fun ds h hc hl => by
  unfold bagFn
  split
  · rename_i d h' e
    split at e
    · rename_i b r
      cases e1 : bagOf h b with
      | none => rw [e1] at e; cases e
      | some p =>
        obtain ⟨c, B⟩ := p
        have q := bagOf_is e1
        rw [e1] at e
        simp only at e
        cases e2 : f r B with
        | none => rw [e2] at e; cases e
        | some p =>
          obtain ⟨d', B'⟩ := p
          rw [e2] at e
          cases e
          exact ⟨hF h b c B r d B' hc q e2, Nat.le_of_eq put_length.symm, q.closed hc B', lt_mono (Nat.zero_le _) d (hp r B d B' e2)⟩
    · cases e
  · rename_i x s h' e
    split at e
    · rename_i b r
      cases e1 : bagOf h b with
      | none => rw [e1] at e; cases e
      | some p =>
        rw [e1] at e
        simp only at e
        split at e <;> cases e
    · cases e
  · trivial
def offBag (b c : Nat) : D → Bool
  | .ref n => n != b && n != c
  | _ => true
/-- one whose second argument is a list or tuple of anything, of which it hands one item back: f tells which, by how many there are -/
def pickFn (f : Int → Bag → Int × Bag) : Fn := fun ds h => match ds with
  | [.ref b, s] => match bagOf h b with
    | some (c, B) => match seqOf h s with
      | some l => if offBag b c s = true ∧ l ≠ [] ∧ l.length ≤ 1000000 then (match l[(f l.length B).1.toNat]? with
        | some d => .ok (d, putBag h b c (f l.length B).2)
        | none => .bad) else .bad
      | none => .bad
    | none => .bad
  | _ => .bad
theorem pickFn_of {f : Int → Bag → Int × Bag} {h : VH} {b c : Nat} {B : Bag} {s : D} {l : List D} {d : D} (q : IsBag h b c B) (e : seqOf h s = some l) (o : offBag b c s = true) (hn : l ≠ []) (hz : l.length ≤ 1000000)
    (ed : l[(f l.length B).1.toNat]? = some d) : pickFn f [.ref b, s] h = .ok (d, putBag h b c (f l.length B).2) := by
  unfold pickFn
  simp only [q.of, e]
  rw [if_pos ⟨o, hn, hz⟩, ed]
theorem ltAll_get {n : Nat} : ∀ {l : List D} {i : Nat} {d : D}, D.ltAll n l = true → l[i]? = some d → D.lt n d = true
  | [], i, d, _, e => by simp at e
  | a :: r, 0, d, h, e => by
    simp only [D.ltAll, Bool.and_eq_true] at h
    simp at e
    rw [← e]
    exact h.1
  | a :: r, i + 1, d, h, e => by
    simp only [D.ltAll, Bool.and_eq_true] at h
    simp at e
    exact ltAll_get h.2 e
theorem seqOf_lt {h : VH} {s : D} {l : List D} (hc : closed h) (hs : D.lt h.length s = true) (e : seqOf h s = some l) : D.ltAll h.length l = true := by
  cases s with
  | tup m => cases e; simpa only [D.lt] using hs
  | ref n =>
    have e : lk h n = some l := e
    unfold lk at e
    cases q : h[n]? with
    | none => rw [q] at e; cases e
    | some c =>
      have z := hc c (List.mem_of_getElem? q)
      rw [q] at e
      cases c <;> (cases e; exact z)
  | _ => cases e
theorem says_pick {f : Int → Bag → Int × Bag} {F : Fn}
    (hF : ∀ h b c B s l d, closed h → IsBag h b c B → seqOf h s = some l → offBag b c s = true → l ≠ [] → l.length ≤ 1000000 → l[(f l.length B).1.toNat]? = some d → ∃ g, F [.ref b, s] h = .ok (d, putBag h b c (f l.length B).2 ++ g)) : Says (pickFn f) F := fun ds h hc hl => by
  unfold pickFn
  split
  · rename_i d h' e
    split at e
    · rename_i b s
      cases e1 : bagOf h b with
      | none => rw [e1] at e; cases e
      | some p =>
        obtain ⟨c, B⟩ := p
        have q := bagOf_is e1
        rw [e1] at e
        simp only at e
        cases e2 : seqOf h s with
        | none => rw [e2] at e; cases e
        | some l =>
          rw [e2] at e
          simp only at e
          split at e
          · rename_i hcond
            obtain ⟨o, hn, hz⟩ := hcond
            cases e3 : l[(f l.length B).1.toNat]? with
            | none => rw [e3] at e; cases e
            | some d' =>
              rw [e3] at e
              cases e
              simp only [D.ltAll, Bool.and_true, Bool.and_eq_true] at hl
              exact ⟨hF h b c B s l d hc q e2 o hn hz e3, Nat.le_of_eq put_length.symm, q.closed hc _, by rw [put_length]; exact ltAll_get (seqOf_lt hc hl.2 e2) e3⟩
          · cases e
    · cases e
  · rename_i x s h' e
    split at e
    · split at e
      · split at e
        · split at e
          · split at e <;> cases e
          · cases e
        · cases e
      · cases e
    · cases e
  · trivial
end Vq

/-! Part 17: what a bag may have become; loops and comprehensions by what holds throughout. -/
namespace Vq
open PySem

@[simp] theorem le_lineS {n : Nat} (h : n ≤ 16777216) : n ≤ sizeLine := le_line h
@[simp] theorem lt_lineS {n : Nat} (h : n < 16777216) : n < sizeLine := lt_line h

/-- a bag lies here -/
def Hb (b c : Nat) (h : VH) : Prop := ∃ B, IsBag h b c B
/-- from h to h': all but the bag as it was -/
structure Keep (b c : Nat) (h h' : VH) : Prop where
  le : h.length ≤ h'.length
  bag : Hb b c h'
  get : ∀ i, i < h.length → i ≠ b → i ≠ c → h'[i]? = h[i]?
theorem Keep.refl {b c : Nat} {h : VH} (q : Hb b c h) : Keep b c h h := ⟨Nat.le_refl _, q, fun _ _ _ _ => rfl⟩
theorem Keep.trans {b c : Nat} {h h1 h2 : VH} (x : Keep b c h h1) (y : Keep b c h1 h2) : Keep b c h h2 :=
  ⟨Nat.le_trans x.le y.le, y.bag, fun i hi hb hc => (y.get i (Nat.lt_of_lt_of_le hi x.le) hb hc).trans (x.get i hi hb hc)⟩
theorem Hb.app {b c : Nat} {h : VH} (q : Hb b c h) (g : VH) : Hb b c (h ++ g) := q.elim fun B q => ⟨B, q.app g⟩
theorem Keep.app {b c : Nat} {h h1 : VH} (x : Keep b c h h1) (g : VH) : Keep b c h (h1 ++ g) :=
  x.trans ⟨by simp, x.bag.app g, fun i hi _ _ => List.getElem?_append_left hi⟩
theorem Hb.keep {b c : Nat} {h : VH} (q : Hb b c h) (g : VH) : Keep b c h (h ++ g) := (Keep.refl q).app g
theorem Hb.b_lt {b c : Nat} {h : VH} (q : Hb b c h) : b < h.length := q.elim fun _ q => q.lb
theorem Hb.c_lt {b c : Nat} {h : VH} (q : Hb b c h) : c < h.length := q.elim fun _ q => q.lc
theorem Keep.put {b c : Nat} {h : VH} {B : Bag} (q : IsBag h b c B) (B' : Bag) (g : VH) : Keep b c h (putBag h b c B' ++ g) :=
  Keep.app ⟨Nat.le_of_eq put_length.symm, ⟨B', q.put B'⟩, fun i _ hb hc => by unfold putBag; rw [List.getElem?_set_ne (Ne.symm hb), List.getElem?_set_ne (Ne.symm hc)]⟩ g
theorem lk_lt {h : VH} {n : Nat} {l : List D} (e : lk h n = some l) : n < h.length := by
  by_cases q : n < h.length
  · exact q
  · unfold lk at e
    rw [List.getElem?_eq_none (by omega)] at e
    cases e
theorem Keep.cells {b c : Nat} {h h' : VH} (x : Keep b c h h') {i : Nat} {l : List D} (hb : i ≠ b) (hc : i ≠ c) (e : lk h i = some l) : lk h' i = some l := by
  have z := x.get i (lk_lt e) hb hc
  unfold lk at e ⊢
  rw [z]
  exact e
/-- a cell that came later than the bag -/
theorem lk_new {b c n : Nat} {h0 h h' : VH} {l : List D} (q : Hb b c h0) (hn : h0.length ≤ n) (k : Keep b c h h') (e : lk h n = some l) : lk h' n = some l :=
  k.cells (by have := q.b_lt; omega) (by have := q.c_lt; omega) e
/-- a list of its own is set anew -/
theorem Keep.set {b c n : Nat} {h h' : VH} {l' : List D} (x : Keep b c h h') (hn : h.length ≤ n) (hb : n ≠ b) (hc : n ≠ c) : Keep b c h (h'.set n (.lst l')) := by
  refine ⟨by rw [List.length_set]; exact x.le, ?_, fun i l hb hc => ?_⟩
  · obtain ⟨B, q⟩ := x.bag
    refine ⟨B, ?_, ?_, q.ne⟩
    · rw [List.getElem?_set_ne hb]
      exact q.hb
    · rw [List.getElem?_set_ne hc]
      exact q.hc
  · rw [List.getElem?_set_ne (by omega)]
    exact x.get i l hb hc
theorem lk_set {h : VH} {n : Nat} {l l' : List D} (e : lk h n = some l) : lk (h.set n (.lst l')) n = some l' := by
  unfold lk
  rw [List.getElem?_set_self (lk_lt e)]
theorem lk_set_ne {h : VH} {m n : Nat} {l' : List D} (e : n ≠ m) : lk (h.set n (.lst l')) m = lk h m := by
  unfold lk
  rw [List.getElem?_set_ne e]

theorem atI_nn {α : Type} {l : List α} {i : Int} (h0 : 0 ≤ i) (h1 : i.toNat < l.length) : L2.atI l i = some l[i.toNat] := by
  unfold L2.atI L2.ixN
  rw [if_pos h0, if_pos (by omega)]
  simp [h1]
theorem atI_nat {α : Type} {l : List α} {i : Nat} (h1 : i < l.length) : L2.atI l (i : Int) = some l[i] := atI_nn (l := l) (i := (i : Int)) (by omega) (by omega)
theorem atI_end {α : Type} {l : List α} (h1 : l ≠ []) : L2.atI l (-1) = some (l.getLast h1) := by
  have : 0 < l.length := List.length_pos_iff.mpr h1
  unfold L2.atI L2.ixN
  rw [if_neg (by omega), if_pos (by omega)]
  have : (-1 + (l.length : Int)).toNat = l.length - 1 := by omega
  simp only [Option.bind_some, this]
  rw [List.getLast_eq_getElem, List.getElem?_eq_getElem]

theorem ixN_nn {n : Nat} {i : Int} (h0 : 0 ≤ i) (h1 : i.toNat < n) : L2.ixN n i = some i.toNat := by
  unfold L2.ixN
  rw [if_pos h0, if_pos (by omega)]
theorem ixN_end {n : Nat} (h1 : 0 < n) : L2.ixN n (-1) = some (n - 1) := by
  unfold L2.ixN
  rw [if_neg (by omega), if_pos (by omega)]
  congr 1
  omega
/-- stores in a list of ints -/
theorem sLst_I {h : VH} {n : Nat} {l : List Int} {i : Int} (e : h[n]? = some (.lst (l.map .int))) (h0 : 0 ≤ i) (h1 : i.toNat < l.length) (v : Int) : sLst (.ref n) (.int i) (.int v) h = some (h.set n (.lst ((l.set i.toNat v).map .int))) := by
  rw [sLst_of (.int v) e (ixN_nn h0 (by simpa using h1)), List.map_set]
theorem sLst_Ie {h : VH} {n : Nat} {l : List Int} (e : h[n]? = some (.lst (l.map .int))) (h1 : 0 < l.length) (v : Int) : sLst (.ref n) (.int (-1)) (.int v) h = some (h.set n (.lst ((l.set (l.length - 1) v).map .int))) := by
  rw [sLst_of (.int v) e (ixN_end (by simpa using h1)), List.length_map, List.map_set]
theorem lk_of {h : VH} {n : Nat} {l : List D} (e : h[n]? = some (.lst l)) : lk h n = some l := by
  unfold lk
  rw [e]
theorem set_get {h : VH} {n : Nat} {l l' : List D} (e : h[n]? = some (.lst l)) : (h.set n (.lst l'))[n]? = some (.lst l') := List.getElem?_set_self (lt_of_get e)
theorem ints_of {P : Int → Prop} : ∀ {l : List D}, (∀ d ∈ l, ∃ x, d = .int x ∧ P x) → ∃ r : List Int, l = r.map .int ∧ ∀ x ∈ r, P x
  | [], _ => ⟨[], rfl, by simp⟩
  | d :: l, h => by
    obtain ⟨x, rfl, hx⟩ := h d (List.mem_cons_self ..)
    obtain ⟨r, e, hr⟩ := ints_of (l := l) fun d hd => h d (List.mem_cons_of_mem _ hd)
    refine ⟨x :: r, by rw [e]; rfl, fun y hy => ?_⟩
    rcases List.mem_cons.mp hy with rfl | hy
    · exact hx
    · exact hr y hy
theorem Keep.cell {b c : Nat} {h0 h h' : VH} (q : Hb b c h0) {n : Nat} {cl : Cell} (hn : h0.length ≤ n) (k : Keep b c h h') (e : h[n]? = some cl) : h'[n]? = some cl := by
  have := q.b_lt
  have := q.c_lt
  rw [k.get n (lt_of_get e) (by omega) (by omega)]
  exact e
/-- only new cells -/
def Grow (h h' : VH) : Prop := ∃ g, h' = h ++ g
theorem Grow.refl (h : VH) : Grow h h := ⟨[], by simp⟩
theorem Grow.trans {h h1 h2 : VH} : Grow h h1 → Grow h1 h2 → Grow h h2
  | ⟨g, e⟩, ⟨g', e'⟩ => ⟨g ++ g', by rw [e', e, List.append_assoc]⟩
theorem Grow.app {h h1 : VH} (x : Grow h h1) (g : VH) : Grow h (h1 ++ g) := x.trans ⟨g, rfl⟩
theorem Grow.new (h g : VH) : Grow h (h ++ g) := ⟨g, rfl⟩
theorem Grow.lk {h h' : VH} (x : Grow h h') {n : Nat} {l : List D} (e : lk h n = some l) : Vq.lk h' n = some l := by
  obtain ⟨g, rfl⟩ := x
  exact lk_app e g
theorem Hb.grow {b c : Nat} {h h' : VH} (q : Hb b c h) (x : Grow h h') : Keep b c h h' := by
  obtain ⟨g, rfl⟩ := x
  exact q.keep g
/-! ### statements one after another -/
theorem turn_of {g : VG} {body : VSt} {d : D} {s s' : VS} {h h' : VH} (e : g d s h = .ok (s', h')) : turn g body d s h = body s' h' := by
  unfold turn
  rw [e]
  rfl
theorem turn_N (i : Nat) (body : VSt) (d : D) (s : VS) (h : VH) : turn (gP (pN i)) body d s h = body (s.set i (some d)) h := turn_of rfl
section
variable {f g : VSt} {s s' : VS} {h h' : VH} {d : D}
theorem seq_nx (e : f s h = .ok (.nx, s', h')) : vSeq f g s h = g s' h' := by simp [e]
theorem seq_rt (e : f s h = .ok (.rt d, s', h')) : vSeq f g s h = .ok (.rt d, s', h') := by simp [e]
end

/-! ### comprehensions, by what holds throughout -/
theorem lc_run {it : VI} {vs : List Nat} {g : VP} {t : VT} {e : VE} {s : VS} {h h1 : VH} {src : VH → Option (List D)} {ys : List D} (I : Nat → VH → List D → Prop)
    (hit : it s h = .ok (src, h1)) (hsrc : ∀ i h acc, I i h acc → src h = some ys) (hz : ys.length ≤ 16777216) (h0 : I 0 (h1 ++ [.lst []]) [])
    (hl : ∀ i h acc, I i h acc → h[h1.length]? = some (.lst acc))
    (step : ∀ i d h acc, ys[i]? = some d → I i h acc → acc.length ≤ i → ∃ s' b h2, g d (vwipe s vs) = some s' ∧ t s' h = .ok (b, h2) ∧
      if b = true then ∃ d' h3, e s' h2 = .ok (d', h3) ∧ h3[h1.length]? = some (.lst acc) ∧ I (i + 1) (h3.set h1.length (.lst (acc ++ [d']))) (acc ++ [d']) else I (i + 1) h2 acc) :
    ∃ h' acc, vLc it vs g t e s h = .ok (.ref h1.length, h') ∧ I ys.length h' acc := by
  have gen : ∀ (k i : Nat) (h : VH) (acc : List D), i + k = ys.length → acc.length ≤ i → I i h acc → ∃ h' acc', lcF src vs g t e h1.length s k i h = .ok h' ∧ I ys.length h' acc' := by
    intro k
    induction k with
    | zero =>
      intro i h acc e1 e2 hi
      have : i = ys.length := by omega
      subst this
      refine ⟨h, acc, ?_, hi⟩
      unfold lcF
      simp [hsrc _ _ _ hi]
    | succ k ih =>
      intro i h acc e1 e2 hi
      have hlt : i < ys.length := by omega
      have ei : ys[i]? = some ys[i] := List.getElem?_eq_getElem hlt
      obtain ⟨s', b, h2, eg, et, hb⟩ := step i _ h acc ei hi e2
      unfold lcF
      simp only [hsrc _ _ _ hi, ei, eg, et, noex_ok, Res.ok_bind]
      cases b with
      | false =>
        simp only [Bool.false_eq_true, if_false] at hb ⊢
        exact ih (i + 1) h2 acc (by omega) (by omega) hb
      | true =>
        simp only [if_true] at hb ⊢
        obtain ⟨d', h3, ee, e3, hi3⟩ := hb
        have pa : putAt h1.length d' h3 = .ok (h3.set h1.length (.lst (acc ++ [d']))) := by
          unfold putAt
          rw [e3]
          simp only
          rw [if_pos (lt_line (by omega))]
        simp only [ee, noex_ok, Res.ok_bind, pa]
        exact ih (i + 1) _ _ (by omega) (by simp; omega) hi3
  obtain ⟨h', acc, eq, hi⟩ := gen ys.length 0 _ [] (by omega) (Nat.zero_le _) h0
  refine ⟨h', acc, ?_, hi⟩
  unfold vLc
  simp only [hit, Res.ok_bind, hsrc _ _ _ h0, eq]
/-- each element a draw's worth: the bag may turn, the rest stands -/
theorem lc_bag {it : VI} {vs : List Nat} {g : VP} {e : VE} {s : VS} {h h1 : VH} {src : VH → Option (List D)} {ys : List D} {b c : Nat} (R : D → Prop) (q : Hb b c h1)
    (hit : it s h = .ok (src, h1)) (hsrc : ∀ h, src h = some ys) (hz : ys.length ≤ 16777216)
    (step : ∀ d h, d ∈ ys → Keep b c h1 h → ∃ s' d' h3, g d (vwipe s vs) = some s' ∧ e s' h = .ok (d', h3) ∧ R d' ∧ Keep b c h h3) :
    ∃ h' acc, vLc it vs g vYes e s h = .ok (.ref h1.length, h') ∧ h'[h1.length]? = some (.lst acc) ∧ acc.length = ys.length ∧ (∀ d ∈ acc, R d) ∧ Keep b c h1 h' := by
  have hb := q.b_lt
  have hc := q.c_lt
  obtain ⟨h', acc, e1, e2, e3, e4, e5⟩ := lc_run (t := vYes) (e := e) (vs := vs) (g := g) (fun i h acc => h[h1.length]? = some (.lst acc) ∧ acc.length = i ∧ (∀ d ∈ acc, R d) ∧ Keep b c h1 h) hit (fun _ h _ _ => hsrc h) hz
    ⟨by simp, rfl, by simp, q.keep _⟩ (fun _ _ _ i => i.1) (fun i d h acc ed hi _ => by
      obtain ⟨i1, i2, i3, i4⟩ := hi
      obtain ⟨s', d', h3, eg, ee, hr, hk⟩ := step d h (List.mem_of_getElem? ed) i4
      have lt : h1.length < h.length := lt_of_get i1
      have l3' : h3[h1.length]? = some (.lst acc) := (hk.get _ lt (by omega) (by omega)).trans i1
      refine ⟨s', true, h, eg, rfl, ?_⟩
      rw [if_pos rfl]
      refine ⟨d', h3, ee, l3', ?_, by simp [i2], ?_, ?_⟩
      · rw [List.getElem?_set_self (lt_of_get l3')]
      · intro d hd
        rcases List.mem_append.mp hd with hd | hd
        · exact i3 d hd
        · rw [List.mem_singleton.mp hd]
          exact hr
      · exact (i4.trans hk).set (Nat.le_refl _) (by omega) (by omega))
  exact ⟨h', acc, e1, e2, e3, e4, e5⟩
/-- a comprehension over range(n) that may draw -/
theorem lc_bagR {a : VA} {vs : List Nat} {g : VP} {e : VE} {s : VS} {h h1 : VH} {n : Int} {b c : Nat} (R : D → Prop) (q : Hb b c h1) (ha : a s h = .ok ([.int n], h1)) (hn : n ≤ 1000000) (h0 : -1000000 ≤ n)
    (step : ∀ (k : Nat) h, (k : Int) < n → Keep b c h1 h → ∃ s' d' h3, g (.int (k : Int)) (vwipe s vs) = some s' ∧ e s' h = .ok (d', h3) ∧ R d' ∧ Keep b c h h3) :
    ∃ h' acc, vLc (vRng1 a) vs g vYes e s h = .ok (.ref h1.length, h') ∧ h'[h1.length]? = some (.lst acc) ∧ acc.length = n.toNat ∧ (∀ d ∈ acc, R d) ∧ Keep b c h1 h' := by
  have z := lc_bag (it := vRng1 a) (vs := vs) (g := g) (e := e) (s := s) (h := h) (h1 := h1) (src := fun _ => some (rangeD 0 1 n.toNat)) (ys := rangeD 0 1 n.toNat) R q
    (vRng1_of ha (by unfold inRng; exact decide_eq_true (by omega))) (fun _ => rfl) (by simp; omega) (fun d h hd k => by
      rw [rangeD_one] at hd
      obtain ⟨i, hi, rfl⟩ := List.mem_map.mp hd
      have := List.mem_range.mp hi
      rw [Int.zero_add]
      exact step i h (by omega) k)
  rwa [show (rangeD 0 1 n.toNat).length = n.toNat by simp] at z
end Vq

namespace K72
open PySem PySem.Spec PyProof.Rows L2 Vq
def topS (i : Nat) : Stmt := PySem.Challenge.pw_comparenets_k72_whole_step_rows_told.main.body.getD i (.Pass ⟨0, 0, 0, 0⟩)
abbrev s_is_step_row : Stmt := topS 1
abbrev N_is_step_row : List Str := ["row", "one", "other"]
abbrev P_is_step_row : List Str := ["row"]
theorem sc_is_step_row : FnScope N_is_step_row P_is_step_row (defScope s_is_step_row) := ⟨rfl, rfl, rfl, by decide +kernel, rfl, by decide +kernel, by decide +kernel⟩
abbrev s_step_row : Stmt := topS 3
abbrev N_step_row : List Str := ["n", "total", "place"]
abbrev P_step_row : List Str := ["n", "total"]
theorem sc_step_row : FnScope N_step_row P_step_row (defScope s_step_row) := ⟨rfl, rfl, rfl, by decide +kernel, rfl, by decide +kernel, by decide +kernel⟩
abbrev s_step_fault : Stmt := topS 4
abbrev N_step_fault : List Str := ["row", "i", "j"]
abbrev P_step_fault : List Str := ["row"]
theorem sc_step_fault : FnScope N_step_fault P_step_fault (defScope s_step_fault) := ⟨rfl, rfl, rfl, by decide +kernel, rfl, by decide +kernel, by decide +kernel⟩
abbrev s_part_sums : Stmt := topS 5
abbrev N_part_sums : List Str := ["row", "odd", "place", "item"]
abbrev P_part_sums : List Str := ["row"]
theorem sc_part_sums : FnScope N_part_sums P_part_sums (defScope s_part_sums) := ⟨rfl, rfl, rfl, by decide +kernel, rfl, by decide +kernel, by decide +kernel⟩
abbrev s_smooth_width : Stmt := topS 6
abbrev N_smooth_width : List Str := ["row"]
abbrev P_smooth_width : List Str := ["row"]
theorem sc_smooth_width : FnScope N_smooth_width P_smooth_width (defScope s_smooth_width) := ⟨rfl, rfl, rfl, by decide +kernel, rfl, by decide +kernel, by decide +kernel⟩
abbrev s_law_own_bag : Stmt := topS 8
abbrev N_law_own_bag : List Str := ["script", "cells", "mixed", "cell"]
abbrev P_law_own_bag : List Str := ["script"]
theorem sc_law_own_bag : FnScope N_law_own_bag P_law_own_bag (defScope s_law_own_bag) := ⟨rfl, rfl, rfl, by decide +kernel, rfl, by decide +kernel, by decide +kernel⟩
abbrev s_law_draw : Stmt := topS 9
abbrev N_law_draw : List Str := ["bag", "below", "cell", "found"]
abbrev P_law_draw : List Str := ["bag", "below"]
theorem sc_law_draw : FnScope N_law_draw P_law_draw (defScope s_law_draw) := ⟨rfl, rfl, rfl, by decide +kernel, rfl, by decide +kernel, by decide +kernel⟩
abbrev s_law_pick : Stmt := topS 10
abbrev N_law_pick : List Str := ["bag", "some"]
abbrev P_law_pick : List Str := ["bag", "some"]
theorem sc_law_pick : FnScope N_law_pick P_law_pick (defScope s_law_pick) := ⟨rfl, rfl, rfl, by decide +kernel, rfl, by decide +kernel, by decide +kernel⟩
abbrev s_law_great : Stmt := topS 11
abbrev N_law_great : List Str := ["bag", "found", "turn"]
abbrev P_law_great : List Str := ["bag"]
theorem sc_law_great : FnScope N_law_great P_law_great (defScope s_law_great) := ⟨rfl, rfl, rfl, by decide +kernel, rfl, by decide +kernel, by decide +kernel⟩
abbrev s_law_steps : Stmt := topS 12
abbrev N_law_steps : List Str := ["n", "total", "least", "left", "w"]
abbrev P_law_steps : List Str := ["n", "total"]
theorem sc_law_steps : FnScope N_law_steps P_law_steps (defScope s_law_steps) := ⟨rfl, rfl, rfl, by decide +kernel, rfl, by decide +kernel, by decide +kernel⟩
abbrev s_law_fault : Stmt := topS 13
abbrev N_law_fault : List Str := ["row", "i", "wrong", "j"]
abbrev P_law_fault : List Str := ["row"]
theorem sc_law_fault : FnScope N_law_fault P_law_fault (defScope s_law_fault) := ⟨rfl, rfl, rfl, by decide +kernel, rfl, by decide +kernel, by decide +kernel⟩
abbrev s_law_parts : Stmt := topS 14
abbrev N_law_parts : List Str := ["row", "sums", "k", "item"]
abbrev P_law_parts : List Str := ["row"]
theorem sc_law_parts : FnScope N_law_parts P_law_parts (defScope s_law_parts) := ⟨rfl, rfl, rfl, by decide +kernel, rfl, by decide +kernel, by decide +kernel⟩
abbrev s_law_width : Stmt := topS 15
abbrev N_law_width : List Str := ["row", "great", "least", "item"]
abbrev P_law_width : List Str := ["row"]
theorem sc_law_width : FnScope N_law_width P_law_width (defScope s_law_width) := ⟨rfl, rfl, rfl, by decide +kernel, rfl, by decide +kernel, by decide +kernel⟩
abbrev s_law_row : Stmt := topS 16
abbrev N_law_row : List Str := ["bag", "many", "kind", "least", "high", "row", "at", "other", "first", "k"]
abbrev P_law_row : List Str := ["bag", "many"]
theorem sc_law_row : FnScope N_law_row P_law_row (defScope s_law_row) := ⟨rfl, rfl, rfl, by decide +kernel, rfl, by decide +kernel, by decide +kernel⟩
abbrev s_law_is_row_right : Stmt := topS 17
abbrev N_law_is_row_right : List Str := ["row", "is_named", "fault", "dues", "kept", "told", "other", "wide", "sums"]
abbrev P_law_is_row_right : List Str := ["row", "is_named"]
theorem sc_law_is_row_right : FnScope N_law_is_row_right P_law_is_row_right (defScope s_law_is_row_right) := ⟨rfl, rfl, rfl, by decide +kernel, rfl, by decide +kernel, by decide +kernel⟩
abbrev s_law_total : Stmt := topS 18
abbrev N_law_total : List Str := ["bag", "n", "kind", "any_one"]
abbrev P_law_total : List Str := ["bag", "n"]
theorem sc_law_total : FnScope N_law_total P_law_total (defScope s_law_total) := ⟨rfl, rfl, rfl, by decide +kernel, rfl, by decide +kernel, by decide +kernel⟩
abbrev s_law_are_steps_right : Stmt := topS 19
abbrev N_law_are_steps_right : List Str := ["bag", "n", "total", "due", "told", "parts"]
abbrev P_law_are_steps_right : List Str := ["bag", "n"]
theorem sc_law_are_steps_right : FnScope N_law_are_steps_right P_law_are_steps_right (defScope s_law_are_steps_right) := ⟨rfl, rfl, rfl, by decide +kernel, rfl, by decide +kernel, by decide +kernel⟩
abbrev s_law_are_counts_right : Stmt := topS 20
abbrev N_law_are_counts_right : List Str := ["bag", "n", "row", "kind", "at", "is_due", "is_same", "w"]
abbrev P_law_are_counts_right : List Str := ["bag", "n"]
theorem sc_law_are_counts_right : FnScope N_law_are_counts_right P_law_are_counts_right (defScope s_law_are_counts_right) := ⟨rfl, rfl, rfl, by decide +kernel, rfl, by decide +kernel, by decide +kernel⟩
abbrev s_law : Stmt := topS 21
abbrev N_law : List Str := ["script", "bag", "n", "long", "many", "row", "least", "late", "few", "far", "total", "first", "due", "k"]
abbrev P_law : List Str := ["script"]
theorem sc_law : FnScope N_law P_law (defScope s_law) := ⟨rfl, rfl, rfl, by decide +kernel, rfl, by decide +kernel, by decide +kernel⟩
/-- what the text's top has made -/
structure Txt (K : PySem.W.Frag) (mg : Str → Option Value) where
  a_is_step_row : Addr
  d_is_step_row : FuncData
  g_is_step_row : mg "is_step_row" = some (.ref a_is_step_row)
  k_is_step_row : PySem.W.keepIn K (.ref a_is_step_row) = true
  f_is_step_row : Fun K "is_step_row" "is_step_row" s_is_step_row a_is_step_row d_is_step_row
  b_is_step_row : BindP K d_is_step_row P_is_step_row
  a_step_row : Addr
  d_step_row : FuncData
  g_step_row : mg "step_row" = some (.ref a_step_row)
  k_step_row : PySem.W.keepIn K (.ref a_step_row) = true
  f_step_row : Fun K "step_row" "step_row" s_step_row a_step_row d_step_row
  b_step_row : BindP K d_step_row P_step_row
  a_step_fault : Addr
  d_step_fault : FuncData
  g_step_fault : mg "step_fault" = some (.ref a_step_fault)
  k_step_fault : PySem.W.keepIn K (.ref a_step_fault) = true
  f_step_fault : Fun K "step_fault" "step_fault" s_step_fault a_step_fault d_step_fault
  b_step_fault : BindP K d_step_fault P_step_fault
  a_part_sums : Addr
  d_part_sums : FuncData
  g_part_sums : mg "part_sums" = some (.ref a_part_sums)
  k_part_sums : PySem.W.keepIn K (.ref a_part_sums) = true
  f_part_sums : Fun K "part_sums" "part_sums" s_part_sums a_part_sums d_part_sums
  b_part_sums : BindP K d_part_sums P_part_sums
  a_smooth_width : Addr
  d_smooth_width : FuncData
  g_smooth_width : mg "smooth_width" = some (.ref a_smooth_width)
  k_smooth_width : PySem.W.keepIn K (.ref a_smooth_width) = true
  f_smooth_width : Fun K "smooth_width" "smooth_width" s_smooth_width a_smooth_width d_smooth_width
  b_smooth_width : BindP K d_smooth_width P_smooth_width
  a_law_own_bag : Addr
  d_law_own_bag : FuncData
  g_law_own_bag : mg "_law_own_bag" = some (.ref a_law_own_bag)
  k_law_own_bag : PySem.W.keepIn K (.ref a_law_own_bag) = true
  f_law_own_bag : Fun K "_law_own_bag" "_law_own_bag" s_law_own_bag a_law_own_bag d_law_own_bag
  b_law_own_bag : BindP K d_law_own_bag P_law_own_bag
  a_law_draw : Addr
  d_law_draw : FuncData
  g_law_draw : mg "_law_draw" = some (.ref a_law_draw)
  k_law_draw : PySem.W.keepIn K (.ref a_law_draw) = true
  f_law_draw : Fun K "_law_draw" "_law_draw" s_law_draw a_law_draw d_law_draw
  b_law_draw : BindP K d_law_draw P_law_draw
  a_law_pick : Addr
  d_law_pick : FuncData
  g_law_pick : mg "_law_pick" = some (.ref a_law_pick)
  k_law_pick : PySem.W.keepIn K (.ref a_law_pick) = true
  f_law_pick : Fun K "_law_pick" "_law_pick" s_law_pick a_law_pick d_law_pick
  b_law_pick : BindP K d_law_pick P_law_pick
  a_law_great : Addr
  d_law_great : FuncData
  g_law_great : mg "_law_great" = some (.ref a_law_great)
  k_law_great : PySem.W.keepIn K (.ref a_law_great) = true
  f_law_great : Fun K "_law_great" "_law_great" s_law_great a_law_great d_law_great
  b_law_great : BindP K d_law_great P_law_great
  a_law_steps : Addr
  d_law_steps : FuncData
  g_law_steps : mg "_law_steps" = some (.ref a_law_steps)
  k_law_steps : PySem.W.keepIn K (.ref a_law_steps) = true
  f_law_steps : Fun K "_law_steps" "_law_steps" s_law_steps a_law_steps d_law_steps
  b_law_steps : BindP K d_law_steps P_law_steps
  a_law_fault : Addr
  d_law_fault : FuncData
  g_law_fault : mg "_law_fault" = some (.ref a_law_fault)
  k_law_fault : PySem.W.keepIn K (.ref a_law_fault) = true
  f_law_fault : Fun K "_law_fault" "_law_fault" s_law_fault a_law_fault d_law_fault
  b_law_fault : BindP K d_law_fault P_law_fault
  a_law_parts : Addr
  d_law_parts : FuncData
  g_law_parts : mg "_law_parts" = some (.ref a_law_parts)
  k_law_parts : PySem.W.keepIn K (.ref a_law_parts) = true
  f_law_parts : Fun K "_law_parts" "_law_parts" s_law_parts a_law_parts d_law_parts
  b_law_parts : BindP K d_law_parts P_law_parts
  a_law_width : Addr
  d_law_width : FuncData
  g_law_width : mg "_law_width" = some (.ref a_law_width)
  k_law_width : PySem.W.keepIn K (.ref a_law_width) = true
  f_law_width : Fun K "_law_width" "_law_width" s_law_width a_law_width d_law_width
  b_law_width : BindP K d_law_width P_law_width
  a_law_row : Addr
  d_law_row : FuncData
  g_law_row : mg "_law_row" = some (.ref a_law_row)
  k_law_row : PySem.W.keepIn K (.ref a_law_row) = true
  f_law_row : Fun K "_law_row" "_law_row" s_law_row a_law_row d_law_row
  b_law_row : BindP K d_law_row P_law_row
  a_law_is_row_right : Addr
  d_law_is_row_right : FuncData
  g_law_is_row_right : mg "_law_is_row_right" = some (.ref a_law_is_row_right)
  k_law_is_row_right : PySem.W.keepIn K (.ref a_law_is_row_right) = true
  f_law_is_row_right : Fun K "_law_is_row_right" "_law_is_row_right" s_law_is_row_right a_law_is_row_right d_law_is_row_right
  b_law_is_row_right : BindP K d_law_is_row_right P_law_is_row_right
  a_law_total : Addr
  d_law_total : FuncData
  g_law_total : mg "_law_total" = some (.ref a_law_total)
  k_law_total : PySem.W.keepIn K (.ref a_law_total) = true
  f_law_total : Fun K "_law_total" "_law_total" s_law_total a_law_total d_law_total
  b_law_total : BindP K d_law_total P_law_total
  a_law_are_steps_right : Addr
  d_law_are_steps_right : FuncData
  g_law_are_steps_right : mg "_law_are_steps_right" = some (.ref a_law_are_steps_right)
  k_law_are_steps_right : PySem.W.keepIn K (.ref a_law_are_steps_right) = true
  f_law_are_steps_right : Fun K "_law_are_steps_right" "_law_are_steps_right" s_law_are_steps_right a_law_are_steps_right d_law_are_steps_right
  b_law_are_steps_right : BindP K d_law_are_steps_right P_law_are_steps_right
  a_law_are_counts_right : Addr
  d_law_are_counts_right : FuncData
  g_law_are_counts_right : mg "_law_are_counts_right" = some (.ref a_law_are_counts_right)
  k_law_are_counts_right : PySem.W.keepIn K (.ref a_law_are_counts_right) = true
  f_law_are_counts_right : Fun K "_law_are_counts_right" "_law_are_counts_right" s_law_are_counts_right a_law_are_counts_right d_law_are_counts_right
  b_law_are_counts_right : BindP K d_law_are_counts_right P_law_are_counts_right
  a_law : Addr
  d_law : FuncData
  g_law : mg "law" = some (.ref a_law)
  k_law : PySem.W.keepIn K (.ref a_law) = true
  f_law : Fun K "law" "law" s_law a_law d_law
  b_law : BindP K d_law P_law
  n_abs : mg "abs" = none
  n_all : mg "all" = none
  n_enumerate : mg "enumerate" = none
  n_int : mg "int" = none
  n_len : mg "len" = none
  n_list : mg "list" = none
  n_max : mg "max" = none
  n_min : mg "min" = none
  n_range : mg "range" = none
  n_repr : mg "repr" = none
  n_reversed : mg "reversed" = none
  n_sum : mg "sum" = none
  n_tuple : mg "tuple" = none
  n_zip : mg "zip" = none
variable {P : Program} {w : World} {K : PySem.W.Frag} {mg : Str → Option Value} {base : Heap}
theorem kw0 (T : Txt K mg) : BindK T.d_is_step_row P_is_step_row ["row"] 0 (permL [0]) := bindK_of T.f_is_step_row ["row"] 0 [0] fun _ _ _ _ _ _ us ws h1 h2 => match us, ws, h1, h2 with | [], [_], _, _ => rfl
theorem kw1 (T : Txt K mg) : BindK T.d_smooth_width P_smooth_width ["row"] 0 (permL [0]) := bindK_of T.f_smooth_width ["row"] 0 [0] fun _ _ _ _ _ _ us ws h1 h2 => match us, ws, h1, h2 with | [], [_], _, _ => rfl
theorem kw2 (T : Txt K mg) : BindK T.d_part_sums P_part_sums ["row"] 0 (permL [0]) := bindK_of T.f_part_sums ["row"] 0 [0] fun _ _ _ _ _ _ us ws h1 h2 => match us, ws, h1, h2 with | [], [_], _, _ => rfl
theorem kw3 (T : Txt K mg) : BindK T.d_step_fault P_step_fault ["row"] 0 (permL [0]) := bindK_of T.f_step_fault ["row"] 0 [0] fun _ _ _ _ _ _ us ws h1 h2 => match us, ws, h1, h2 with | [], [_], _, _ => rfl
theorem kw4 (T : Txt K mg) : BindK T.d_step_row P_step_row ["total", "n"] 0 (permL [1, 0]) := bindK_of T.f_step_row ["total", "n"] 0 [1, 0] fun _ _ _ _ _ _ us ws h1 h2 => match us, ws, h1, h2 with | [], [_, _], _, _ => rfl
def E1_is_step_row : VE :=
  (vOp aGe (vVar 1) (vVar 2))
def C1_is_step_row : VE :=
  (vLc (vZip (vCons (vVar 0) (vCons (vSl (vVar 0) (oSome (vC (.int 1))) oNone) vNil))) [1, 2] (pTup 2 (psCons (pN 1) (psCons (pN 2) psNil))) vYes E1_is_step_row)
def m_is_step_row : VSt :=
  (vSeq (vIfS (vTr (vOp dEq (vVar 0) (vTup vNil))) (vRet (vC (.bl true))) vPass)
    (vRet (vAnd (vBl bAll (vCons C1_is_step_row vNil)) (vOp aLe (vOp aSub (vOp dIx (vVar 0) (vC (.int 0))) (vOp dIx (vVar 0) (vUn uNeg (vC (.int 1))))) (vC (.int 1))))))
theorem ok_is_step_row (T : Txt K mg) : FnG P w K mg base 1 T.a_is_step_row T.d_is_step_row P_is_step_row (mF 3 (m_is_step_row)) :=
  fnG_of T.f_is_step_row sc_is_step_row fun cdv A outer s H E a =>
    (qsCons (qIfS (qCmT (eq_opr a.hu) (eq_opd _) (qV (i := 0) rfl (.inl rfl)) (qTup qa0)) (qsOne (qRet qB)) qsNil)
    (qsOne (qRet (qAnd (qBl (cr_all rfl) (all_cd _) T.n_all (qa (qLc (own := [("one", 1), ("other", 2)]) rfl sc_is_step_row.nd (qZip T.n_zip (qa (qV (i := 0) rfl (.inl rfl)) (qa (qSl (qV (i := 0) rfl (.inl rfl)) (qo qI) qo0) qa0))) (blkOk_by (N := N_is_step_row) (sc := defScope s_is_step_row) (own := [("one", 1), ("other", 2)]) (by decide +kernel)) (tgd_tup (tgsd_cons (tgd_name (by decide)) (tgsd_cons (tgd_name (by decide)) tgsd_nil))) (fun _ _ _ _ _ => (pg_tup rfl (pgs_cons (pg_name (i := 1) sc_is_step_row.nd rfl (.inl rfl)) (pgs_cons (pg_name (i := 2) sc_is_step_row.nd rfl (.inl rfl)) pgs_nil)))) (fun _ _ _ _ _ => (qYes _ _)) (fun _ _ _ _ _ => (qCm op_ge (ge_ii _) (qV (i := 1) rfl (.inl rfl)) (qV (i := 2) rfl (.inl rfl))))) qa0)) (qOne (qCm op_le (le_ii _) (qOp op_sub (sub_ii _) (qIx ix_seq (ix_opd _) (qV (i := 0) rfl (.inl rfl)) qI) (qIx ix_seq (ix_opd _) (qV (i := 0) rfl (.inl rfl)) (qUn un_neg (neg_un _) qI))) qI))))))
def E1_step_row : VE :=
  (vOp dAdd (vOp aFdv (vVar 1) (vVar 0)) (vBl bInt (vCons (vOp aLt (vVar 2) (vOp aMod (vVar 1) (vVar 0))) vNil)))
def C1_step_row : VE :=
  (vLc (vRng1 (vCons (vVar 0) vNil)) [2] (pN 2) vYes E1_step_row)
def m_step_row : VSt :=
  (vRet (vBl bTup (vCons C1_step_row vNil)))
theorem ok_step_row (T : Txt K mg) : FnG P w K mg base 1 T.a_step_row T.d_step_row P_step_row (mF 3 (m_step_row)) :=
  fnG_of T.f_step_row sc_step_row fun cdv A outer s H E a =>
    (qsOne (qRet (qTy call_tuple_of (tup_cd _) T.n_tuple (qa (qLc (own := [("place", 2)]) rfl sc_step_row.nd (qRng1 T.n_range (qa (qV (i := 0) rfl (.inr (.inl rfl))) qa0)) (blkOk_by (N := N_step_row) (sc := defScope s_step_row) (own := [("place", 2)]) (by decide +kernel)) (tgd_name (by decide)) (fun _ _ _ _ _ => (pg_name (i := 2) sc_step_row.nd rfl (.inl rfl))) (fun _ _ _ _ _ => (qYes _ _)) (fun _ _ _ _ _ => (qOp add_opr (add_opd _) (qOp fdv_opr (fdv_ii _) (qV (i := 1) rfl (.inr (.inl rfl))) (qV (i := 0) rfl (.inr (.inl rfl)))) (qTy call_int1 (int_cd _) T.n_int (qa (qCm op_lt (lt_ii _) (qV (i := 2) rfl (.inl rfl)) (qOp op_modN (mod_ii _) (qV (i := 1) rfl (.inr (.inl rfl))) (qV (i := 0) rfl (.inr (.inl rfl))))) qa0))))) qa0))))
def B1_step_fault : VSt :=
  (vIfS (vTr (vOp dNin (vOp aSub (vOp dIx (vVar 0) (vVar 1)) (vOp dIx (vVar 0) (vVar 2))) (vTup (vCons (vC (.int 0)) (vCons (vC (.int 1)) vNil))))) (vRet (vTup (vCons (vVar 1) (vCons (vVar 2) vNil)))) vPass)
def L1_step_fault : VSt :=
  (vFor (vRng2 (vCons (vOp dAdd (vVar 1) (vC (.int 1))) (vCons (vBl bLen (vCons (vVar 0) vNil)) vNil))) (gP (pN 2)) B1_step_fault)
def B2_step_fault : VSt :=
  L1_step_fault
def L2_step_fault : VSt :=
  (vFor (vRng1 (vCons (vBl bLen (vCons (vVar 0) vNil)) vNil)) (gP (pN 1)) B2_step_fault)
def m_step_fault : VSt :=
  (vSeq L2_step_fault
    (vRet (vC .non)))
theorem ok_step_fault (T : Txt K mg) : FnG P w K mg base 1 T.a_step_fault T.d_step_fault P_step_fault (mF 3 (m_step_fault)) :=
  fnG_of T.f_step_fault sc_step_fault fun cdv A outer s H E a =>
    (qsCons (qFor a.ps rfl (qRng1 T.n_range (qa (qBl call_len (len_cd _) T.n_len (qa (qV (i := 0) rfl (.inl rfl)) qa0)) qa0)) (qgP (vs := [1]) (pg_name (i := 1) sc_step_fault.nd rfl (.inl rfl)) (tgd_name (by decide))) (qsOne (qFor a.ps rfl (qRng2 T.n_range (qa (qOp add_opr (add_opd _) (qV (i := 1) rfl (.inl rfl)) qI) (qa (qBl call_len (len_cd _) T.n_len (qa (qV (i := 0) rfl (.inl rfl)) qa0)) qa0))) (qgP (vs := [2]) (pg_name (i := 2) sc_step_fault.nd rfl (.inl rfl)) (tgd_name (by decide))) (qsOne (qIfS (qCmT op_notIn_seq (nin_opd _) (qOp op_sub (sub_ii _) (qIx ix_seq (ix_opd _) (qV (i := 0) rfl (.inl rfl)) (qV (i := 1) rfl (.inl rfl))) (qIx ix_seq (ix_opd _) (qV (i := 0) rfl (.inl rfl)) (qV (i := 2) rfl (.inl rfl)))) (qTup (qa qI (qa qI qa0)))) (qsOne (qRet (qTup (qa (qV (i := 1) rfl (.inl rfl)) (qa (qV (i := 2) rfl (.inl rfl)) qa0))))) qsNil)))))
    (qsOne (qRet qN)))
def T1_part_sums : VT :=
  (vTr (vOp dEq (vOp aMod (vVar 2) (vC (.int 2))) (vC (.int 1))))
def E1_part_sums : VE :=
  (vVar 3)
def C1_part_sums : VE :=
  (vLc (vEnum (vCons (vVar 0) vNil)) [2, 3] (pTup 2 (psCons (pN 2) (psCons (pN 3) psNil))) T1_part_sums E1_part_sums)
def m_part_sums : VSt :=
  (vSeq (vAsg (vBl bSum (vCons C1_part_sums vNil)) (gName 1))
    (vRet (vTup (vCons (vOp aSub (vBl bSum (vCons (vVar 0) vNil)) (vVar 1)) (vCons (vVar 1) vNil)))))
theorem ok_part_sums (T : Txt K mg) : FnG P w K mg base 1 T.a_part_sums T.d_part_sums P_part_sums (mF 4 (m_part_sums)) :=
  fnG_of T.f_part_sums sc_part_sums fun cdv A outer s H E a =>
    (qsCons (qSet (i := 1) sc_part_sums.nd (qBl (cr_sumS rfl) (sum_cd _) T.n_sum (qa (qLc (own := [("place", 2), ("item", 3)]) rfl sc_part_sums.nd (qEnum T.n_enumerate (qa (qV (i := 0) rfl (.inl rfl)) qa0)) (blkOk_by (N := N_part_sums) (sc := defScope s_part_sums) (own := [("place", 2), ("item", 3)]) (by decide +kernel)) (tgd_tup (tgsd_cons (tgd_name (by decide)) (tgsd_cons (tgd_name (by decide)) tgsd_nil))) (fun _ _ _ _ _ => (pg_tup rfl (pgs_cons (pg_name (i := 2) sc_part_sums.nd rfl (.inl rfl)) (pgs_cons (pg_name (i := 3) sc_part_sums.nd rfl (.inl rfl)) pgs_nil)))) (fun _ _ _ _ _ => (pts_one (qCmT (eq_opr a.blk.hu) (eq_opd _) (qOp op_modN (mod_ii _) (qV (i := 2) rfl (.inl rfl)) qI) qI))) (fun _ _ _ _ _ => (qV (i := 3) rfl (.inl rfl)))) qa0)) rfl (.inl rfl))
    (qsOne (qRet (qTup (qa (qOp op_sub (sub_ii _) (qBl (cr_sumS rfl) (sum_cd _) T.n_sum (qa (qV (i := 0) rfl (.inl rfl)) qa0)) (qV (i := 1) rfl (.inl rfl))) (qa (qV (i := 1) rfl (.inl rfl)) qa0))))))
def m_smooth_width : VSt :=
  (vRet (vIf (vTr (vOp dNe (vVar 0) (vTup vNil))) (vOp aSub (vBl bMax (vCons (vVar 0) vNil)) (vBl bMin (vCons (vVar 0) vNil))) (vC (.int 0))))
theorem ok_smooth_width (T : Txt K mg) : FnG P w K mg base 1 T.a_smooth_width T.d_smooth_width P_smooth_width (mF 1 (m_smooth_width)) :=
  fnG_of T.f_smooth_width sc_smooth_width fun cdv A outer s H E a =>
    (qsOne (qRet (qIf (qCmT (ne_opr a.hu) (ne_opd _) (qV (i := 0) rfl (.inl rfl)) (qTup qa0)) (qOp op_sub (sub_ii _) (qBl (cr_maxS rfl) (max_cd _) T.n_max (qa (qV (i := 0) rfl (.inl rfl)) qa0)) (qBl (cr_minS rfl) (min_cd _) T.n_min (qa (qV (i := 0) rfl (.inl rfl)) qa0))) qI)))
def B1_law_own_bag : VSt :=
  (vAsg (vOp aMod (vOp dAdd (vOp dAdd (vOp dMul (vVar 2) (vC (.int 48271))) (vOp aMod (vVar 3) (vC (.int 2147483629)))) (vC (.int 13))) (vC (.int 2147483647))) (gName 2))
def L1_law_own_bag : VSt :=
  (vFor (vIt (vVar 1)) (gP (pN 3)) B1_law_own_bag)
def E1_law_own_bag : VE :=
  (vBl bAbs (vCons (vVar 3) vNil))
def C1_law_own_bag : VE :=
  (vLc (vIt (vSl (vVar 0) oNone (oSome (vC (.int 63))))) [3] (pN 3) vYes E1_law_own_bag)
def m_law_own_bag : VSt :=
  (vSeq (vAsg C1_law_own_bag (gName 1))
    (vSeq (vAsg (vOp dAdd (vC (.int 6823)) (vBl bLen (vCons (vVar 1) vNil))) (gName 2))
    (vSeq L1_law_own_bag
    (vRet (vLst (vCons (vLRev (vCons (vBl bList (vCons (vVar 1) vNil)) vNil)) (vCons (vC (.int 0)) (vCons (vVar 2) vNil))))))))
theorem ok_law_own_bag (T : Txt K mg) : FnG P w K mg base 1 T.a_law_own_bag T.d_law_own_bag P_law_own_bag (mF 4 (m_law_own_bag)) :=
  fnG_of T.f_law_own_bag sc_law_own_bag fun cdv A outer s H E a =>
    (qsCons (qSetLc (i := 1) (own := [("cell", 3)]) rfl sc_law_own_bag.nd rfl rfl (sw_true rfl rfl rfl (by decide +kernel)) (qIt (qSl (qV (i := 0) rfl (.inl rfl)) qo0 (qo qI))) (blkOk_by (N := N_law_own_bag) (sc := defScope s_law_own_bag) (own := [("cell", 3)]) (by decide +kernel)) (tgd_name (by decide)) (fun _ _ _ _ _ => (pg_name (i := 3) sc_law_own_bag.nd rfl (.inl rfl))) (fun _ _ _ _ _ => (qYes _ _)) (fun _ _ _ _ _ => (qBl call_abs (abs_cd _) T.n_abs (qa (qV (i := 3) rfl (.inl rfl)) qa0))))
    (qsCons (qSet (i := 2) sc_law_own_bag.nd (qOp add_opr (add_opd _) qI (qBl call_len (len_cd _) T.n_len (qa (qV (i := 1) rfl (.inl rfl)) qa0))) rfl (.inl rfl))
    (qsCons (qFor a.ps rfl (qIt (qV (i := 1) rfl (.inl rfl))) (qgP (vs := [3]) (pg_name (i := 3) sc_law_own_bag.nd rfl (.inl rfl)) (tgd_name (by decide))) (qsOne (qSet (i := 2) sc_law_own_bag.nd (qOp op_modN (mod_ii _) (qOp add_opr (add_opd _) (qOp add_opr (add_opd _) (qOp mul_opr (mul_opd _) (qV (i := 2) rfl (.inl rfl)) qI) (qOp op_modN (mod_ii _) (qV (i := 3) rfl (.inl rfl)) qI)) qI) qI) rfl (.inl rfl))))
    (qsOne (qRet (qLst (qa (qLRev rfl T.n_list T.n_reversed (qa (qTy call_list_of (list_cd _) T.n_list (qa (qV (i := 1) rfl (.inl rfl)) qa0)) qa0)) (qa qI (qa (qV (i := 2) rfl (.inl rfl)) qa0)))))))))
def T1_law_draw : VT :=
  (vAndT (vTr (vOp dEq (vOp dIx (vVar 0) (vC (.int 1))) (vC (.int 0)))) (vTr (vOp dNe (vOp dIx (vVar 0) (vC (.int 0))) (vLst vNil))))
def B1_law_draw : VSt :=
  (vSeq (vAsg (vMt "list" mPop (vOp dIx (vVar 0) (vC (.int 0))) vNil) (gName 2))
    (vAsg (vIf (vTr (vOp aGt (vVar 2) (vOp aPow (vC (.int 10)) (vC (.int 9))))) (vVar 2) (vC (.int 0))) (gSubs sLst (vVar 0) (vC (.int 1)))))
def L1_law_draw : VSt :=
  (vWhile 1000000 T1_law_draw B1_law_draw)
def m_law_draw : VSt :=
  (vSeq L1_law_draw
    (vSeq (vIfS (vTr (vOp aGt (vOp dIx (vVar 0) (vC (.int 1))) (vC (.int 0)))) (vSeq (vAsg (vOp aMod (vBl bInt (vCons (vOp dIx (vVar 0) (vC (.int 1))) vNil)) (vVar 1)) (gName 3))
    (vSeq (vAsg (vOp aFdv (vOp dIx (vVar 0) (vC (.int 1))) (vVar 1)) (gSubs sLst (vVar 0) (vC (.int 1))))
    (vRet (vVar 3)))) vPass)
    (vSeq (vAsg (vOp aMod (vOp dAdd (vOp dMul (vBl bInt (vCons (vOp dIx (vVar 0) (vC (.int 2))) vNil)) (vC (.int 48271))) (vC (.int 11))) (vC (.int 2147483647))) (gSubs sLst (vVar 0) (vC (.int 2))))
    (vRet (vOp aMod (vOp aFdv (vOp aMod (vBl bInt (vCons (vOp dMul (vOp dIx (vVar 0) (vC (.int 2))) (vOp dIx (vVar 0) (vC (.int 2)))) vNil)) (vC (.int 2147483629))) (vC (.int 7))) (vVar 1))))))
theorem ok_law_draw (T : Txt K mg) : FnG P w K mg base 1 T.a_law_draw T.d_law_draw P_law_draw (mF 4 (m_law_draw)) :=
  fnG_of T.f_law_draw sc_law_draw fun cdv A outer s H E a =>
    (qsCons (qWhile 1000000 a.ps (PW.pt (qAndT (qCmT (eq_opr a.hu) (eq_opd _) (qIx ix_seq (ix_opd _) (qV (i := 0) rfl (.inl rfl)) qI) qI) (qAnd1 (qCmT (ne_opr a.hu) (ne_opd _) (qIx ix_seq (ix_opd _) (qV (i := 0) rfl (.inl rfl)) qI) (qLst qa0))))) (qsCons (qSet (i := 2) sc_law_draw.nd (qMt0 PySem.F.plainAttrs_list PySem.F.slot_list_pop PySem.F.type_list_pop mt_pop (pop_mtd _) (qIx ix_seq (ix_opd _) (qV (i := 0) rfl (.inl rfl)) qI)) rfl (.inl rfl))
    (qsOne (qAsg (qIf (qCmT op_gt (gt_ii _) (qV (i := 2) rfl (.inl rfl)) (qOp op_powB (pow_ii _) qI qI)) (qV (i := 2) rfl (.inl rfl)) qI) (qgS set_list (lst_setd _) (qV (i := 0) rfl (.inl rfl)) qI)))))
    (qsCons (qIfS (qCmT op_gt (gt_ii _) (qIx ix_seq (ix_opd _) (qV (i := 0) rfl (.inl rfl)) qI) qI) (qsCons (qSet (i := 3) sc_law_draw.nd (qOp op_modN (mod_ii _) (qTy call_int1 (int_cd _) T.n_int (qa (qIx ix_seq (ix_opd _) (qV (i := 0) rfl (.inl rfl)) qI) qa0)) (qV (i := 1) rfl (.inl rfl))) rfl (.inl rfl))
    (qsCons (qAsg (qOp fdv_opr (fdv_ii _) (qIx ix_seq (ix_opd _) (qV (i := 0) rfl (.inl rfl)) qI) (qV (i := 1) rfl (.inl rfl))) (qgS set_list (lst_setd _) (qV (i := 0) rfl (.inl rfl)) qI))
    (qsOne (qRet (qV (i := 3) rfl (.inl rfl)))))) qsNil)
    (qsCons (qAsg (qOp op_modN (mod_ii _) (qOp add_opr (add_opd _) (qOp mul_opr (mul_opd _) (qTy call_int1 (int_cd _) T.n_int (qa (qIx ix_seq (ix_opd _) (qV (i := 0) rfl (.inl rfl)) qI) qa0)) qI) qI) qI) (qgS set_list (lst_setd _) (qV (i := 0) rfl (.inl rfl)) qI))
    (qsOne (qRet (qOp op_modN (mod_ii _) (qOp fdv_opr (fdv_ii _) (qOp op_modN (mod_ii _) (qTy call_int1 (int_cd _) T.n_int (qa (qOp mul_opr (mul_opd _) (qIx ix_seq (ix_opd _) (qV (i := 0) rfl (.inl rfl)) qI) (qIx ix_seq (ix_opd _) (qV (i := 0) rfl (.inl rfl)) qI)) qa0)) qI) qI) (qV (i := 1) rfl (.inl rfl))))))))
def m_law_pick (F_law_draw : Fn) : VSt :=
  (vRet (vOp dIx (vVar 1) (vCall 2 F_law_draw (vCons (vVar 0) (vCons (vBl bLen (vCons (vVar 1) vNil)) vNil)))))
theorem ok_law_pick (T : Txt K mg) {F_law_draw : Fn} (G_law_draw : FnG P w K mg base 1 T.a_law_draw T.d_law_draw P_law_draw F_law_draw) : FnG P w K mg base 2 T.a_law_pick T.d_law_pick P_law_pick (mF 2 (m_law_pick F_law_draw)) :=
  fnG_of T.f_law_pick sc_law_pick fun cdv A outer s H E a =>
    (qsOne (qRet (qIx ix_seq (ix_opd _) (qV (i := 1) rfl (.inl rfl)) (qCall G_law_draw (a.mono (by decide)) T.g_law_draw T.k_law_draw T.b_law_draw (qa (qV (i := 0) rfl (.inl rfl)) (qa (qBl call_len (len_cd _) T.n_len (qa (qV (i := 1) rfl (.inl rfl)) qa0)) qa0))))))
def B1_law_great (F_law_draw F_law_pick : Fn) : VSt :=
  (vAsg (vOp dAdd (vOp dMul (vVar 1) (vOp aPow (vC (.int 10)) (vC (.int 6)))) (vCall 2 F_law_draw (vCons (vVar 0) (vCons (vOp aPow (vC (.int 10)) (vC (.int 6))) vNil)))) (gName 1))
def L1_law_great (F_law_draw F_law_pick : Fn) : VSt :=
  (vFor (vRng1 (vCons (vCall 2 F_law_pick (vCons (vVar 0) (vCons (vLst (vCons (vC (.int 1)) (vCons (vC (.int 1)) (vCons (vC (.int 2)) (vCons (vC (.int 5)) vNil))))) vNil))) vNil)) (gP (pN 2)) (B1_law_great F_law_draw F_law_pick))
def m_law_great (F_law_draw F_law_pick : Fn) : VSt :=
  (vSeq (vAsg (vC (.int 0)) (gName 1))
    (vSeq (L1_law_great F_law_draw F_law_pick)
    (vSeq (vIfS (vTr (vOp dEq (vCall 2 F_law_draw (vCons (vVar 0) (vCons (vC (.int 6)) vNil))) (vC (.int 0)))) (vAsg (vOp dAdd (vVar 1) (vOp dMul (vOp aPow (vOp aPow (vC (.int 10)) (vC (.int 49))) (vC (.int 8))) (vCall 2 F_law_draw (vCons (vVar 0) (vCons (vOp aPow (vC (.int 10)) (vC (.int 6))) vNil))))) (gName 1)) vPass)
    (vRet (vIf (vTr (vOp dEq (vCall 2 F_law_draw (vCons (vVar 0) (vCons (vC (.int 2)) vNil))) (vC (.int 0)))) (vVar 1) (vOp aSub (vC (.int 0)) (vVar 1)))))))
theorem ok_law_great (T : Txt K mg) {F_law_draw F_law_pick : Fn} (G_law_draw : FnG P w K mg base 1 T.a_law_draw T.d_law_draw P_law_draw F_law_draw) (G_law_pick : FnG P w K mg base 2 T.a_law_pick T.d_law_pick P_law_pick F_law_pick) : FnG P w K mg base 3 T.a_law_great T.d_law_great P_law_great (mF 3 (m_law_great F_law_draw F_law_pick)) :=
  fnG_of T.f_law_great sc_law_great fun cdv A outer s H E a =>
    (qsCons (qSet (i := 1) sc_law_great.nd qI rfl (.inl rfl))
    (qsCons (qFor a.ps rfl (qRng1 T.n_range (qa (qCall G_law_pick (a.mono (by decide)) T.g_law_pick T.k_law_pick T.b_law_pick (qa (qV (i := 0) rfl (.inl rfl)) (qa (qLst (qa qI (qa qI (qa qI (qa qI qa0))))) qa0))) qa0)) (qgP (vs := [2]) (pg_name (i := 2) sc_law_great.nd rfl (.inl rfl)) (tgd_name (by decide))) (qsOne (qSet (i := 1) sc_law_great.nd (qOp add_opr (add_opd _) (qOp mul_opr (mul_opd _) (qV (i := 1) rfl (.inl rfl)) (qOp op_powB (pow_ii _) qI qI)) (qCall G_law_draw (a.mono (by decide)) T.g_law_draw T.k_law_draw T.b_law_draw (qa (qV (i := 0) rfl (.inl rfl)) (qa (qOp op_powB (pow_ii _) qI qI) qa0)))) rfl (.inl rfl))))
    (qsCons (qIfS (qCmT (eq_opr a.hu) (eq_opd _) (qCall G_law_draw (a.mono (by decide)) T.g_law_draw T.k_law_draw T.b_law_draw (qa (qV (i := 0) rfl (.inl rfl)) (qa qI qa0))) qI) (qsOne (qSet (i := 1) sc_law_great.nd (qOp add_opr (add_opd _) (qV (i := 1) rfl (.inl rfl)) (qOp mul_opr (mul_opd _) (qOp op_powB (pow_ii _) (qOp op_powB (pow_ii _) qI qI) qI) (qCall G_law_draw (a.mono (by decide)) T.g_law_draw T.k_law_draw T.b_law_draw (qa (qV (i := 0) rfl (.inl rfl)) (qa (qOp op_powB (pow_ii _) qI qI) qa0))))) rfl (.inl rfl))) qsNil)
    (qsOne (qRet (qIf (qCmT (eq_opr a.hu) (eq_opd _) (qCall G_law_draw (a.mono (by decide)) T.g_law_draw T.k_law_draw T.b_law_draw (qa (qV (i := 0) rfl (.inl rfl)) (qa qI qa0))) qI) (qV (i := 1) rfl (.inl rfl)) (qOp op_sub (sub_ii _) qI (qV (i := 1) rfl (.inl rfl)))))))))
def E1_law_steps : VE :=
  (vIf (vTr (vOp aLt (vVar 4) (vVar 3))) (vOp dAdd (vVar 2) (vC (.int 1))) (vVar 2))
def C1_law_steps : VE :=
  (vLc (vRng1 (vCons (vVar 0) vNil)) [4] (pN 4) vYes E1_law_steps)
def m_law_steps : VSt :=
  (vSeq (vAsg (vTup (vCons (vOp aFdv (vVar 1) (vVar 0)) (vCons (vOp aMod (vBl bInt (vCons (vVar 1) vNil)) (vVar 0)) vNil))) (gTupl 2 (gsCons (gName 2) (gsCons (gName 3) gsNil))))
    (vRet (vBl bTup (vCons C1_law_steps vNil))))
theorem ok_law_steps (T : Txt K mg) : FnG P w K mg base 1 T.a_law_steps T.d_law_steps P_law_steps (mF 5 (m_law_steps)) :=
  fnG_of T.f_law_steps sc_law_steps fun cdv A outer s H E a =>
    (qsCons (qAsg (qTup (qa (qOp fdv_opr (fdv_ii _) (qV (i := 1) rfl (.inl rfl)) (qV (i := 0) rfl (.inl rfl))) (qa (qOp op_modN (mod_ii _) (qTy call_int1 (int_cd _) T.n_int (qa (qV (i := 1) rfl (.inl rfl)) qa0)) (qV (i := 0) rfl (.inl rfl))) qa0))) (qgT rfl (qgs (qgN (i := 2) sc_law_steps.nd rfl (.inr rfl)) (qgs (qgN (i := 3) sc_law_steps.nd rfl (.inr rfl)) qgs0))))
    (qsOne (qRet (qTy call_tuple_of (tup_cd _) T.n_tuple (qa (qLc (own := [("w", 4)]) rfl sc_law_steps.nd (qRng1 T.n_range (qa (qV (i := 0) rfl (.inl rfl)) qa0)) (blkOk_by (N := N_law_steps) (sc := defScope s_law_steps) (own := [("w", 4)]) (by decide +kernel)) (tgd_name (by decide)) (fun _ _ _ _ _ => (pg_name (i := 4) sc_law_steps.nd rfl (.inl rfl))) (fun _ _ _ _ _ => (qYes _ _)) (fun _ _ _ _ _ => (qIf (qCmT op_lt (lt_ii _) (qV (i := 4) rfl (.inl rfl)) (qV (i := 3) rfl (.inr (.inl rfl)))) (qOp add_opr (add_opd _) (qV (i := 2) rfl (.inr (.inl rfl))) qI) (qV (i := 2) rfl (.inr (.inl rfl)))))) qa0)))))
def T1_law_fault : VT :=
  (vOrT (vTr (vOp aLt (vOp dIx (vVar 0) (vVar 1)) (vOp dIx (vVar 0) (vVar 3)))) (vTr (vOp aGt (vOp dIx (vVar 0) (vVar 1)) (vOp dAdd (vOp dIx (vVar 0) (vVar 3)) (vC (.int 1))))))
def E1_law_fault : VE :=
  (vVar 3)
def C1_law_fault : VE :=
  (vLc (vRng2 (vCons (vOp dAdd (vVar 1) (vC (.int 1))) (vCons (vBl bLen (vCons (vVar 0) vNil)) vNil))) [3] (pN 3) T1_law_fault E1_law_fault)
def B1_law_fault : VSt :=
  (vSeq (vAsg C1_law_fault (gName 2))
    (vIfS (vTr (vOp dNe (vVar 2) (vLst vNil))) (vRet (vTup (vCons (vVar 1) (vCons (vOp dIx (vVar 2) (vC (.int 0))) vNil)))) vPass))
def L1_law_fault : VSt :=
  (vFor (vRng1 (vCons (vBl bLen (vCons (vVar 0) vNil)) vNil)) (gP (pN 1)) B1_law_fault)
def m_law_fault : VSt :=
  (vSeq L1_law_fault
    (vRet (vC .non)))
theorem ok_law_fault (T : Txt K mg) : FnG P w K mg base 1 T.a_law_fault T.d_law_fault P_law_fault (mF 4 (m_law_fault)) :=
  fnG_of T.f_law_fault sc_law_fault fun cdv A outer s H E a =>
    (qsCons (qFor a.ps rfl (qRng1 T.n_range (qa (qBl call_len (len_cd _) T.n_len (qa (qV (i := 0) rfl (.inr (.inl rfl))) qa0)) qa0)) (qgP (vs := [1]) (pg_name (i := 1) sc_law_fault.nd rfl (.inr rfl)) (tgd_name (by decide))) (qsCons (qSetLc (i := 2) (own := [("j", 3)]) rfl sc_law_fault.nd rfl rfl (sw_true rfl rfl rfl (by decide +kernel)) (qRng2 T.n_range (qa (qOp add_opr (add_opd _) (qV (i := 1) rfl (.inr (.inl rfl))) qI) (qa (qBl call_len (len_cd _) T.n_len (qa (qV (i := 0) rfl (.inr (.inl rfl))) qa0)) qa0))) (blkOk_by (N := N_law_fault) (sc := defScope s_law_fault) (own := [("j", 3)]) (by decide +kernel)) (tgd_name (by decide)) (fun _ _ _ _ _ => (pg_name (i := 3) sc_law_fault.nd rfl (.inl rfl))) (fun _ _ _ _ _ => (pts_one (PW.pt (qOrT (qCmT op_lt (lt_ii _) (qIx ix_seq (ix_opd _) (qV (i := 0) rfl (.inr (.inl rfl))) (qV (i := 1) rfl (.inr (.inl rfl)))) (qIx ix_seq (ix_opd _) (qV (i := 0) rfl (.inr (.inl rfl))) (qV (i := 3) rfl (.inl rfl)))) (qOr1 (qCmT op_gt (gt_ii _) (qIx ix_seq (ix_opd _) (qV (i := 0) rfl (.inr (.inl rfl))) (qV (i := 1) rfl (.inr (.inl rfl)))) (qOp add_opr (add_opd _) (qIx ix_seq (ix_opd _) (qV (i := 0) rfl (.inr (.inl rfl))) (qV (i := 3) rfl (.inl rfl))) qI))))))) (fun _ _ _ _ _ => (qV (i := 3) rfl (.inl rfl))))
    (qsOne (qIfS (qCmT (ne_opr a.hu) (ne_opd _) (qV (i := 2) rfl (.inl rfl)) (qLst qa0)) (qsOne (qRet (qTup (qa (qV (i := 1) rfl (.inr (.inl rfl))) (qa (qIx ix_seq (ix_opd _) (qV (i := 2) rfl (.inl rfl)) qI) qa0))))) qsNil))))
    (qsOne (qRet qN)))
def B1_law_parts : VSt :=
  (vAsg (vOp dAdd (vOp dIx (vVar 1) (vOp aMod (vVar 2) (vC (.int 2)))) (vVar 3)) (gSubs sLst (vVar 1) (vOp aMod (vVar 2) (vC (.int 2)))))
def L1_law_parts : VSt :=
  (vFor (vEnum (vCons (vVar 0) vNil)) (gP (pTup 2 (psCons (pN 2) (psCons (pN 3) psNil)))) B1_law_parts)
def m_law_parts : VSt :=
  (vSeq (vAsg (vLst (vCons (vC (.int 0)) (vCons (vC (.int 0)) vNil))) (gName 1))
    (vSeq L1_law_parts
    (vRet (vTup (vCons (vOp dIx (vVar 1) (vC (.int 0))) (vCons (vOp dIx (vVar 1) (vC (.int 1))) vNil))))))
theorem ok_law_parts (T : Txt K mg) : FnG P w K mg base 1 T.a_law_parts T.d_law_parts P_law_parts (mF 4 (m_law_parts)) :=
  fnG_of T.f_law_parts sc_law_parts fun cdv A outer s H E a =>
    (qsCons (qSet (i := 1) sc_law_parts.nd (qLst (qa qI (qa qI qa0))) rfl (.inl rfl))
    (qsCons (qFor a.ps rfl (qEnum T.n_enumerate (qa (qV (i := 0) rfl (.inl rfl)) qa0)) (qgP (vs := [2, 3]) (pg_tup rfl (pgs_cons (pg_name (i := 2) sc_law_parts.nd rfl (.inl rfl)) (pgs_cons (pg_name (i := 3) sc_law_parts.nd rfl (.inl rfl)) pgs_nil))) (tgd_tup (tgsd_cons (tgd_name (by decide)) (tgsd_cons (tgd_name (by decide)) tgsd_nil)))) (qsOne (qAsg (qOp add_opr (add_opd _) (qIx ix_seq (ix_opd _) (qV (i := 1) rfl (.inl rfl)) (qOp op_modN (mod_ii _) (qV (i := 2) rfl (.inl rfl)) qI)) (qV (i := 3) rfl (.inl rfl))) (qgS set_list (lst_setd _) (qV (i := 1) rfl (.inl rfl)) (qOp op_modN (mod_ii _) (qV (i := 2) rfl (.inl rfl)) qI)))))
    (qsOne (qRet (qTup (qa (qIx ix_seq (ix_opd _) (qV (i := 1) rfl (.inl rfl)) qI) (qa (qIx ix_seq (ix_opd _) (qV (i := 1) rfl (.inl rfl)) qI) qa0)))))))
def B1_law_width : VSt :=
  (vSeq (vAsg (vIf (vTr (vOp aGt (vVar 3) (vVar 1))) (vVar 3) (vVar 1)) (gName 1))
    (vAsg (vIf (vTr (vOp aLt (vVar 3) (vVar 2))) (vVar 3) (vVar 2)) (gName 2)))
def L1_law_width : VSt :=
  (vFor (vIt (vVar 0)) (gP (pN 3)) B1_law_width)
def m_law_width : VSt :=
  (vSeq (vIfS (vTr (vOp dEq (vBl bLen (vCons (vVar 0) vNil)) (vC (.int 0)))) (vRet (vC (.int 0))) vPass)
    (vSeq (vPar 1 2 (vCons (vOp dIx (vVar 0) (vC (.int 0))) (vCons (vOp dIx (vVar 0) (vC (.int 0))) vNil)))
    (vSeq L1_law_width
    (vRet (vOp aSub (vVar 1) (vVar 2))))))
theorem ok_law_width (T : Txt K mg) : FnG P w K mg base 1 T.a_law_width T.d_law_width P_law_width (mF 4 (m_law_width)) :=
  fnG_of T.f_law_width sc_law_width fun cdv A outer s H E a =>
    (qsCons (qIfS (qCmT (eq_opr a.hu) (eq_opd _) (qBl call_len (len_cd _) T.n_len (qa (qV (i := 0) rfl (.inl rfl)) qa0)) qI) (qsOne (qRet qI)) qsNil)
    (qsCons (qPar2 (i := 1) (j := 2) rfl sc_law_width.nd (qa (qIx ix_seq (ix_opd _) (qV (i := 0) rfl (.inl rfl)) qI) (qa (qIx ix_seq (ix_opd _) (qV (i := 0) rfl (.inl rfl)) qI) qa0)))
    (qsCons (qFor a.ps rfl (qIt (qV (i := 0) rfl (.inl rfl))) (qgP (vs := [3]) (pg_name (i := 3) sc_law_width.nd rfl (.inl rfl)) (tgd_name (by decide))) (qsCons (qSet (i := 1) sc_law_width.nd (qIf (qCmT op_gt (gt_ii _) (qV (i := 3) rfl (.inl rfl)) (qV (i := 1) rfl (.inl rfl))) (qV (i := 3) rfl (.inl rfl)) (qV (i := 1) rfl (.inl rfl))) rfl (.inl rfl))
    (qsOne (qSet (i := 2) sc_law_width.nd (qIf (qCmT op_lt (lt_ii _) (qV (i := 3) rfl (.inl rfl)) (qV (i := 2) rfl (.inl rfl))) (qV (i := 3) rfl (.inl rfl)) (qV (i := 2) rfl (.inl rfl))) rfl (.inl rfl)))))
    (qsOne (qRet (qOp op_sub (sub_ii _) (qV (i := 1) rfl (.inl rfl)) (qV (i := 2) rfl (.inl rfl))))))))
def E1_law_row (F_law_pick F_law_draw F_law_great : Fn) : VE :=
  (vIf (vTr (vOp aLt (vVar 9) (vVar 6))) (vOp dAdd (vVar 3) (vC (.int 2))) (vIf (vTr (vOp aLt (vVar 9) (vOp dAdd (vOp dAdd (vVar 6) (vC (.int 1))) (vOp aFdv (vVar 7) (vC (.int 2)))))) (vOp dAdd (vVar 3) (vC (.int 1))) (vVar 3)))
def C1_law_row (F_law_pick F_law_draw F_law_great : Fn) : VE :=
  (vLc (vRng1 (vCons (vVar 1) vNil)) [9] (pN 9) vYes (E1_law_row F_law_pick F_law_draw F_law_great))
def S1_law_row (F_law_pick F_law_draw F_law_great : Fn) : VSt :=
  (vIfS (vTr (vOp dEq (vVar 2) (vC (.int 2)))) (vAsg (vOp dAdd (vOp dIx (vVar 5) (vVar 6)) (vCall 2 F_law_pick (vCons (vVar 0) (vCons (vLst (vCons (vC (.int 1)) (vCons (vC (.int 2)) (vCons (vOp aPow (vC (.int 10)) (vC (.int 9))) vNil)))) vNil)))) (gSubs sLst (vVar 5) (vVar 6))) (vIfS (vTr (vOp dEq (vVar 2) (vC (.int 3)))) (vAsg (vOp aSub (vOp dIx (vVar 5) (vVar 6)) (vCall 2 F_law_pick (vCons (vVar 0) (vCons (vLst (vCons (vC (.int 1)) (vCons (vC (.int 2)) (vCons (vOp aPow (vC (.int 10)) (vC (.int 9))) vNil)))) vNil)))) (gSubs sLst (vVar 5) (vVar 6))) (vIfS (vTr (vOp dEq (vVar 2) (vC (.int 4)))) (vAsg (vOp dAdd (vOp dIx (vVar 5) (vUn uNeg (vC (.int 1)))) (vCall 2 F_law_pick (vCons (vVar 0) (vCons (vLst (vCons (vC (.int 1)) (vCons (vC (.int 2)) vNil))) vNil)))) (gSubs sLst (vVar 5) (vUn uNeg (vC (.int 1))))) (vIfS (vTr (vOp dEq (vVar 2) (vC (.int 5)))) (vAsg (vOp aSub (vOp dIx (vVar 5) (vUn uNeg (vC (.int 1)))) (vCall 2 F_law_pick (vCons (vVar 0) (vCons (vLst (vCons (vC (.int 1)) (vCons (vC (.int 2)) vNil))) vNil)))) (gSubs sLst (vVar 5) (vUn uNeg (vC (.int 1))))) (vIfS (vTr (vOp dEq (vVar 2) (vC (.int 6)))) (vSeq (vAsg (vOp dIx (vVar 5) (vVar 6)) (gName 8))
    (vSeq (vAsg (vOp dIx (vVar 5) (vVar 7)) (gSubs sLst (vVar 5) (vVar 6)))
    (vAsg (vVar 8) (gSubs sLst (vVar 5) (vVar 7))))) (vAsg (C1_law_row F_law_pick F_law_draw F_law_great) (gName 5)))))))
def S2_law_row (F_law_pick F_law_draw F_law_great : Fn) : VSt :=
  (vAsg (vTup (vCons (vCall 2 F_law_draw (vCons (vVar 0) (vCons (vVar 1) vNil))) (vCons (vCall 2 F_law_draw (vCons (vVar 0) (vCons (vVar 1) vNil))) vNil))) (gTupl 2 (gsCons (gName 6) (gsCons (gName 7) gsNil))))
def S3_law_row (F_law_pick F_law_draw F_law_great : Fn) : VSt :=
  (vIfS (vOrT (vTr (vOp aLt (vVar 1) (vC (.int 2)))) (vTr (vOp aGt (vVar 2) (vC (.int 7))))) (vRet (vBl bTup (vCons (vVar 5) vNil))) vPass)
def E2_law_row (F_law_pick F_law_draw F_law_great : Fn) : VE :=
  (vCall 1 F_law_great (vCons (vVar 0) vNil))
def C2_law_row (F_law_pick F_law_draw F_law_great : Fn) : VE :=
  (vLc (vRng1 (vCons (vBl bMin (vCons (vVar 1) (vCons (vC (.int 20)) vNil))) vNil)) [9] (pN 9) vYes (E2_law_row F_law_pick F_law_draw F_law_great))
def S4_law_row (F_law_pick F_law_draw F_law_great : Fn) : VSt :=
  (vIfS (vTr (vOp dEq (vVar 2) (vC (.int 1)))) (vRet (vBl bTup (vCons (C2_law_row F_law_pick F_law_draw F_law_great) vNil))) vPass)
def E3_law_row (F_law_pick F_law_draw F_law_great : Fn) : VE :=
  (vOp dAdd (vVar 3) (vCall 2 F_law_draw (vCons (vVar 0) (vCons (vC (.int 3)) vNil))))
def C3_law_row (F_law_pick F_law_draw F_law_great : Fn) : VE :=
  (vLc (vRng1 (vCons (vVar 1) vNil)) [9] (pN 9) vYes (E3_law_row F_law_pick F_law_draw F_law_great))
def S5_law_row (F_law_pick F_law_draw F_law_great : Fn) : VSt :=
  (vIfS (vTr (vOp dEq (vVar 2) (vC (.int 0)))) (vRet (vBl bTup (vCons (C3_law_row F_law_pick F_law_draw F_law_great) vNil))) vPass)
def E4_law_row (F_law_pick F_law_draw F_law_great : Fn) : VE :=
  (vIf (vTr (vOp aLt (vVar 9) (vVar 4))) (vOp dAdd (vVar 3) (vC (.int 1))) (vVar 3))
def C4_law_row (F_law_pick F_law_draw F_law_great : Fn) : VE :=
  (vLc (vRng1 (vCons (vVar 1) vNil)) [9] (pN 9) vYes (E4_law_row F_law_pick F_law_draw F_law_great))
def S6_law_row (F_law_pick F_law_draw F_law_great : Fn) : VSt :=
  (vAsg (C4_law_row F_law_pick F_law_draw F_law_great) (gName 5))
def S7_law_row (F_law_pick F_law_draw F_law_great : Fn) : VSt :=
  (vAsg (vCall 2 F_law_pick (vCons (vVar 0) (vCons (vLst (vCons (vCall 2 F_law_draw (vCons (vVar 0) (vCons (vOp dAdd (vVar 1) (vC (.int 1))) vNil))) (vCons (vIf (vTr (vOp aGt (vVar 1) (vC (.int 0)))) (vOp aSub (vVar 1) (vC (.int 1))) (vC (.int 0))) (vCons (vOp aFdv (vVar 1) (vC (.int 2))) vNil)))) vNil))) (gName 4))
def S8_law_row (F_law_pick F_law_draw F_law_great : Fn) : VSt :=
  (vAsg (vTup (vCons (vCall 2 F_law_draw (vCons (vVar 0) (vCons (vC (.int 10)) vNil))) (vCons (vCall 2 F_law_pick (vCons (vVar 0) (vCons (vLst (vCons (vC (.int 0)) (vCons (vC (.int 0)) (vCons (vCall 2 F_law_draw (vCons (vVar 0) (vCons (vC (.int 9)) vNil))) (vCons (vUn uNeg (vC (.int 1))) (vCons (vCall 1 F_law_great (vCons (vVar 0) vNil)) vNil)))))) vNil))) vNil))) (gTupl 2 (gsCons (gName 2) (gsCons (gName 3) gsNil))))
def m_law_row (F_law_pick F_law_draw F_law_great : Fn) : VSt :=
  (vSeq (S8_law_row F_law_pick F_law_draw F_law_great)
    (vSeq (S7_law_row F_law_pick F_law_draw F_law_great)
    (vSeq (S6_law_row F_law_pick F_law_draw F_law_great)
    (vSeq (S5_law_row F_law_pick F_law_draw F_law_great)
    (vSeq (S4_law_row F_law_pick F_law_draw F_law_great)
    (vSeq (S3_law_row F_law_pick F_law_draw F_law_great)
    (vSeq (S2_law_row F_law_pick F_law_draw F_law_great)
    (vSeq (S1_law_row F_law_pick F_law_draw F_law_great)
    (vRet (vBl bTup (vCons (vVar 5) vNil)))))))))))
theorem ok_law_row (T : Txt K mg) {F_law_pick F_law_draw F_law_great : Fn} (G_law_pick : FnG P w K mg base 2 T.a_law_pick T.d_law_pick P_law_pick F_law_pick) (G_law_draw : FnG P w K mg base 1 T.a_law_draw T.d_law_draw P_law_draw F_law_draw) (G_law_great : FnG P w K mg base 3 T.a_law_great T.d_law_great P_law_great F_law_great) : FnG P w K mg base 4 T.a_law_row T.d_law_row P_law_row (mF 10 (m_law_row F_law_pick F_law_draw F_law_great)) :=
  fnG_of T.f_law_row sc_law_row fun cdv A outer s H E a =>
    (qsCons (qAsg (qTup (qa (qCall G_law_draw (a.mono (by decide)) T.g_law_draw T.k_law_draw T.b_law_draw (qa (qV (i := 0) rfl (.inr (.inl rfl))) (qa qI qa0))) (qa (qCall G_law_pick (a.mono (by decide)) T.g_law_pick T.k_law_pick T.b_law_pick (qa (qV (i := 0) rfl (.inr (.inl rfl))) (qa (qLst (qa qI (qa qI (qa (qCall G_law_draw (a.mono (by decide)) T.g_law_draw T.k_law_draw T.b_law_draw (qa (qV (i := 0) rfl (.inr (.inl rfl))) (qa qI qa0))) (qa (qUn un_neg (neg_un _) qI) (qa (qCall G_law_great (a.mono (by decide)) T.g_law_great T.k_law_great T.b_law_great (qa (qV (i := 0) rfl (.inr (.inl rfl))) qa0)) qa0)))))) qa0))) qa0))) (qgT rfl (qgs (qgN (i := 2) sc_law_row.nd rfl (.inl rfl)) (qgs (qgN (i := 3) sc_law_row.nd rfl (.inr rfl)) qgs0))))
    (qsCons (qSet (i := 4) sc_law_row.nd (qCall G_law_pick (a.mono (by decide)) T.g_law_pick T.k_law_pick T.b_law_pick (qa (qV (i := 0) rfl (.inr (.inl rfl))) (qa (qLst (qa (qCall G_law_draw (a.mono (by decide)) T.g_law_draw T.k_law_draw T.b_law_draw (qa (qV (i := 0) rfl (.inr (.inl rfl))) (qa (qOp add_opr (add_opd _) (qV (i := 1) rfl (.inl rfl)) qI) qa0))) (qa (qIf (qCmT op_gt (gt_ii _) (qV (i := 1) rfl (.inl rfl)) qI) (qOp op_sub (sub_ii _) (qV (i := 1) rfl (.inl rfl)) qI) qI) (qa (qOp fdv_opr (fdv_ii _) (qV (i := 1) rfl (.inl rfl)) qI) qa0)))) qa0))) rfl (.inr rfl))
    (qsCons (qSetLc (i := 5) (own := [("k", 9)]) rfl sc_law_row.nd rfl rfl (sw_true rfl rfl rfl (by decide +kernel)) (qRng1 T.n_range (qa (qV (i := 1) rfl (.inl rfl)) qa0)) (blkOk_by (N := N_law_row) (sc := defScope s_law_row) (own := [("k", 9)]) (by decide +kernel)) (tgd_name (by decide)) (fun _ _ _ _ _ => (pg_name (i := 9) sc_law_row.nd rfl (.inl rfl))) (fun _ _ _ _ _ => (qYes _ _)) (fun _ _ _ _ _ => (qIf (qCmT op_lt (lt_ii _) (qV (i := 9) rfl (.inl rfl)) (qV (i := 4) rfl (.inr (.inl rfl)))) (qOp add_opr (add_opd _) (qV (i := 3) rfl (.inr (.inl rfl))) qI) (qV (i := 3) rfl (.inr (.inl rfl))))))
    (qsCons (qIfS (qCmT (eq_opr a.hu) (eq_opd _) (qV (i := 2) rfl (.inl rfl)) qI) (qsOne (qRet (qTy call_tuple_of (tup_cd _) T.n_tuple (qa (qLc (own := [("k", 9)]) rfl sc_law_row.nd (qRng1 T.n_range (qa (qV (i := 1) rfl (.inl rfl)) qa0)) (blkOk_by (N := N_law_row) (sc := defScope s_law_row) (own := [("k", 9)]) (by decide +kernel)) (tgd_name (by decide)) (fun _ _ _ _ _ => (pg_name (i := 9) sc_law_row.nd rfl (.inl rfl))) (fun _ _ _ _ _ => (qYes _ _)) (fun _ _ _ _ _ => (qOp add_opr (add_opd _) (qV (i := 3) rfl (.inr (.inl rfl))) (qCall G_law_draw (a.blk.mono (by decide)) T.g_law_draw T.k_law_draw T.b_law_draw (qa (qV (i := 0) rfl (.inr (.inl rfl))) (qa qI qa0)))))) qa0)))) qsNil)
    (qsCons (qIfS (qCmT (eq_opr a.hu) (eq_opd _) (qV (i := 2) rfl (.inl rfl)) qI) (qsOne (qRet (qTy call_tuple_of (tup_cd _) T.n_tuple (qa (qLc (own := [("k", 9)]) rfl sc_law_row.nd (qRng1 T.n_range (qa (qBl (cr_minS rfl) (min_cd _) T.n_min (qa (qV (i := 1) rfl (.inl rfl)) (qa qI qa0))) qa0)) (blkOk_by (N := N_law_row) (sc := defScope s_law_row) (own := [("k", 9)]) (by decide +kernel)) (tgd_name (by decide)) (fun _ _ _ _ _ => (pg_name (i := 9) sc_law_row.nd rfl (.inl rfl))) (fun _ _ _ _ _ => (qYes _ _)) (fun _ _ _ _ _ => (qCall G_law_great (a.blk.mono (by decide)) T.g_law_great T.k_law_great T.b_law_great (qa (qV (i := 0) rfl (.inr (.inl rfl))) qa0)))) qa0)))) qsNil)
    (qsCons (qIfS (PW.pt (qOrT (qCmT op_lt (lt_ii _) (qV (i := 1) rfl (.inl rfl)) qI) (qOr1 (qCmT op_gt (gt_ii _) (qV (i := 2) rfl (.inl rfl)) qI)))) (qsOne (qRet (qTy call_tuple_of (tup_cd _) T.n_tuple (qa (qV (i := 5) rfl (.inl rfl)) qa0)))) qsNil)
    (qsCons (qAsg (qTup (qa (qCall G_law_draw (a.mono (by decide)) T.g_law_draw T.k_law_draw T.b_law_draw (qa (qV (i := 0) rfl (.inr (.inl rfl))) (qa (qV (i := 1) rfl (.inl rfl)) qa0))) (qa (qCall G_law_draw (a.mono (by decide)) T.g_law_draw T.k_law_draw T.b_law_draw (qa (qV (i := 0) rfl (.inr (.inl rfl))) (qa (qV (i := 1) rfl (.inl rfl)) qa0))) qa0))) (qgT rfl (qgs (qgN (i := 6) sc_law_row.nd rfl (.inr rfl)) (qgs (qgN (i := 7) sc_law_row.nd rfl (.inr rfl)) qgs0))))
    (qsCons (qIfS (qCmT (eq_opr a.hu) (eq_opd _) (qV (i := 2) rfl (.inl rfl)) qI) (qsOne (qAsg (qOp add_opr (add_opd _) (qIx ix_seq (ix_opd _) (qV (i := 5) rfl (.inl rfl)) (qV (i := 6) rfl (.inr (.inl rfl)))) (qCall G_law_pick (a.mono (by decide)) T.g_law_pick T.k_law_pick T.b_law_pick (qa (qV (i := 0) rfl (.inr (.inl rfl))) (qa (qLst (qa qI (qa qI (qa (qOp op_powB (pow_ii _) qI qI) qa0)))) qa0)))) (qgS set_list (lst_setd _) (qV (i := 5) rfl (.inl rfl)) (qV (i := 6) rfl (.inr (.inl rfl)))))) (qsOne (qIfS (qCmT (eq_opr a.hu) (eq_opd _) (qV (i := 2) rfl (.inl rfl)) qI) (qsOne (qAsg (qOp op_sub (sub_ii _) (qIx ix_seq (ix_opd _) (qV (i := 5) rfl (.inl rfl)) (qV (i := 6) rfl (.inr (.inl rfl)))) (qCall G_law_pick (a.mono (by decide)) T.g_law_pick T.k_law_pick T.b_law_pick (qa (qV (i := 0) rfl (.inr (.inl rfl))) (qa (qLst (qa qI (qa qI (qa (qOp op_powB (pow_ii _) qI qI) qa0)))) qa0)))) (qgS set_list (lst_setd _) (qV (i := 5) rfl (.inl rfl)) (qV (i := 6) rfl (.inr (.inl rfl)))))) (qsOne (qIfS (qCmT (eq_opr a.hu) (eq_opd _) (qV (i := 2) rfl (.inl rfl)) qI) (qsOne (qAsg (qOp add_opr (add_opd _) (qIx ix_seq (ix_opd _) (qV (i := 5) rfl (.inl rfl)) (qUn un_neg (neg_un _) qI)) (qCall G_law_pick (a.mono (by decide)) T.g_law_pick T.k_law_pick T.b_law_pick (qa (qV (i := 0) rfl (.inr (.inl rfl))) (qa (qLst (qa qI (qa qI qa0))) qa0)))) (qgS set_list (lst_setd _) (qV (i := 5) rfl (.inl rfl)) (qUn un_neg (neg_un _) qI)))) (qsOne (qIfS (qCmT (eq_opr a.hu) (eq_opd _) (qV (i := 2) rfl (.inl rfl)) qI) (qsOne (qAsg (qOp op_sub (sub_ii _) (qIx ix_seq (ix_opd _) (qV (i := 5) rfl (.inl rfl)) (qUn un_neg (neg_un _) qI)) (qCall G_law_pick (a.mono (by decide)) T.g_law_pick T.k_law_pick T.b_law_pick (qa (qV (i := 0) rfl (.inr (.inl rfl))) (qa (qLst (qa qI (qa qI qa0))) qa0)))) (qgS set_list (lst_setd _) (qV (i := 5) rfl (.inl rfl)) (qUn un_neg (neg_un _) qI)))) (qsOne (qIfS (qCmT (eq_opr a.hu) (eq_opd _) (qV (i := 2) rfl (.inl rfl)) qI) (qsCons (qSet (i := 8) sc_law_row.nd (qIx ix_seq (ix_opd _) (qV (i := 5) rfl (.inl rfl)) (qV (i := 6) rfl (.inr (.inl rfl)))) rfl (.inl rfl))
    (qsCons (qAsg (qIx ix_seq (ix_opd _) (qV (i := 5) rfl (.inl rfl)) (qV (i := 7) rfl (.inr (.inl rfl)))) (qgS set_list (lst_setd _) (qV (i := 5) rfl (.inl rfl)) (qV (i := 6) rfl (.inr (.inl rfl)))))
    (qsOne (qAsg (qV (i := 8) rfl (.inl rfl)) (qgS set_list (lst_setd _) (qV (i := 5) rfl (.inl rfl)) (qV (i := 7) rfl (.inr (.inl rfl)))))))) (qsOne (qSetLc (i := 5) (own := [("k", 9)]) rfl sc_law_row.nd rfl rfl (sw_true rfl rfl rfl (by decide +kernel)) (qRng1 T.n_range (qa (qV (i := 1) rfl (.inl rfl)) qa0)) (blkOk_by (N := N_law_row) (sc := defScope s_law_row) (own := [("k", 9)]) (by decide +kernel)) (tgd_name (by decide)) (fun _ _ _ _ _ => (pg_name (i := 9) sc_law_row.nd rfl (.inl rfl))) (fun _ _ _ _ _ => (qYes _ _)) (fun _ _ _ _ _ => (qIf (qCmT op_lt (lt_ii _) (qV (i := 9) rfl (.inl rfl)) (qV (i := 6) rfl (.inr (.inl rfl)))) (qOp add_opr (add_opd _) (qV (i := 3) rfl (.inr (.inl rfl))) qI) (qIf (qCmT op_lt (lt_ii _) (qV (i := 9) rfl (.inl rfl)) (qOp add_opr (add_opd _) (qOp add_opr (add_opd _) (qV (i := 6) rfl (.inr (.inl rfl))) qI) (qOp fdv_opr (fdv_ii _) (qV (i := 7) rfl (.inr (.inl rfl))) qI))) (qOp add_opr (add_opd _) (qV (i := 3) rfl (.inr (.inl rfl))) qI) (qV (i := 3) rfl (.inr (.inl rfl)))))))))))))))))
    (qsOne (qRet (qTy call_tuple_of (tup_cd _) T.n_tuple (qa (qV (i := 5) rfl (.inl rfl)) qa0))))))))))))
def m_law_is_row_right (F_is_step_row F_smooth_width F_part_sums F_step_fault F_law_width F_law_parts F_law_fault : Fn) : VSt :=
  (vSeq (vAsg (vCall 1 F_law_fault (vCons (vVar 0) vNil)) (gName 2))
    (vSeq (vAsg (vBl bRepr (vCons (vLst (vCons (vVar 2) (vCons (vCall 1 F_law_parts (vCons (vVar 0) vNil)) (vCons (vCall 1 F_law_width (vCons (vVar 0) vNil)) (vCons (vOp dIsN (vVar 2) (vC .non)) vNil))))) vNil)) (gName 3))
    (vSeq (vAsg (vBl bRepr (vCons (vVar 0) vNil)) (gName 4))
    (vSeq (vAsg (vBl bRepr (vCons (vLst (vCons (vCall 1 F_step_fault (vCons (vVar 0) vNil)) (vCons (vCall 1 F_part_sums (vCons (vVar 0) vNil)) (vCons (vCall 1 F_smooth_width (vCons (vVar 0) vNil)) (vCons (vCall 1 F_is_step_row (vCons (vVar 0) vNil)) vNil))))) vNil)) (gName 5))
    (vSeq (vIfS (vTr (vVar 1)) (vAsg (vBl bRepr (vCons (vLst (vCons (vCallK 1 F_step_fault (kwP 0 1 1 [0]) vNil (vCons (vVar 0) vNil)) (vCons (vCallK 1 F_part_sums (kwP 0 1 1 [0]) vNil (vCons (vVar 0) vNil)) (vCons (vCallK 1 F_smooth_width (kwP 0 1 1 [0]) vNil (vCons (vVar 0) vNil)) (vCons (vCallK 1 F_is_step_row (kwP 0 1 1 [0]) vNil (vCons (vVar 0) vNil)) vNil))))) vNil)) (gName 6)) (vSeq (vAsg (vCallK 1 F_smooth_width (kwP 0 1 1 [0]) vNil (vCons (vVar 0) vNil)) (gName 7))
    (vSeq (vAsg (vCallK 1 F_part_sums (kwP 0 1 1 [0]) vNil (vCons (vVar 0) vNil)) (gName 8))
    (vAsg (vBl bRepr (vCons (vLst (vCons (vCallK 1 F_step_fault (kwP 0 1 1 [0]) vNil (vCons (vVar 0) vNil)) (vCons (vVar 8) (vCons (vVar 7) (vCons (vCall 1 F_is_step_row (vCons (vVar 0) vNil)) vNil))))) vNil)) (gName 6)))))
    (vRet (vAnd (vOp dEq (vVar 5) (vVar 3)) (vAnd (vOp dEq (vVar 6) (vVar 3)) (vOp dEq (vBl bRepr (vCons (vVar 0) vNil)) (vVar 4))))))))))
theorem ok_law_is_row_right (T : Txt K mg) {F_is_step_row F_smooth_width F_part_sums F_step_fault F_law_width F_law_parts F_law_fault : Fn} (G_is_step_row : FnG P w K mg base 1 T.a_is_step_row T.d_is_step_row P_is_step_row F_is_step_row) (G_smooth_width : FnG P w K mg base 1 T.a_smooth_width T.d_smooth_width P_smooth_width F_smooth_width) (G_part_sums : FnG P w K mg base 1 T.a_part_sums T.d_part_sums P_part_sums F_part_sums) (G_step_fault : FnG P w K mg base 1 T.a_step_fault T.d_step_fault P_step_fault F_step_fault) (G_law_width : FnG P w K mg base 1 T.a_law_width T.d_law_width P_law_width F_law_width) (G_law_parts : FnG P w K mg base 1 T.a_law_parts T.d_law_parts P_law_parts F_law_parts) (G_law_fault : FnG P w K mg base 1 T.a_law_fault T.d_law_fault P_law_fault F_law_fault) : FnG P w K mg base 2 T.a_law_is_row_right T.d_law_is_row_right P_law_is_row_right (mF 9 (m_law_is_row_right F_is_step_row F_smooth_width F_part_sums F_step_fault F_law_width F_law_parts F_law_fault)) :=
  fnG_of T.f_law_is_row_right sc_law_is_row_right fun cdv A outer s H E a =>
    (qsCons (qSet (i := 2) sc_law_is_row_right.nd (qCall G_law_fault (a.mono (by decide)) T.g_law_fault T.k_law_fault T.b_law_fault (qa (qV (i := 0) rfl (.inl rfl)) qa0)) rfl (.inl rfl))
    (qsCons (qSet (i := 3) sc_law_is_row_right.nd (qBl (cr_repr a.gd a.rp) (repr_cd _) T.n_repr (qa (qLst (qa (qV (i := 2) rfl (.inl rfl)) (qa (qCall G_law_parts (a.mono (by decide)) T.g_law_parts T.k_law_parts T.b_law_parts (qa (qV (i := 0) rfl (.inl rfl)) qa0)) (qa (qCall G_law_width (a.mono (by decide)) T.g_law_width T.k_law_width T.b_law_width (qa (qV (i := 0) rfl (.inl rfl)) qa0)) (qa (qCm op_isN (isN_opd _) (qV (i := 2) rfl (.inl rfl)) qN) qa0))))) qa0)) rfl (.inl rfl))
    (qsCons (qSet (i := 4) sc_law_is_row_right.nd (qBl (cr_repr a.gd a.rp) (repr_cd _) T.n_repr (qa (qV (i := 0) rfl (.inl rfl)) qa0)) rfl (.inl rfl))
    (qsCons (qSet (i := 5) sc_law_is_row_right.nd (qBl (cr_repr a.gd a.rp) (repr_cd _) T.n_repr (qa (qLst (qa (qCall G_step_fault (a.mono (by decide)) T.g_step_fault T.k_step_fault T.b_step_fault (qa (qV (i := 0) rfl (.inl rfl)) qa0)) (qa (qCall G_part_sums (a.mono (by decide)) T.g_part_sums T.k_part_sums T.b_part_sums (qa (qV (i := 0) rfl (.inl rfl)) qa0)) (qa (qCall G_smooth_width (a.mono (by decide)) T.g_smooth_width T.k_smooth_width T.b_smooth_width (qa (qV (i := 0) rfl (.inl rfl)) qa0)) (qa (qCall G_is_step_row (a.mono (by decide)) T.g_is_step_row T.k_is_step_row T.b_is_step_row (qa (qV (i := 0) rfl (.inl rfl)) qa0)) qa0))))) qa0)) rfl (.inl rfl))
    (qsCons (qIfS (qT (qV (i := 1) rfl (.inl rfl))) (qsOne (qSet (i := 6) sc_law_is_row_right.nd (qBl (cr_repr a.gd a.rp) (repr_cd _) T.n_repr (qa (qLst (qa (qCallK0 G_step_fault (a.mono (by decide)) T.g_step_fault T.k_step_fault (kw3 T) (qk (qV (i := 0) rfl (.inl rfl)) qk0)) (qa (qCallK0 G_part_sums (a.mono (by decide)) T.g_part_sums T.k_part_sums (kw2 T) (qk (qV (i := 0) rfl (.inl rfl)) qk0)) (qa (qCallK0 G_smooth_width (a.mono (by decide)) T.g_smooth_width T.k_smooth_width (kw1 T) (qk (qV (i := 0) rfl (.inl rfl)) qk0)) (qa (qCallK0 G_is_step_row (a.mono (by decide)) T.g_is_step_row T.k_is_step_row (kw0 T) (qk (qV (i := 0) rfl (.inl rfl)) qk0)) qa0))))) qa0)) rfl (.inl rfl))) (qsCons (qSet (i := 7) sc_law_is_row_right.nd (qCallK0 G_smooth_width (a.mono (by decide)) T.g_smooth_width T.k_smooth_width (kw1 T) (qk (qV (i := 0) rfl (.inl rfl)) qk0)) rfl (.inl rfl))
    (qsCons (qSet (i := 8) sc_law_is_row_right.nd (qCallK0 G_part_sums (a.mono (by decide)) T.g_part_sums T.k_part_sums (kw2 T) (qk (qV (i := 0) rfl (.inl rfl)) qk0)) rfl (.inl rfl))
    (qsOne (qSet (i := 6) sc_law_is_row_right.nd (qBl (cr_repr a.gd a.rp) (repr_cd _) T.n_repr (qa (qLst (qa (qCallK0 G_step_fault (a.mono (by decide)) T.g_step_fault T.k_step_fault (kw3 T) (qk (qV (i := 0) rfl (.inl rfl)) qk0)) (qa (qV (i := 8) rfl (.inl rfl)) (qa (qV (i := 7) rfl (.inl rfl)) (qa (qCall G_is_step_row (a.mono (by decide)) T.g_is_step_row T.k_is_step_row T.b_is_step_row (qa (qV (i := 0) rfl (.inl rfl)) qa0)) qa0))))) qa0)) rfl (.inl rfl))))))
    (qsOne (qRet (qAnd (qCm (eq_opr a.hu) (eq_opd _) (qV (i := 5) rfl (.inl rfl)) (qV (i := 3) rfl (.inl rfl))) (qAnd (qCm (eq_opr a.hu) (eq_opd _) (qV (i := 6) rfl (.inl rfl)) (qV (i := 3) rfl (.inl rfl))) (qOne (qCm (eq_opr a.hu) (eq_opd _) (qBl (cr_repr a.gd a.rp) (repr_cd _) T.n_repr (qa (qV (i := 0) rfl (.inl rfl)) qa0)) (qV (i := 4) rfl (.inl rfl)))))))))))))
def m_law_total (F_law_draw F_law_pick : Fn) : VSt :=
  (vSeq (vPar 2 3 (vCons (vCall 2 F_law_draw (vCons (vVar 0) (vCons (vC (.int 6)) vNil))) (vCons (vCall 2 F_law_draw (vCons (vVar 0) (vCons (vOp dAdd (vOp aPow (vC (.int 10)) (vC (.int 6))) (vC (.int 1))) vNil))) vNil)))
    (vSeq (vIfS (vTr (vOp dEq (vVar 2) (vC (.int 0)))) (vRet (vCall 2 F_law_draw (vCons (vVar 0) (vCons (vOp dMul (vC (.int 3)) (vVar 1)) vNil)))) vPass)
    (vSeq (vIfS (vTr (vOp dEq (vVar 2) (vC (.int 1)))) (vRet (vCall 2 F_law_pick (vCons (vVar 0) (vCons (vLst (vCons (vC (.int 0)) (vCons (vC (.int 1)) (vCons (vOp aPow (vC (.int 10)) (vC (.int 6))) (vCons (vOp aSub (vOp aPow (vC (.int 10)) (vC (.int 6))) (vC (.int 1))) (vCons (vVar 1) (vCons (vOp aSub (vVar 1) (vC (.int 1))) vNil))))))) vNil)))) vPass)
    (vSeq (vIfS (vTr (vOp dEq (vVar 2) (vC (.int 2)))) (vRet (vBl bMin (vCons (vOp aPow (vC (.int 10)) (vC (.int 6))) (vCons (vBl bMax (vCons (vC (.int 0)) (vCons (vOp aSub (vOp dAdd (vOp dMul (vOp aFdv (vVar 3) (vVar 1)) (vVar 1)) (vCall 2 F_law_draw (vCons (vVar 0) (vCons (vC (.int 3)) vNil)))) (vC (.int 1))) vNil))) vNil)))) vPass)
    (vRet (vVar 3))))))
theorem ok_law_total (T : Txt K mg) {F_law_draw F_law_pick : Fn} (G_law_draw : FnG P w K mg base 1 T.a_law_draw T.d_law_draw P_law_draw F_law_draw) (G_law_pick : FnG P w K mg base 2 T.a_law_pick T.d_law_pick P_law_pick F_law_pick) : FnG P w K mg base 3 T.a_law_total T.d_law_total P_law_total (mF 4 (m_law_total F_law_draw F_law_pick)) :=
  fnG_of T.f_law_total sc_law_total fun cdv A outer s H E a =>
    (qsCons (qPar2 (i := 2) (j := 3) rfl sc_law_total.nd (qa (qCall G_law_draw (a.mono (by decide)) T.g_law_draw T.k_law_draw T.b_law_draw (qa (qV (i := 0) rfl (.inl rfl)) (qa qI qa0))) (qa (qCall G_law_draw (a.mono (by decide)) T.g_law_draw T.k_law_draw T.b_law_draw (qa (qV (i := 0) rfl (.inl rfl)) (qa (qOp add_opr (add_opd _) (qOp op_powB (pow_ii _) qI qI) qI) qa0))) qa0)))
    (qsCons (qIfS (qCmT (eq_opr a.hu) (eq_opd _) (qV (i := 2) rfl (.inl rfl)) qI) (qsOne (qRet (qCall G_law_draw (a.mono (by decide)) T.g_law_draw T.k_law_draw T.b_law_draw (qa (qV (i := 0) rfl (.inl rfl)) (qa (qOp mul_opr (mul_opd _) qI (qV (i := 1) rfl (.inl rfl))) qa0))))) qsNil)
    (qsCons (qIfS (qCmT (eq_opr a.hu) (eq_opd _) (qV (i := 2) rfl (.inl rfl)) qI) (qsOne (qRet (qCall G_law_pick (a.mono (by decide)) T.g_law_pick T.k_law_pick T.b_law_pick (qa (qV (i := 0) rfl (.inl rfl)) (qa (qLst (qa qI (qa qI (qa (qOp op_powB (pow_ii _) qI qI) (qa (qOp op_sub (sub_ii _) (qOp op_powB (pow_ii _) qI qI) qI) (qa (qV (i := 1) rfl (.inl rfl)) (qa (qOp op_sub (sub_ii _) (qV (i := 1) rfl (.inl rfl)) qI) qa0))))))) qa0))))) qsNil)
    (qsCons (qIfS (qCmT (eq_opr a.hu) (eq_opd _) (qV (i := 2) rfl (.inl rfl)) qI) (qsOne (qRet (qBl (cr_minS rfl) (min_cd _) T.n_min (qa (qOp op_powB (pow_ii _) qI qI) (qa (qBl (cr_maxS rfl) (max_cd _) T.n_max (qa qI (qa (qOp op_sub (sub_ii _) (qOp add_opr (add_opd _) (qOp mul_opr (mul_opd _) (qOp fdv_opr (fdv_ii _) (qV (i := 3) rfl (.inl rfl)) (qV (i := 1) rfl (.inl rfl))) (qV (i := 1) rfl (.inl rfl))) (qCall G_law_draw (a.mono (by decide)) T.g_law_draw T.k_law_draw T.b_law_draw (qa (qV (i := 0) rfl (.inl rfl)) (qa qI qa0)))) qI) qa0))) qa0))))) qsNil)
    (qsOne (qRet (qV (i := 3) rfl (.inl rfl))))))))
def m_law_are_steps_right (F_law_is_row_right F_smooth_width F_step_fault F_part_sums F_step_row F_law_steps F_law_total : Fn) : VSt :=
  (vSeq (vAsg (vCall 2 F_law_total (vCons (vVar 0) (vCons (vVar 1) vNil))) (gName 2))
    (vSeq (vAsg (vCall 2 F_law_steps (vCons (vVar 1) (vCons (vVar 2) vNil))) (gName 3))
    (vSeq (vAsg (vCall 2 F_step_row (vCons (vVar 1) (vCons (vVar 2) vNil))) (gName 4))
    (vSeq (vIfS (vOrT (vTr (vOp dNe (vBl bRepr (vCons (vVar 4) vNil)) (vBl bRepr (vCons (vVar 3) vNil)))) (vTr (vOp dNe (vBl bRepr (vCons (vCallK 2 F_step_row (kwP 0 2 2 [1, 0]) vNil (vCons (vVar 2) (vCons (vVar 1) vNil))) vNil)) (vBl bRepr (vCons (vVar 3) vNil))))) (vRet (vC (.bl false))) vPass)
    (vSeq (vAsg (vCall 1 F_part_sums (vCons (vVar 4) vNil)) (gName 5))
    (vSeq (vIfS (vOrT (vTr (vOp dNotN (vCall 1 F_step_fault (vCons (vVar 4) vNil)) (vC .non))) (vOrT (vTr (vOp dNin (vCall 1 F_smooth_width (vCons (vVar 4) vNil)) (vTup (vCons (vC (.int 0)) (vCons (vC (.int 1)) vNil))))) (vTr (vOp dNe (vOp dAdd (vOp dIx (vVar 5) (vC (.int 0))) (vOp dIx (vVar 5) (vC (.int 1)))) (vVar 2))))) (vRet (vC (.bl false))) vPass)
    (vRet (vAnd (vOr (vOp dEq (vOp aMod (vBl bInt (vCons (vVar 1) vNil)) (vC (.int 2))) (vC (.int 1))) (vOp dIn (vOp aSub (vOp dIx (vVar 5) (vC (.int 0))) (vOp dIx (vVar 5) (vC (.int 1)))) (vTup (vCons (vC (.int 0)) (vCons (vC (.int 1)) vNil))))) (vCall 2 F_law_is_row_right (vCons (vVar 4) (vCons (vC (.bl true)) vNil)))))))))))
theorem ok_law_are_steps_right (T : Txt K mg) {F_law_is_row_right F_smooth_width F_step_fault F_part_sums F_step_row F_law_steps F_law_total : Fn} (G_law_is_row_right : FnG P w K mg base 2 T.a_law_is_row_right T.d_law_is_row_right P_law_is_row_right F_law_is_row_right) (G_smooth_width : FnG P w K mg base 1 T.a_smooth_width T.d_smooth_width P_smooth_width F_smooth_width) (G_step_fault : FnG P w K mg base 1 T.a_step_fault T.d_step_fault P_step_fault F_step_fault) (G_part_sums : FnG P w K mg base 1 T.a_part_sums T.d_part_sums P_part_sums F_part_sums) (G_step_row : FnG P w K mg base 1 T.a_step_row T.d_step_row P_step_row F_step_row) (G_law_steps : FnG P w K mg base 1 T.a_law_steps T.d_law_steps P_law_steps F_law_steps) (G_law_total : FnG P w K mg base 3 T.a_law_total T.d_law_total P_law_total F_law_total) : FnG P w K mg base 4 T.a_law_are_steps_right T.d_law_are_steps_right P_law_are_steps_right (mF 6 (m_law_are_steps_right F_law_is_row_right F_smooth_width F_step_fault F_part_sums F_step_row F_law_steps F_law_total)) :=
  fnG_of T.f_law_are_steps_right sc_law_are_steps_right fun cdv A outer s H E a =>
    (qsCons (qSet (i := 2) sc_law_are_steps_right.nd (qCall G_law_total (a.mono (by decide)) T.g_law_total T.k_law_total T.b_law_total (qa (qV (i := 0) rfl (.inl rfl)) (qa (qV (i := 1) rfl (.inl rfl)) qa0))) rfl (.inl rfl))
    (qsCons (qSet (i := 3) sc_law_are_steps_right.nd (qCall G_law_steps (a.mono (by decide)) T.g_law_steps T.k_law_steps T.b_law_steps (qa (qV (i := 1) rfl (.inl rfl)) (qa (qV (i := 2) rfl (.inl rfl)) qa0))) rfl (.inl rfl))
    (qsCons (qSet (i := 4) sc_law_are_steps_right.nd (qCall G_step_row (a.mono (by decide)) T.g_step_row T.k_step_row T.b_step_row (qa (qV (i := 1) rfl (.inl rfl)) (qa (qV (i := 2) rfl (.inl rfl)) qa0))) rfl (.inl rfl))
    (qsCons (qIfS (PW.pt (qOrT (qCmT (ne_opr a.hu) (ne_opd _) (qBl (cr_repr a.gd a.rp) (repr_cd _) T.n_repr (qa (qV (i := 4) rfl (.inl rfl)) qa0)) (qBl (cr_repr a.gd a.rp) (repr_cd _) T.n_repr (qa (qV (i := 3) rfl (.inl rfl)) qa0))) (qOr1 (qCmT (ne_opr a.hu) (ne_opd _) (qBl (cr_repr a.gd a.rp) (repr_cd _) T.n_repr (qa (qCallK0 G_step_row (a.mono (by decide)) T.g_step_row T.k_step_row (kw4 T) (qk (qV (i := 2) rfl (.inl rfl)) (qk (qV (i := 1) rfl (.inl rfl)) qk0))) qa0)) (qBl (cr_repr a.gd a.rp) (repr_cd _) T.n_repr (qa (qV (i := 3) rfl (.inl rfl)) qa0)))))) (qsOne (qRet qB)) qsNil)
    (qsCons (qSet (i := 5) sc_law_are_steps_right.nd (qCall G_part_sums (a.mono (by decide)) T.g_part_sums T.k_part_sums T.b_part_sums (qa (qV (i := 4) rfl (.inl rfl)) qa0)) rfl (.inl rfl))
    (qsCons (qIfS (PW.pt (qOrT (qCmT op_notN (notN_opd _) (qCall G_step_fault (a.mono (by decide)) T.g_step_fault T.k_step_fault T.b_step_fault (qa (qV (i := 4) rfl (.inl rfl)) qa0)) qN) (qOrT (qCmT op_notIn_seq (nin_opd _) (qCall G_smooth_width (a.mono (by decide)) T.g_smooth_width T.k_smooth_width T.b_smooth_width (qa (qV (i := 4) rfl (.inl rfl)) qa0)) (qTup (qa qI (qa qI qa0)))) (qOr1 (qCmT (ne_opr a.hu) (ne_opd _) (qOp add_opr (add_opd _) (qIx ix_seq (ix_opd _) (qV (i := 5) rfl (.inl rfl)) qI) (qIx ix_seq (ix_opd _) (qV (i := 5) rfl (.inl rfl)) qI)) (qV (i := 2) rfl (.inl rfl))))))) (qsOne (qRet qB)) qsNil)
    (qsOne (qRet (qAnd (qOr (qCm (eq_opr a.hu) (eq_opd _) (qOp op_modN (mod_ii _) (qTy call_int1 (int_cd _) T.n_int (qa (qV (i := 1) rfl (.inl rfl)) qa0)) qI) qI) (qOne (qCm op_in_seq (in_opd _) (qOp op_sub (sub_ii _) (qIx ix_seq (ix_opd _) (qV (i := 5) rfl (.inl rfl)) qI) (qIx ix_seq (ix_opd _) (qV (i := 5) rfl (.inl rfl)) qI)) (qTup (qa qI (qa qI qa0)))))) (qOne (qCall G_law_is_row_right (a.mono (by decide)) T.g_law_is_row_right T.k_law_is_row_right T.b_law_is_row_right (qa (qV (i := 4) rfl (.inl rfl)) (qa qB qa0)))))))))))))
def S1_law_are_counts_right (F_law_is_row_right F_is_step_row F_step_row F_law_fault F_law_draw F_law_steps F_law_total : Fn) : VSt :=
  (vIfS (vOrT (vTr (vOp dNe (vVar 6) (vVar 5))) (vTr (vOp dNe (vBl bRepr (vCons (vCall 1 F_is_step_row (vCons (vBl bTup (vCons (vVar 2) vNil)) vNil)) vNil)) (vBl bRepr (vCons (vVar 5) vNil))))) (vRet (vC (.bl false))) vPass)
def S2_law_are_counts_right (F_law_is_row_right F_is_step_row F_step_row F_law_fault F_law_draw F_law_steps F_law_total : Fn) : VSt :=
  (vAsg (vOp dEq (vBl bRepr (vCons (vCall 2 F_step_row (vCons (vVar 1) (vCons (vBl bSum (vCons (vVar 2) vNil)) vNil))) vNil)) (vBl bRepr (vCons (vBl bTup (vCons (vVar 2) vNil)) vNil))) (gName 6))
def S3_law_are_counts_right (F_law_is_row_right F_is_step_row F_step_row F_law_fault F_law_draw F_law_steps F_law_total : Fn) : VSt :=
  (vAsg (vOp dIsN (vCall 1 F_law_fault (vCons (vBl bTup (vCons (vVar 2) vNil)) vNil)) (vC .non)) (gName 5))
def E1_law_are_counts_right (F_law_is_row_right F_is_step_row F_step_row F_law_fault F_law_draw F_law_steps F_law_total : Fn) : VE :=
  (vCall 2 F_law_draw (vCons (vVar 0) (vCons (vC (.int 3)) vNil)))
def C1_law_are_counts_right (F_law_is_row_right F_is_step_row F_step_row F_law_fault F_law_draw F_law_steps F_law_total : Fn) : VE :=
  (vLc (vRng1 (vCons (vVar 1) vNil)) [7] (pN 7) vYes (E1_law_are_counts_right F_law_is_row_right F_is_step_row F_step_row F_law_fault F_law_draw F_law_steps F_law_total))
def S4_law_are_counts_right (F_law_is_row_right F_is_step_row F_step_row F_law_fault F_law_draw F_law_steps F_law_total : Fn) : VSt :=
  (vIfS (vTr (vOp dEq (vVar 3) (vC (.int 0)))) (vAsg (vOp dAdd (vOp dIx (vVar 2) (vVar 4)) (vC (.int 1))) (gSubs sLst (vVar 2) (vVar 4))) (vIfS (vTr (vOp dEq (vVar 3) (vC (.int 1)))) (vAsg (vBl bMax (vCons (vC (.int 0)) (vCons (vOp aSub (vOp dIx (vVar 2) (vVar 4)) (vC (.int 1))) vNil))) (gSubs sLst (vVar 2) (vVar 4))) (vIfS (vTr (vOp dEq (vVar 3) (vC (.int 2)))) (vAsg (vLRev (vCons (vBl bList (vCons (vVar 2) vNil)) vNil)) (gName 2)) (vIfS (vTr (vOp dEq (vVar 3) (vC (.int 3)))) (vAsg (C1_law_are_counts_right F_law_is_row_right F_is_step_row F_step_row F_law_fault F_law_draw F_law_steps F_law_total) (gName 2)) vPass))))
def S5_law_are_counts_right (F_law_is_row_right F_is_step_row F_step_row F_law_fault F_law_draw F_law_steps F_law_total : Fn) : VSt :=
  (vPar 3 4 (vCons (vCall 2 F_law_draw (vCons (vVar 0) (vCons (vC (.int 5)) vNil))) (vCons (vCall 2 F_law_draw (vCons (vVar 0) (vCons (vVar 1) vNil))) vNil)))
def S6_law_are_counts_right (F_law_is_row_right F_is_step_row F_step_row F_law_fault F_law_draw F_law_steps F_law_total : Fn) : VSt :=
  (vAsg (vBl bList (vCons (vCall 2 F_law_steps (vCons (vVar 1) (vCons (vOp dAdd (vOp aFdv (vCall 2 F_law_total (vCons (vVar 0) (vCons (vVar 1) vNil))) (vC (.int 2))) (vC (.int 1))) vNil))) vNil)) (gName 2))
def m_law_are_counts_right (F_law_is_row_right F_is_step_row F_step_row F_law_fault F_law_draw F_law_steps F_law_total : Fn) : VSt :=
  (vSeq (S6_law_are_counts_right F_law_is_row_right F_is_step_row F_step_row F_law_fault F_law_draw F_law_steps F_law_total)
    (vSeq (S5_law_are_counts_right F_law_is_row_right F_is_step_row F_step_row F_law_fault F_law_draw F_law_steps F_law_total)
    (vSeq (S4_law_are_counts_right F_law_is_row_right F_is_step_row F_step_row F_law_fault F_law_draw F_law_steps F_law_total)
    (vSeq (S3_law_are_counts_right F_law_is_row_right F_is_step_row F_step_row F_law_fault F_law_draw F_law_steps F_law_total)
    (vSeq (S2_law_are_counts_right F_law_is_row_right F_is_step_row F_step_row F_law_fault F_law_draw F_law_steps F_law_total)
    (vSeq (S1_law_are_counts_right F_law_is_row_right F_is_step_row F_step_row F_law_fault F_law_draw F_law_steps F_law_total)
    (vRet (vCall 2 F_law_is_row_right (vCons (vBl bTup (vCons (vVar 2) vNil)) (vCons (vC (.bl false)) vNil))))))))))
theorem ok_law_are_counts_right (T : Txt K mg) {F_law_is_row_right F_is_step_row F_step_row F_law_fault F_law_draw F_law_steps F_law_total : Fn} (G_law_is_row_right : FnG P w K mg base 2 T.a_law_is_row_right T.d_law_is_row_right P_law_is_row_right F_law_is_row_right) (G_is_step_row : FnG P w K mg base 1 T.a_is_step_row T.d_is_step_row P_is_step_row F_is_step_row) (G_step_row : FnG P w K mg base 1 T.a_step_row T.d_step_row P_step_row F_step_row) (G_law_fault : FnG P w K mg base 1 T.a_law_fault T.d_law_fault P_law_fault F_law_fault) (G_law_draw : FnG P w K mg base 1 T.a_law_draw T.d_law_draw P_law_draw F_law_draw) (G_law_steps : FnG P w K mg base 1 T.a_law_steps T.d_law_steps P_law_steps F_law_steps) (G_law_total : FnG P w K mg base 3 T.a_law_total T.d_law_total P_law_total F_law_total) : FnG P w K mg base 4 T.a_law_are_counts_right T.d_law_are_counts_right P_law_are_counts_right (mF 8 (m_law_are_counts_right F_law_is_row_right F_is_step_row F_step_row F_law_fault F_law_draw F_law_steps F_law_total)) :=
  fnG_of T.f_law_are_counts_right sc_law_are_counts_right fun cdv A outer s H E a =>
    (qsCons (qSet (i := 2) sc_law_are_counts_right.nd (qTy call_list_of (list_cd _) T.n_list (qa (qCall G_law_steps (a.mono (by decide)) T.g_law_steps T.k_law_steps T.b_law_steps (qa (qV (i := 1) rfl (.inl rfl)) (qa (qOp add_opr (add_opd _) (qOp fdv_opr (fdv_ii _) (qCall G_law_total (a.mono (by decide)) T.g_law_total T.k_law_total T.b_law_total (qa (qV (i := 0) rfl (.inr (.inl rfl))) (qa (qV (i := 1) rfl (.inl rfl)) qa0))) qI) qI) qa0))) qa0)) rfl (.inl rfl))
    (qsCons (qPar2 (i := 3) (j := 4) rfl sc_law_are_counts_right.nd (qa (qCall G_law_draw (a.mono (by decide)) T.g_law_draw T.k_law_draw T.b_law_draw (qa (qV (i := 0) rfl (.inr (.inl rfl))) (qa qI qa0))) (qa (qCall G_law_draw (a.mono (by decide)) T.g_law_draw T.k_law_draw T.b_law_draw (qa (qV (i := 0) rfl (.inr (.inl rfl))) (qa (qV (i := 1) rfl (.inl rfl)) qa0))) qa0)))
    (qsCons (qIfS (qCmT (eq_opr a.hu) (eq_opd _) (qV (i := 3) rfl (.inl rfl)) qI) (qsOne (qAsg (qOp add_opr (add_opd _) (qIx ix_seq (ix_opd _) (qV (i := 2) rfl (.inl rfl)) (qV (i := 4) rfl (.inl rfl))) qI) (qgS set_list (lst_setd _) (qV (i := 2) rfl (.inl rfl)) (qV (i := 4) rfl (.inl rfl))))) (qsOne (qIfS (qCmT (eq_opr a.hu) (eq_opd _) (qV (i := 3) rfl (.inl rfl)) qI) (qsOne (qAsg (qBl (cr_maxS rfl) (max_cd _) T.n_max (qa qI (qa (qOp op_sub (sub_ii _) (qIx ix_seq (ix_opd _) (qV (i := 2) rfl (.inl rfl)) (qV (i := 4) rfl (.inl rfl))) qI) qa0))) (qgS set_list (lst_setd _) (qV (i := 2) rfl (.inl rfl)) (qV (i := 4) rfl (.inl rfl))))) (qsOne (qIfS (qCmT (eq_opr a.hu) (eq_opd _) (qV (i := 3) rfl (.inl rfl)) qI) (qsOne (qSet (i := 2) sc_law_are_counts_right.nd (qLRev rfl T.n_list T.n_reversed (qa (qTy call_list_of (list_cd _) T.n_list (qa (qV (i := 2) rfl (.inl rfl)) qa0)) qa0)) rfl (.inl rfl))) (qsOne (qIfS (qCmT (eq_opr a.hu) (eq_opd _) (qV (i := 3) rfl (.inl rfl)) qI) (qsOne (qSetLc (i := 2) (own := [("w", 7)]) rfl sc_law_are_counts_right.nd rfl rfl (sw_true rfl rfl rfl (by decide +kernel)) (qRng1 T.n_range (qa (qV (i := 1) rfl (.inl rfl)) qa0)) (blkOk_by (N := N_law_are_counts_right) (sc := defScope s_law_are_counts_right) (own := [("w", 7)]) (by decide +kernel)) (tgd_name (by decide)) (fun _ _ _ _ _ => (pg_name (i := 7) sc_law_are_counts_right.nd rfl (.inl rfl))) (fun _ _ _ _ _ => (qYes _ _)) (fun _ _ _ _ _ => (qCall G_law_draw (a.blk.mono (by decide)) T.g_law_draw T.k_law_draw T.b_law_draw (qa (qV (i := 0) rfl (.inr (.inl rfl))) (qa qI qa0)))))) qsNil)))))))
    (qsCons (qSet (i := 5) sc_law_are_counts_right.nd (qCm op_isN (isN_opd _) (qCall G_law_fault (a.mono (by decide)) T.g_law_fault T.k_law_fault T.b_law_fault (qa (qTy call_tuple_of (tup_cd _) T.n_tuple (qa (qV (i := 2) rfl (.inl rfl)) qa0)) qa0)) qN) rfl (.inl rfl))
    (qsCons (qSet (i := 6) sc_law_are_counts_right.nd (qCm (eq_opr a.hu) (eq_opd _) (qBl (cr_repr a.gd a.rp) (repr_cd _) T.n_repr (qa (qCall G_step_row (a.mono (by decide)) T.g_step_row T.k_step_row T.b_step_row (qa (qV (i := 1) rfl (.inl rfl)) (qa (qBl (cr_sumS rfl) (sum_cd _) T.n_sum (qa (qV (i := 2) rfl (.inl rfl)) qa0)) qa0))) qa0)) (qBl (cr_repr a.gd a.rp) (repr_cd _) T.n_repr (qa (qTy call_tuple_of (tup_cd _) T.n_tuple (qa (qV (i := 2) rfl (.inl rfl)) qa0)) qa0))) rfl (.inl rfl))
    (qsCons (qIfS (PW.pt (qOrT (qCmT (ne_opr a.hu) (ne_opd _) (qV (i := 6) rfl (.inl rfl)) (qV (i := 5) rfl (.inl rfl))) (qOr1 (qCmT (ne_opr a.hu) (ne_opd _) (qBl (cr_repr a.gd a.rp) (repr_cd _) T.n_repr (qa (qCall G_is_step_row (a.mono (by decide)) T.g_is_step_row T.k_is_step_row T.b_is_step_row (qa (qTy call_tuple_of (tup_cd _) T.n_tuple (qa (qV (i := 2) rfl (.inl rfl)) qa0)) qa0)) qa0)) (qBl (cr_repr a.gd a.rp) (repr_cd _) T.n_repr (qa (qV (i := 5) rfl (.inl rfl)) qa0)))))) (qsOne (qRet qB)) qsNil)
    (qsOne (qRet (qCall G_law_is_row_right (a.mono (by decide)) T.g_law_is_row_right T.k_law_is_row_right T.b_law_is_row_right (qa (qTy call_tuple_of (tup_cd _) T.n_tuple (qa (qV (i := 2) rfl (.inl rfl)) qa0)) (qa qB qa0)))))))))))
def S1_law (F_step_row F_law_steps F_law_draw F_law_is_row_right F_law_pick F_law_great F_law_row F_law_are_counts_right F_law_are_steps_right F_law_own_bag : Fn) : VSt :=
  (vAsg (vBl bRepr (vCons (vCall 2 F_law_steps (vCons (vVar 2) (vCons (vVar 10) vNil))) vNil)) (gName 12))
def S2_law (F_step_row F_law_steps F_law_draw F_law_is_row_right F_law_pick F_law_great F_law_row F_law_are_counts_right F_law_are_steps_right F_law_own_bag : Fn) : VSt :=
  (vDrop (vCall 2 F_step_row (vCons (vOp aSub (vC (.int 11)) (vVar 2)) (vCons (vVar 10) vNil))))
def S3_law (F_step_row F_law_steps F_law_draw F_law_is_row_right F_law_pick F_law_great F_law_row F_law_are_counts_right F_law_are_steps_right F_law_own_bag : Fn) : VSt :=
  (vAsg (vCall 2 F_step_row (vCons (vVar 2) (vCons (vVar 10) vNil))) (gName 11))
def S4_law (F_step_row F_law_steps F_law_draw F_law_is_row_right F_law_pick F_law_great F_law_row F_law_are_counts_right F_law_are_steps_right F_law_own_bag : Fn) : VSt :=
  (vPar 2 10 (vCons (vOp dAdd (vC (.int 1)) (vCall 2 F_law_draw (vCons (vVar 1) (vCons (vC (.int 10)) vNil)))) (vCons (vCall 2 F_law_draw (vCons (vVar 1) (vCons (vOp dAdd (vOp aPow (vC (.int 10)) (vC (.int 6))) (vC (.int 1))) vNil))) vNil)))
def S5_law (F_step_row F_law_steps F_law_draw F_law_is_row_right F_law_pick F_law_great F_law_row F_law_are_counts_right F_law_are_steps_right F_law_own_bag : Fn) : VSt :=
  (vIfS (vNotT (vTr (vCall 2 F_law_is_row_right (vCons (vVar 5) (vCons (vC (.bl true)) vNil))))) (vRet (vC (.bl false))) vPass)
def S6_law (F_step_row F_law_steps F_law_draw F_law_is_row_right F_law_pick F_law_great F_law_row F_law_are_counts_right F_law_are_steps_right F_law_own_bag : Fn) : VSt :=
  (vAsg (vOp dAdd (vOp dAdd (vOp dAdd (vOp dMul (vTup (vCons (vOp dAdd (vVar 6) (vC (.int 1))) vNil)) (vVar 8)) (vOp dMul (vTup (vCons (vVar 6) vNil)) (vOp dAdd (vC (.int 1)) (vCall 2 F_law_draw (vCons (vVar 1) (vCons (vC (.int 4)) vNil)))))) (vTup (vCons (vOp dAdd (vVar 6) (vC (.int 1))) vNil))) (vOp dMul (vTup (vCons (vOp dAdd (vVar 6) (vVar 9)) vNil)) (vVar 8))) (gName 5))
def S7_law (F_step_row F_law_steps F_law_draw F_law_is_row_right F_law_pick F_law_great F_law_row F_law_are_counts_right F_law_are_steps_right F_law_own_bag : Fn) : VSt :=
  (vAsg (vTup (vCons (vOp dAdd (vC (.int 1)) (vCall 2 F_law_draw (vCons (vVar 1) (vCons (vC (.int 4)) vNil)))) (vCons (vCall 1 F_law_great (vCons (vVar 1) vNil)) (vCons (vCall 2 F_law_pick (vCons (vVar 1) (vCons (vLst (vCons (vC (.int 2)) (vCons (vUn uNeg (vC (.int 1))) (vCons (vC (.int 3)) vNil)))) vNil))) vNil)))) (gTupl 3 (gsCons (gName 8) (gsCons (gName 6) (gsCons (gName 9) gsNil)))))
def S8_law (F_step_row F_law_steps F_law_draw F_law_is_row_right F_law_pick F_law_great F_law_row F_law_are_counts_right F_law_are_steps_right F_law_own_bag : Fn) : VSt :=
  (vIfS (vNotT (vTr (vCall 2 F_law_is_row_right (vCons (vVar 5) (vCons (vC (.bl false)) vNil))))) (vRet (vC (.bl false))) vPass)
def E1_law (F_step_row F_law_steps F_law_draw F_law_is_row_right F_law_pick F_law_great F_law_row F_law_are_counts_right F_law_are_steps_right F_law_own_bag : Fn) : VE :=
  (vIf (vOrT (vTr (vOp aLt (vVar 13) (vVar 7))) (vTr (vOp dEq (vVar 13) (vOp aSub (vVar 4) (vC (.int 1)))))) (vOp dAdd (vVar 6) (vC (.int 1))) (vVar 6))
def C1_law (F_step_row F_law_steps F_law_draw F_law_is_row_right F_law_pick F_law_great F_law_row F_law_are_counts_right F_law_are_steps_right F_law_own_bag : Fn) : VE :=
  (vLc (vRng1 (vCons (vVar 4) vNil)) [13] (pN 13) vYes (E1_law F_step_row F_law_steps F_law_draw F_law_is_row_right F_law_pick F_law_great F_law_row F_law_are_counts_right F_law_are_steps_right F_law_own_bag))
def S9_law (F_step_row F_law_steps F_law_draw F_law_is_row_right F_law_pick F_law_great F_law_row F_law_are_counts_right F_law_are_steps_right F_law_own_bag : Fn) : VSt :=
  (vAsg (vBl bTup (vCons (C1_law F_step_row F_law_steps F_law_draw F_law_is_row_right F_law_pick F_law_great F_law_row F_law_are_counts_right F_law_are_steps_right F_law_own_bag) vNil)) (gName 5))
def S10_law (F_step_row F_law_steps F_law_draw F_law_is_row_right F_law_pick F_law_great F_law_row F_law_are_counts_right F_law_are_steps_right F_law_own_bag : Fn) : VSt :=
  (vAsg (vOp aSub (vOp aSub (vVar 4) (vC (.int 2))) (vCall 2 F_law_draw (vCons (vVar 1) (vCons (vC (.int 9)) vNil)))) (gName 7))
def S11_law (F_step_row F_law_steps F_law_draw F_law_is_row_right F_law_pick F_law_great F_law_row F_law_are_counts_right F_law_are_steps_right F_law_own_bag : Fn) : VSt :=
  (vAsg (vTup (vCons (vCall 2 F_law_pick (vCons (vVar 1) (vCons (vLst (vCons (vC (.int 30)) (vCons (vC (.int 60)) (vCons (vC (.int 62)) (vCons (vC (.int 90)) (vCons (vC (.int 120)) vNil)))))) vNil))) (vCons (vCall 2 F_law_draw (vCons (vVar 1) (vCons (vC (.int 5)) vNil))) vNil))) (gTupl 2 (gsCons (gName 4) (gsCons (gName 6) gsNil))))
def B1_law (F_step_row F_law_steps F_law_draw F_law_is_row_right F_law_pick F_law_great F_law_row F_law_are_counts_right F_law_are_steps_right F_law_own_bag : Fn) : VSt :=
  (vIfS (vNotT (vTr (vCall 2 F_law_is_row_right (vCons (vVar 5) (vCons (vC (.bl true)) vNil))))) (vRet (vC (.bl false))) vPass)
def L1_law (F_step_row F_law_steps F_law_draw F_law_is_row_right F_law_pick F_law_great F_law_row F_law_are_counts_right F_law_are_steps_right F_law_own_bag : Fn) : VSt :=
  (vFor (vIt (vLst (vCons (vTup (vCons (vC (.int 2)) (vCons (vC (.int 1)) (vCons (vC (.int 0)) vNil)))) (vCons (vTup (vCons (vC (.int 1)) (vCons (vC (.int 0)) (vCons (vC (.int 1)) vNil)))) (vCons (vTup (vCons (vC (.int 0)) (vCons (vC (.int 1)) vNil))) (vCons (vTup (vCons (vC (.int 1)) (vCons (vC (.int 0)) vNil))) (vCons (vTup (vCons (vC (.int 2)) (vCons (vC (.int 0)) vNil))) (vCons (vTup (vCons (vUn uNeg (vC (.int 4))) (vCons (vUn uNeg (vC (.int 5))) vNil))) (vCons (vTup (vCons (vUn uNeg (vC (.int 5))) (vCons (vUn uNeg (vC (.int 4))) vNil))) (vCons (vTup (vCons (vC (.int 3)) (vCons (vC (.int 3)) (vCons (vC (.int 3)) (vCons (vC (.int 2)) (vCons (vC (.int 4)) vNil)))))) (vCons (vTup (vCons (vC (.int 1)) (vCons (vC (.int 1)) (vCons (vC (.int 0)) (vCons (vC (.int 0)) (vCons (vC (.int 1)) vNil)))))) vNil))))))))))) (gP (pN 5)) (B1_law F_step_row F_law_steps F_law_draw F_law_is_row_right F_law_pick F_law_great F_law_row F_law_are_counts_right F_law_are_steps_right F_law_own_bag))
def B2_law (F_step_row F_law_steps F_law_draw F_law_is_row_right F_law_pick F_law_great F_law_row F_law_are_counts_right F_law_are_steps_right F_law_own_bag : Fn) : VSt :=
  (vIfS (vNotT (vTr (vCall 2 F_law_is_row_right (vCons (vCall 2 F_law_row (vCons (vVar 1) (vCons (vVar 4) vNil))) (vCons (vOp dEq (vCall 2 F_law_draw (vCons (vVar 1) (vCons (vC (.int 2)) vNil))) (vC (.int 0))) vNil))))) (vRet (vC (.bl false))) vPass)
def L2_law (F_step_row F_law_steps F_law_draw F_law_is_row_right F_law_pick F_law_great F_law_row F_law_are_counts_right F_law_are_steps_right F_law_own_bag : Fn) : VSt :=
  (vFor (vIt (vLst (vCons (vC (.int 0)) (vCons (vC (.int 1)) (vCons (vC (.int 2)) (vCons (vC (.int 3)) (vCons (vC (.int 3)) (vCons (vC (.int 4)) (vCons (vC (.int 4)) (vCons (vC (.int 5)) (vCons (vC (.int 6)) (vCons (vC (.int 7)) (vCons (vC (.int 8)) (vCons (vC (.int 9)) (vCons (vC (.int 10)) (vCons (vCall 2 F_law_draw (vCons (vVar 1) (vCons (vC (.int 30)) vNil))) (vCons (vCall 2 F_law_draw (vCons (vVar 1) (vCons (vC (.int 30)) vNil))) (vCons (vVar 3) vNil)))))))))))))))))) (gP (pN 4)) (B2_law F_step_row F_law_steps F_law_draw F_law_is_row_right F_law_pick F_law_great F_law_row F_law_are_counts_right F_law_are_steps_right F_law_own_bag))
def S12_law (F_step_row F_law_steps F_law_draw F_law_is_row_right F_law_pick F_law_great F_law_row F_law_are_counts_right F_law_are_steps_right F_law_own_bag : Fn) : VSt :=
  (vAsg (vCall 2 F_law_pick (vCons (vVar 1) (vCons (vLst (vCons (vC (.int 17)) (vCons (vC (.int 60)) (vCons (vC (.int 60)) (vCons (vC (.int 61)) (vCons (vC (.int 120)) vNil)))))) vNil))) (gName 3))
def B3_law (F_step_row F_law_steps F_law_draw F_law_is_row_right F_law_pick F_law_great F_law_row F_law_are_counts_right F_law_are_steps_right F_law_own_bag : Fn) : VSt :=
  (vIfS (vOrT (vNotT (vTr (vCall 2 F_law_are_steps_right (vCons (vVar 1) (vCons (vVar 2) vNil))))) (vNotT (vTr (vCall 2 F_law_are_counts_right (vCons (vVar 1) (vCons (vVar 2) vNil)))))) (vRet (vC (.bl false))) vPass)
def L3_law (F_step_row F_law_steps F_law_draw F_law_is_row_right F_law_pick F_law_great F_law_row F_law_are_counts_right F_law_are_steps_right F_law_own_bag : Fn) : VSt :=
  (vFor (vRng2 (vCons (vC (.int 1)) (vCons (vC (.int 11)) vNil))) (gP (pN 2)) (B3_law F_step_row F_law_steps F_law_draw F_law_is_row_right F_law_pick F_law_great F_law_row F_law_are_counts_right F_law_are_steps_right F_law_own_bag))
def S13_law (F_step_row F_law_steps F_law_draw F_law_is_row_right F_law_pick F_law_great F_law_row F_law_are_counts_right F_law_are_steps_right F_law_own_bag : Fn) : VSt :=
  (vAsg (vCall 1 F_law_own_bag (vCons (vVar 0) vNil)) (gName 1))
def m_law (F_step_row F_law_steps F_law_draw F_law_is_row_right F_law_pick F_law_great F_law_row F_law_are_counts_right F_law_are_steps_right F_law_own_bag : Fn) : VSt :=
  (vSeq (S13_law F_step_row F_law_steps F_law_draw F_law_is_row_right F_law_pick F_law_great F_law_row F_law_are_counts_right F_law_are_steps_right F_law_own_bag)
    (vSeq (L3_law F_step_row F_law_steps F_law_draw F_law_is_row_right F_law_pick F_law_great F_law_row F_law_are_counts_right F_law_are_steps_right F_law_own_bag)
    (vSeq (S12_law F_step_row F_law_steps F_law_draw F_law_is_row_right F_law_pick F_law_great F_law_row F_law_are_counts_right F_law_are_steps_right F_law_own_bag)
    (vSeq (L2_law F_step_row F_law_steps F_law_draw F_law_is_row_right F_law_pick F_law_great F_law_row F_law_are_counts_right F_law_are_steps_right F_law_own_bag)
    (vSeq (L1_law F_step_row F_law_steps F_law_draw F_law_is_row_right F_law_pick F_law_great F_law_row F_law_are_counts_right F_law_are_steps_right F_law_own_bag)
    (vSeq (S11_law F_step_row F_law_steps F_law_draw F_law_is_row_right F_law_pick F_law_great F_law_row F_law_are_counts_right F_law_are_steps_right F_law_own_bag)
    (vSeq (S10_law F_step_row F_law_steps F_law_draw F_law_is_row_right F_law_pick F_law_great F_law_row F_law_are_counts_right F_law_are_steps_right F_law_own_bag)
    (vSeq (S9_law F_step_row F_law_steps F_law_draw F_law_is_row_right F_law_pick F_law_great F_law_row F_law_are_counts_right F_law_are_steps_right F_law_own_bag)
    (vSeq (S8_law F_step_row F_law_steps F_law_draw F_law_is_row_right F_law_pick F_law_great F_law_row F_law_are_counts_right F_law_are_steps_right F_law_own_bag)
    (vSeq (S7_law F_step_row F_law_steps F_law_draw F_law_is_row_right F_law_pick F_law_great F_law_row F_law_are_counts_right F_law_are_steps_right F_law_own_bag)
    (vSeq (S6_law F_step_row F_law_steps F_law_draw F_law_is_row_right F_law_pick F_law_great F_law_row F_law_are_counts_right F_law_are_steps_right F_law_own_bag)
    (vSeq (S5_law F_step_row F_law_steps F_law_draw F_law_is_row_right F_law_pick F_law_great F_law_row F_law_are_counts_right F_law_are_steps_right F_law_own_bag)
    (vSeq (S4_law F_step_row F_law_steps F_law_draw F_law_is_row_right F_law_pick F_law_great F_law_row F_law_are_counts_right F_law_are_steps_right F_law_own_bag)
    (vSeq (S3_law F_step_row F_law_steps F_law_draw F_law_is_row_right F_law_pick F_law_great F_law_row F_law_are_counts_right F_law_are_steps_right F_law_own_bag)
    (vSeq (S2_law F_step_row F_law_steps F_law_draw F_law_is_row_right F_law_pick F_law_great F_law_row F_law_are_counts_right F_law_are_steps_right F_law_own_bag)
    (vSeq (S1_law F_step_row F_law_steps F_law_draw F_law_is_row_right F_law_pick F_law_great F_law_row F_law_are_counts_right F_law_are_steps_right F_law_own_bag)
    (vRet (vAnd (vOp dEq (vBl bRepr (vCons (vVar 11) vNil)) (vVar 12)) (vOp dEq (vBl bRepr (vCons (vCall 2 F_step_row (vCons (vVar 2) (vCons (vVar 10) vNil))) vNil)) (vVar 12))))))))))))))))))))
theorem ok_law (T : Txt K mg) {F_step_row F_law_steps F_law_draw F_law_is_row_right F_law_pick F_law_great F_law_row F_law_are_counts_right F_law_are_steps_right F_law_own_bag : Fn} (G_step_row : FnG P w K mg base 1 T.a_step_row T.d_step_row P_step_row F_step_row) (G_law_steps : FnG P w K mg base 1 T.a_law_steps T.d_law_steps P_law_steps F_law_steps) (G_law_draw : FnG P w K mg base 1 T.a_law_draw T.d_law_draw P_law_draw F_law_draw) (G_law_is_row_right : FnG P w K mg base 2 T.a_law_is_row_right T.d_law_is_row_right P_law_is_row_right F_law_is_row_right) (G_law_pick : FnG P w K mg base 2 T.a_law_pick T.d_law_pick P_law_pick F_law_pick) (G_law_great : FnG P w K mg base 3 T.a_law_great T.d_law_great P_law_great F_law_great) (G_law_row : FnG P w K mg base 4 T.a_law_row T.d_law_row P_law_row F_law_row) (G_law_are_counts_right : FnG P w K mg base 4 T.a_law_are_counts_right T.d_law_are_counts_right P_law_are_counts_right F_law_are_counts_right) (G_law_are_steps_right : FnG P w K mg base 4 T.a_law_are_steps_right T.d_law_are_steps_right P_law_are_steps_right F_law_are_steps_right) (G_law_own_bag : FnG P w K mg base 1 T.a_law_own_bag T.d_law_own_bag P_law_own_bag F_law_own_bag) : FnG P w K mg base 5 T.a_law T.d_law P_law (mF 14 (m_law F_step_row F_law_steps F_law_draw F_law_is_row_right F_law_pick F_law_great F_law_row F_law_are_counts_right F_law_are_steps_right F_law_own_bag)) :=
  fnG_of T.f_law sc_law fun cdv A outer s H E a =>
    (qsCons (qSet (i := 1) sc_law.nd (qCall G_law_own_bag (a.mono (by decide)) T.g_law_own_bag T.k_law_own_bag T.b_law_own_bag (qa (qV (i := 0) rfl (.inl rfl)) qa0)) rfl (.inl rfl))
    (qsCons (qFor a.ps rfl (qRng2 T.n_range (qa qI (qa qI qa0))) (qgP (vs := [2]) (pg_name (i := 2) sc_law.nd rfl (.inl rfl)) (tgd_name (by decide))) (qsOne (qIfS (PW.pt (qOrT (qNotT (qT (qCall G_law_are_steps_right (a.mono (by decide)) T.g_law_are_steps_right T.k_law_are_steps_right T.b_law_are_steps_right (qa (qV (i := 1) rfl (.inl rfl)) (qa (qV (i := 2) rfl (.inl rfl)) qa0))))) (qOr1 (qNotT (qT (qCall G_law_are_counts_right (a.mono (by decide)) T.g_law_are_counts_right T.k_law_are_counts_right T.b_law_are_counts_right (qa (qV (i := 1) rfl (.inl rfl)) (qa (qV (i := 2) rfl (.inl rfl)) qa0)))))))) (qsOne (qRet qB)) qsNil)))
    (qsCons (qSet (i := 3) sc_law.nd (qCall G_law_pick (a.mono (by decide)) T.g_law_pick T.k_law_pick T.b_law_pick (qa (qV (i := 1) rfl (.inl rfl)) (qa (qLst (qa qI (qa qI (qa qI (qa qI (qa qI qa0)))))) qa0))) rfl (.inl rfl))
    (qsCons (qFor a.ps rfl (qIt (qLst (qa qI (qa qI (qa qI (qa qI (qa qI (qa qI (qa qI (qa qI (qa qI (qa qI (qa qI (qa qI (qa qI (qa (qCall G_law_draw (a.mono (by decide)) T.g_law_draw T.k_law_draw T.b_law_draw (qa (qV (i := 1) rfl (.inl rfl)) (qa qI qa0))) (qa (qCall G_law_draw (a.mono (by decide)) T.g_law_draw T.k_law_draw T.b_law_draw (qa (qV (i := 1) rfl (.inl rfl)) (qa qI qa0))) (qa (qV (i := 3) rfl (.inl rfl)) qa0)))))))))))))))))) (qgP (vs := [4]) (pg_name (i := 4) sc_law.nd rfl (.inr rfl)) (tgd_name (by decide))) (qsOne (qIfS (qNotT (qT (qCall G_law_is_row_right (a.mono (by decide)) T.g_law_is_row_right T.k_law_is_row_right T.b_law_is_row_right (qa (qCall G_law_row (a.mono (by decide)) T.g_law_row T.k_law_row T.b_law_row (qa (qV (i := 1) rfl (.inl rfl)) (qa (qV (i := 4) rfl (.inr (.inl rfl))) qa0))) (qa (qCm (eq_opr a.hu) (eq_opd _) (qCall G_law_draw (a.mono (by decide)) T.g_law_draw T.k_law_draw T.b_law_draw (qa (qV (i := 1) rfl (.inl rfl)) (qa qI qa0))) qI) qa0))))) (qsOne (qRet qB)) qsNil)))
    (qsCons (qFor a.ps rfl (qIt (qLst (qa (qTup (qa qI (qa qI (qa qI qa0)))) (qa (qTup (qa qI (qa qI (qa qI qa0)))) (qa (qTup (qa qI (qa qI qa0))) (qa (qTup (qa qI (qa qI qa0))) (qa (qTup (qa qI (qa qI qa0))) (qa (qTup (qa (qUn un_neg (neg_un _) qI) (qa (qUn un_neg (neg_un _) qI) qa0))) (qa (qTup (qa (qUn un_neg (neg_un _) qI) (qa (qUn un_neg (neg_un _) qI) qa0))) (qa (qTup (qa qI (qa qI (qa qI (qa qI (qa qI qa0)))))) (qa (qTup (qa qI (qa qI (qa qI (qa qI (qa qI qa0)))))) qa0))))))))))) (qgP (vs := [5]) (pg_name (i := 5) sc_law.nd rfl (.inl rfl)) (tgd_name (by decide))) (qsOne (qIfS (qNotT (qT (qCall G_law_is_row_right (a.mono (by decide)) T.g_law_is_row_right T.k_law_is_row_right T.b_law_is_row_right (qa (qV (i := 5) rfl (.inl rfl)) (qa qB qa0))))) (qsOne (qRet qB)) qsNil)))
    (qsCons (qAsg (qTup (qa (qCall G_law_pick (a.mono (by decide)) T.g_law_pick T.k_law_pick T.b_law_pick (qa (qV (i := 1) rfl (.inl rfl)) (qa (qLst (qa qI (qa qI (qa qI (qa qI (qa qI qa0)))))) qa0))) (qa (qCall G_law_draw (a.mono (by decide)) T.g_law_draw T.k_law_draw T.b_law_draw (qa (qV (i := 1) rfl (.inl rfl)) (qa qI qa0))) qa0))) (qgT rfl (qgs (qgN (i := 4) sc_law.nd rfl (.inr rfl)) (qgs (qgN (i := 6) sc_law.nd rfl (.inr rfl)) qgs0))))
    (qsCons (qSet (i := 7) sc_law.nd (qOp op_sub (sub_ii _) (qOp op_sub (sub_ii _) (qV (i := 4) rfl (.inr (.inl rfl))) qI) (qCall G_law_draw (a.mono (by decide)) T.g_law_draw T.k_law_draw T.b_law_draw (qa (qV (i := 1) rfl (.inl rfl)) (qa qI qa0)))) rfl (.inr rfl))
    (qsCons (qSet (i := 5) sc_law.nd (qTy call_tuple_of (tup_cd _) T.n_tuple (qa (qLc (own := [("k", 13)]) rfl sc_law.nd (qRng1 T.n_range (qa (qV (i := 4) rfl (.inr (.inl rfl))) qa0)) (blkOk_by (N := N_law) (sc := defScope s_law) (own := [("k", 13)]) (by decide +kernel)) (tgd_name (by decide)) (fun _ _ _ _ _ => (pg_name (i := 13) sc_law.nd rfl (.inl rfl))) (fun _ _ _ _ _ => (qYes _ _)) (fun _ _ _ _ _ => (qIf (PW.pt (qOrT (qCmT op_lt (lt_ii _) (qV (i := 13) rfl (.inl rfl)) (qV (i := 7) rfl (.inr (.inl rfl)))) (qOr1 (qCmT (eq_opr a.blk.hu) (eq_opd _) (qV (i := 13) rfl (.inl rfl)) (qOp op_sub (sub_ii _) (qV (i := 4) rfl (.inr (.inl rfl))) qI))))) (qOp add_opr (add_opd _) (qV (i := 6) rfl (.inr (.inl rfl))) qI) (qV (i := 6) rfl (.inr (.inl rfl)))))) qa0)) rfl (.inl rfl))
    (qsCons (qIfS (qNotT (qT (qCall G_law_is_row_right (a.mono (by decide)) T.g_law_is_row_right T.k_law_is_row_right T.b_law_is_row_right (qa (qV (i := 5) rfl (.inl rfl)) (qa qB qa0))))) (qsOne (qRet qB)) qsNil)
    (qsCons (qAsg (qTup (qa (qOp add_opr (add_opd _) qI (qCall G_law_draw (a.mono (by decide)) T.g_law_draw T.k_law_draw T.b_law_draw (qa (qV (i := 1) rfl (.inl rfl)) (qa qI qa0)))) (qa (qCall G_law_great (a.mono (by decide)) T.g_law_great T.k_law_great T.b_law_great (qa (qV (i := 1) rfl (.inl rfl)) qa0)) (qa (qCall G_law_pick (a.mono (by decide)) T.g_law_pick T.k_law_pick T.b_law_pick (qa (qV (i := 1) rfl (.inl rfl)) (qa (qLst (qa qI (qa (qUn un_neg (neg_un _) qI) (qa qI qa0)))) qa0))) qa0)))) (qgT rfl (qgs (qgN (i := 8) sc_law.nd rfl (.inl rfl)) (qgs (qgN (i := 6) sc_law.nd rfl (.inr rfl)) (qgs (qgN (i := 9) sc_law.nd rfl (.inl rfl)) qgs0)))))
    (qsCons (qSet (i := 5) sc_law.nd (qOp add_opr (add_opd _) (qOp add_opr (add_opd _) (qOp add_opr (add_opd _) (qOp mul_opr (mul_opd _) (qTup (qa (qOp add_opr (add_opd _) (qV (i := 6) rfl (.inr (.inl rfl))) qI) qa0)) (qV (i := 8) rfl (.inl rfl))) (qOp mul_opr (mul_opd _) (qTup (qa (qV (i := 6) rfl (.inr (.inl rfl))) qa0)) (qOp add_opr (add_opd _) qI (qCall G_law_draw (a.mono (by decide)) T.g_law_draw T.k_law_draw T.b_law_draw (qa (qV (i := 1) rfl (.inl rfl)) (qa qI qa0)))))) (qTup (qa (qOp add_opr (add_opd _) (qV (i := 6) rfl (.inr (.inl rfl))) qI) qa0))) (qOp mul_opr (mul_opd _) (qTup (qa (qOp add_opr (add_opd _) (qV (i := 6) rfl (.inr (.inl rfl))) (qV (i := 9) rfl (.inl rfl))) qa0)) (qV (i := 8) rfl (.inl rfl)))) rfl (.inl rfl))
    (qsCons (qIfS (qNotT (qT (qCall G_law_is_row_right (a.mono (by decide)) T.g_law_is_row_right T.k_law_is_row_right T.b_law_is_row_right (qa (qV (i := 5) rfl (.inl rfl)) (qa qB qa0))))) (qsOne (qRet qB)) qsNil)
    (qsCons (qPar2 (i := 2) (j := 10) rfl sc_law.nd (qa (qOp add_opr (add_opd _) qI (qCall G_law_draw (a.mono (by decide)) T.g_law_draw T.k_law_draw T.b_law_draw (qa (qV (i := 1) rfl (.inl rfl)) (qa qI qa0)))) (qa (qCall G_law_draw (a.mono (by decide)) T.g_law_draw T.k_law_draw T.b_law_draw (qa (qV (i := 1) rfl (.inl rfl)) (qa (qOp add_opr (add_opd _) (qOp op_powB (pow_ii _) qI qI) qI) qa0))) qa0)))
    (qsCons (qSet (i := 11) sc_law.nd (qCall G_step_row (a.mono (by decide)) T.g_step_row T.k_step_row T.b_step_row (qa (qV (i := 2) rfl (.inl rfl)) (qa (qV (i := 10) rfl (.inl rfl)) qa0))) rfl (.inl rfl))
    (qsCons (qDrop (qCall G_step_row (a.mono (by decide)) T.g_step_row T.k_step_row T.b_step_row (qa (qOp op_sub (sub_ii _) qI (qV (i := 2) rfl (.inl rfl))) (qa (qV (i := 10) rfl (.inl rfl)) qa0))))
    (qsCons (qSet (i := 12) sc_law.nd (qBl (cr_repr a.gd a.rp) (repr_cd _) T.n_repr (qa (qCall G_law_steps (a.mono (by decide)) T.g_law_steps T.k_law_steps T.b_law_steps (qa (qV (i := 2) rfl (.inl rfl)) (qa (qV (i := 10) rfl (.inl rfl)) qa0))) qa0)) rfl (.inl rfl))
    (qsOne (qRet (qAnd (qCm (eq_opr a.hu) (eq_opd _) (qBl (cr_repr a.gd a.rp) (repr_cd _) T.n_repr (qa (qV (i := 11) rfl (.inl rfl)) qa0)) (qV (i := 12) rfl (.inl rfl))) (qOne (qCm (eq_opr a.hu) (eq_opd _) (qBl (cr_repr a.gd a.rp) (repr_cd _) T.n_repr (qa (qCall G_step_row (a.mono (by decide)) T.g_step_row T.k_step_row T.b_step_row (qa (qV (i := 2) rfl (.inl rfl)) (qa (qV (i := 10) rfl (.inl rfl)) qa0))) qa0)) (qV (i := 12) rfl (.inl rfl)))))))))))))))))))))))
def F_is_step_row : Fn := mF 3 (m_is_step_row)
def F_step_row : Fn := mF 3 (m_step_row)
def F_step_fault : Fn := mF 3 (m_step_fault)
def F_part_sums : Fn := mF 4 (m_part_sums)
def F_smooth_width : Fn := mF 1 (m_smooth_width)
def F_law_own_bag : Fn := mF 4 (m_law_own_bag)
def F_law_draw : Fn := mF 4 (m_law_draw)
def F_law_pick : Fn := mF 2 (m_law_pick F_law_draw)
def F_law_great : Fn := mF 3 (m_law_great F_law_draw F_law_pick)
def F_law_steps : Fn := mF 5 (m_law_steps)
def F_law_fault : Fn := mF 4 (m_law_fault)
def F_law_parts : Fn := mF 4 (m_law_parts)
def F_law_width : Fn := mF 4 (m_law_width)
def F_law_row : Fn := mF 10 (m_law_row F_law_pick F_law_draw F_law_great)
def F_law_is_row_right : Fn := mF 9 (m_law_is_row_right F_is_step_row F_smooth_width F_part_sums F_step_fault F_law_width F_law_parts F_law_fault)
def F_law_total : Fn := mF 4 (m_law_total F_law_draw F_law_pick)
def F_law_are_steps_right : Fn := mF 6 (m_law_are_steps_right F_law_is_row_right F_smooth_width F_step_fault F_part_sums F_step_row F_law_steps F_law_total)
def F_law_are_counts_right : Fn := mF 8 (m_law_are_counts_right F_law_is_row_right F_is_step_row F_step_row F_law_fault F_law_draw F_law_steps F_law_total)
def F_law : Fn := mF 14 (m_law F_step_row F_law_steps F_law_draw F_law_is_row_right F_law_pick F_law_great F_law_row F_law_are_counts_right F_law_are_steps_right F_law_own_bag)
theorem G_is_step_row (T : Txt K mg) : FnG P w K mg base 1 T.a_is_step_row T.d_is_step_row P_is_step_row F_is_step_row := ok_is_step_row T
theorem G_step_row (T : Txt K mg) : FnG P w K mg base 1 T.a_step_row T.d_step_row P_step_row F_step_row := ok_step_row T
theorem G_step_fault (T : Txt K mg) : FnG P w K mg base 1 T.a_step_fault T.d_step_fault P_step_fault F_step_fault := ok_step_fault T
theorem G_part_sums (T : Txt K mg) : FnG P w K mg base 1 T.a_part_sums T.d_part_sums P_part_sums F_part_sums := ok_part_sums T
theorem G_smooth_width (T : Txt K mg) : FnG P w K mg base 1 T.a_smooth_width T.d_smooth_width P_smooth_width F_smooth_width := ok_smooth_width T
theorem G_law_own_bag (T : Txt K mg) : FnG P w K mg base 1 T.a_law_own_bag T.d_law_own_bag P_law_own_bag F_law_own_bag := ok_law_own_bag T
theorem G_law_draw (T : Txt K mg) : FnG P w K mg base 1 T.a_law_draw T.d_law_draw P_law_draw F_law_draw := ok_law_draw T
theorem G_law_pick (T : Txt K mg) : FnG P w K mg base 2 T.a_law_pick T.d_law_pick P_law_pick F_law_pick := ok_law_pick T (G_law_draw T)
theorem G_law_great (T : Txt K mg) : FnG P w K mg base 3 T.a_law_great T.d_law_great P_law_great F_law_great := ok_law_great T (G_law_draw T) (G_law_pick T)
theorem G_law_steps (T : Txt K mg) : FnG P w K mg base 1 T.a_law_steps T.d_law_steps P_law_steps F_law_steps := ok_law_steps T
theorem G_law_fault (T : Txt K mg) : FnG P w K mg base 1 T.a_law_fault T.d_law_fault P_law_fault F_law_fault := ok_law_fault T
theorem G_law_parts (T : Txt K mg) : FnG P w K mg base 1 T.a_law_parts T.d_law_parts P_law_parts F_law_parts := ok_law_parts T
theorem G_law_width (T : Txt K mg) : FnG P w K mg base 1 T.a_law_width T.d_law_width P_law_width F_law_width := ok_law_width T
theorem G_law_row (T : Txt K mg) : FnG P w K mg base 4 T.a_law_row T.d_law_row P_law_row F_law_row := ok_law_row T (G_law_pick T) (G_law_draw T) (G_law_great T)
theorem G_law_is_row_right (T : Txt K mg) : FnG P w K mg base 2 T.a_law_is_row_right T.d_law_is_row_right P_law_is_row_right F_law_is_row_right := ok_law_is_row_right T (G_is_step_row T) (G_smooth_width T) (G_part_sums T) (G_step_fault T) (G_law_width T) (G_law_parts T) (G_law_fault T)
theorem G_law_total (T : Txt K mg) : FnG P w K mg base 3 T.a_law_total T.d_law_total P_law_total F_law_total := ok_law_total T (G_law_draw T) (G_law_pick T)
theorem G_law_are_steps_right (T : Txt K mg) : FnG P w K mg base 4 T.a_law_are_steps_right T.d_law_are_steps_right P_law_are_steps_right F_law_are_steps_right := ok_law_are_steps_right T (G_law_is_row_right T) (G_smooth_width T) (G_step_fault T) (G_part_sums T) (G_step_row T) (G_law_steps T) (G_law_total T)
theorem G_law_are_counts_right (T : Txt K mg) : FnG P w K mg base 4 T.a_law_are_counts_right T.d_law_are_counts_right P_law_are_counts_right F_law_are_counts_right := ok_law_are_counts_right T (G_law_is_row_right T) (G_is_step_row T) (G_step_row T) (G_law_fault T) (G_law_draw T) (G_law_steps T) (G_law_total T)
theorem G_law (T : Txt K mg) : FnG P w K mg base 5 T.a_law T.d_law P_law F_law := ok_law T (G_step_row T) (G_law_steps T) (G_law_draw T) (G_law_is_row_right T) (G_law_pick T) (G_law_great T) (G_law_row T) (G_law_are_counts_right T) (G_law_are_steps_right T) (G_law_own_bag T)
theorem chain (T : Txt K mg) : FnG P w K mg base 5 T.a_law T.d_law P_law F_law := G_law T
end K72

namespace K72
open PySem Vq
/-! ### the bag -/
def skipR : List Int → Int → List Int × Int
  | [], m => ([], m)
  | a :: r, m => if m = 0 then skipR r (if 1000000000 < a then a else 0) else (a :: r, m)
theorem skipR_len : ∀ (l : List Int) (m : Int), (skipR l m).1.length ≤ l.length
  | [], _ => Nat.le_refl _
  | a :: r, m => by
    unfold skipR
    split
    · exact Nat.le_succ_of_le (skipR_len r _)
    · exact Nat.le_refl _
def skipB (B : Bag) : Bag := ⟨(skipR B.rc B.m).1, (skipR B.rc B.m).2, B.x, Nat.le_trans (skipR_len _ _) B.hl⟩
def stirB (B : Bag) : Bag := ⟨B.rc, B.m, (B.x * 48271 + 11).fmod 2147483647, B.hl⟩
def drawB (n : Int) (B : Bag) : Int × Bag :=
  if 0 < (skipB B).m then ((skipB B).m.fmod n, ⟨(skipB B).rc, (skipB B).m.fdiv n, B.x, (skipB B).hl⟩)
  else (((((stirB (skipB B)).x * (stirB (skipB B)).x).fmod 2147483629).fdiv 7).fmod n, stirB (skipB B))
theorem drawB_range {n : Int} (hn : 0 < n) (B : Bag) : 0 ≤ (drawB n B).1 ∧ (drawB n B).1 < n := by
  unfold drawB
  split <;> exact ⟨Int.fmod_nonneg_of_pos _ hn, Int.fmod_lt_of_pos _ hn⟩
theorem pow109 : powOk 10 9 = true := by decide +kernel
theorem test_draw (b c : Nat) (e1 e2 : Option D) (B : Bag) (h : VH) (q : IsBag h b c B) :
    ∃ g, T1_law_draw [some (.ref b), e1, e2, none] h = .ok (decide (B.m = 0 ∧ B.rc ≠ []), h ++ g) := by
  by_cases hm : B.m = 0
  · refine ⟨[.lst []], ?_⟩
    have z := dNe_L (h := h ++ [.lst []]) (n := c) (m := h.length) (a := B.rc.reverse) (b := []) (q.app _).lkc (by simp)
    simp [T1_law_draw, q.lkb, L2.atI, L2.ixN, hm, z]
  · refine ⟨[], ?_⟩
    simp [T1_law_draw, q.lkb, L2.atI, L2.ixN, hm]
theorem body_draw (b c : Nat) (e1 e2 : Option D) (a : Int) (r : List Int) (m x : Int) (hl : (a :: r).length ≤ 63) (hl' : r.length ≤ 63) (h : VH) (q : IsBag h b c ⟨a :: r, m, x, hl⟩) :
    B1_law_draw [some (.ref b), e1, e2, none] h = .ok (.nx, [some (.ref b), e1, some (.int a), none], putBag h b c ⟨r, if 1000000000 < a then a else 0, x, hl'⟩) := by
  have q1 : IsBag (putBag h b c ⟨r, m, x, hl'⟩) b c ⟨r, m, x, hl'⟩ := q.put _
  have st := q1.set1
  simp only [put_put q.ne] at st
  by_cases ha : 1000000000 < a <;> simp [B1_law_draw, q.lkb, L2.atI, L2.ixN, q.tyc, q.pop rfl hl', aPow_i pow109, ha, st]
theorem loop_draw (b c : Nat) (e1 : Option D) : ∀ (rc : List Int) (m x : Int) (hl : rc.length ≤ 63) (hl2 : (skipR rc m).1.length ≤ 63) (n : Nat) (h : VH) (e2 : Option D), IsBag h b c ⟨rc, m, x, hl⟩ → rc.length < n →
    ∃ e3 g, whileF T1_law_draw B1_law_draw n [some (.ref b), e1, e2, none] h = .ok (.nx, [some (.ref b), e1, e3, none], putBag h b c ⟨(skipR rc m).1, (skipR rc m).2, x, hl2⟩ ++ g)
  | [], m, x, hl, hl2, n + 1, h, e2, q, hn => by
    obtain ⟨g, t⟩ := test_draw b c e1 e2 _ h q
    refine ⟨e2, g, ?_⟩
    unfold whileF
    rw [t]
    simp [skipR, q.self]
  | a :: r, m, x, hl, hl2, n + 1, h, e2, q, hn => by
    obtain ⟨g, t⟩ := test_draw b c e1 e2 _ h q
    have hl' : r.length ≤ 63 := Nat.le_of_succ_le hl
    unfold whileF
    rw [t]
    by_cases hm : m = 0
    · have q1 := q.app g
      have e : skipR (a :: r) m = skipR r (if 1000000000 < a then a else 0) := by
        show (if m = 0 then _ else _) = _
        rw [if_pos hm]
      obtain ⟨e3, g2, ih⟩ := loop_draw b c e1 r (if 1000000000 < a then a else 0) x hl' (e ▸ hl2) n _ (some (.int a)) (q1.put _) (by simpa using hn)
      refine ⟨e3, g ++ g2, ?_⟩
      simp only [Res.ok_bind, hm, true_and, ne_eq, reduceCtorEq, not_false_eq_true, decide_true, if_true]
      rw [body_draw b c e1 e2 a r m x hl hl' _ q1]
      simp only [Res.ok_bind]
      rw [ih, put_put q.ne, q.put_app, List.append_assoc]
      simp only [← hm, e]
    · refine ⟨e2, g, ?_⟩
      simp [hm, skipR, q.self]
theorem x_draw (h : VH) (b c : Nat) (B : Bag) (n : Int) (q : IsBag h b c B) (hn : divOk n = true) :
    ∃ g, mF 4 m_law_draw [.ref b, .int n] h = .ok (.int (drawB n B).1, putBag h b c (drawB n B).2 ++ g) := by
  obtain ⟨e3, g, l⟩ := loop_draw b c (some (.int n)) B.rc B.m B.x B.hl (skipB B).hl 1000000 h none q (Nat.lt_of_le_of_lt B.hl (by decide))
  have l : whileF T1_law_draw B1_law_draw 1000000 [some (.ref b), some (.int n), none, none] h = .ok (.nx, [some (.ref b), some (.int n), e3, none], putBag h b c (skipB B) ++ g) := l
  refine ⟨g, ?_⟩
  have h0 : n ≠ 0 := by
    intro z
    rw [z] at hn
    exact absurd hn (by decide)
  have q1 : IsBag (putBag h b c (skipB B) ++ g) b c (skipB B) := (q.put _).app g
  have pp : ∀ B2, putBag (putBag h b c (skipB B) ++ g) b c B2 = putBag h b c B2 ++ g := fun B2 => by rw [(q.put _).put_app, put_put q.ne]
  have st1 := q1.set1
  have st2 := q1.set2 (stirB (skipB B)).x
  simp only [pp] at st1
  rw [pp] at st2
  have st2 : sLst (.ref b) (.int 2) (.int (stirB (skipB B)).x) (putBag h b c (skipB B) ++ g) = some (putBag h b c (stirB (skipB B)) ++ g) := st2
  have ex : ((skipB B).x * 48271 + 11).fmod 2147483647 = (stirB (skipB B)).x := rfl
  have hx : mulOk (skipB B).x 48271 = true := by simp [mulOk]
  have hxx : mulOk (stirB (skipB B)).x (stirB (skipB B)).x = true := by
    rw [← ex]
    have h1 := Int.fmod_nonneg_of_pos ((skipB B).x * 48271 + 11) (show (0 : Int) < 2147483647 by decide)
    have h2 := Int.fmod_lt_of_pos ((skipB B).x * 48271 + 11) (show (0 : Int) < 2147483647 by decide)
    simp only [mulOk, Bool.or_eq_true, decide_eq_true_eq]
    left
    left
    omega
  by_cases hp : 0 < (skipB B).m
  · refine mF_rt (s' := [some (.ref b), some (.int n), e3, some (.int ((skipB B).m.fmod n))]) ?_
    simp [m_law_draw, L1_law_draw, vWhile, l, q1.lkb, L2.atI, L2.ixN, hp, aMod_i h0, aFdv_i hn, st1, drawB]
    rfl
  · refine mF_rt (s' := [some (.ref b), some (.int n), e3, none]) ?_
    have q2 : lk (putBag h b c (stirB (skipB B)) ++ g) b = some [.ref c, .int (stirB (skipB B)).m, .int (stirB (skipB B)).x] := ((q.put _).app g).lkb
    simp [m_law_draw, L1_law_draw, vWhile, l, q1.lkb, L2.atI, L2.ixN, hp, dMul_i hx, aMod_i, ex, st2, q2, dMul_i hxx, aFdv_i (show divOk 7 = true by decide), aMod_i h0, drawB]
end K72

namespace K72
open PySem Vq
/-! the program's defs -/
def tupI (l : List Int) : D := .tup (l.map .int)
def stepRow (n total : Int) : List Int := (List.range n.toNat).map fun (k : Nat) => total.fdiv n + if (k : Int) < total.fmod n then 1 else 0
theorem inRng_small {i : Int} (h0 : -1000000 ≤ i) (h1 : i ≤ 1000000) : inRng i = true := by
  unfold inRng
  exact decide_eq_true (by omega)
theorem divOk_small {i : Int} (h0 : 1 ≤ i) (h1 : i ≤ 1000000000) : divOk i = true := by
  unfold divOk
  simp
  left
  omega
theorem c_step_row (h : VH) (n total : Int) (h1 : 1 ≤ n) (h2 : n ≤ 1000) :
    C1_step_row [some (.int n), some (.int total), none] h = .ok (.ref h.length, h ++ [.lst ((stepRow n total).map .int)]) := by
  unfold C1_step_row
  have hd : divOk n = true := divOk_small h1 (by omega)
  have hm : n ≠ 0 := by omega
  rw [lc_rng1 (h1 := h) (n := n) (fun (k : Nat) => .int (total.fdiv n + if (k : Int) < total.fmod n then 1 else 0)) (by simp) (by omega) (by omega) ?_]
  · simp [stepRow]
  · intro k _ acc
    refine ⟨_, rfl, ?_⟩
    simp [E1_step_row, vwipe, aMod_i hm, aFdv_i hd]
theorem x_step_row (h : VH) (n total : Int) (h1 : 1 ≤ n) (h2 : n ≤ 1000) : ∃ g, mF 3 m_step_row [.int n, .int total] h = .ok (tupI (stepRow n total), h ++ g) := by
  refine ⟨[.lst ((stepRow n total).map .int)], mF_rt (s' := [some (.int n), some (.int total), none]) ?_⟩
  simp [m_step_row, c_step_row h n total h1 h2, tupI]
end K72

namespace K72
open PySem Vq
theorem s_draw {h : VH} {b c : Nat} (q : Hb b c h) {n : Int} (hn : 0 < n) (hd : divOk n = true) : ∃ d h', F_law_draw [.ref b, .int n] h = .ok (.int d, h') ∧ 0 ≤ d ∧ d < n ∧ Keep b c h h' := by
  obtain ⟨B, q⟩ := q
  obtain ⟨g, e⟩ := x_draw h b c B n q hd
  exact ⟨_, _, e, (drawB_range hn B).1, (drawB_range hn B).2, .put q _ g⟩
theorem s_drawS {h : VH} {b c : Nat} (q : Hb b c h) {n : Int} (hn : 0 < n) (hs : n ≤ 1000000000) : ∃ d h', F_law_draw [.ref b, .int n] h = .ok (.int d, h') ∧ 0 ≤ d ∧ d < n ∧ Keep b c h h' := s_draw q hn (divOk_small hn hs)
theorem s_pick {h : VH} {b c n : Nat} (q : Hb b c h) {l : List D} (e : lk h n = some l) (hb : n ≠ b) (hc : n ≠ c) (h0 : l ≠ []) (hs : l.length ≤ 1000000000) : ∃ d h', F_law_pick [.ref b, .ref n] h = .ok (d, h') ∧ d ∈ l ∧ Keep b c h h' := by
  have hp : 0 < l.length := List.length_pos_iff.mpr h0
  obtain ⟨i, h', e1, h1, h2, k⟩ := s_drawS q (n := l.length) (by omega) (by omega)
  have e2 : lk h' n = some l := k.cells hb hc e
  have hlt : i.toNat < l.length := by omega
  have ia : L2.atI l i = some (l[i.toNat]'hlt) := atI_nn h1 hlt
  refine ⟨l[i.toNat]'hlt, h', mF_rt (s' := [some (.ref b), some (.ref n)]) ?_, List.getElem_mem _, k⟩
  simp [m_law_pick, e, e1, e2, ia]
def absL (ns : List Int) : List Int := ns.map fun i => if i < 0 then -i else i
def V3 (ns : List Int) : VH := [.ro (ns.map .int), .lst (ns.map .int), .lst ((absL ns).map .int)]
theorem s_own_bag (ns : List Int) (hn : ns.length ≤ 63) : ∃ b c h', mF 4 m_law_own_bag [.ref 0] (scriptH ns) = .ok (.ref b, h') ∧ Hb b c h' := by
  have cut : cutD (ns.map D.int) none (some 63) = ns.map .int := by
    have e : HT.sIx ns.length ns.length (some 63) = ns.length := by
      show (if (63 : Int) < 0 then ((63 : Int) + (ns.length : Int)).toNat else min (63 : Int).toNat ns.length) = _
      rw [if_neg (by decide)]
      exact Nat.min_eq_right hn
    have e0 : HT.sIx ns.length 0 none = 0 := rfl
    unfold cutD
    simp only [List.length_map, e, e0, Nat.sub_zero, List.drop_zero]
    exact List.take_of_length_le (by simp)
  have sl : slD (.ref 0) none (some 63) (scriptH ns) = some (.ref 1, [.ro (ns.map .int), .lst (ns.map .int)]) := by
    show some (D.ref 1, scriptH ns ++ [.lst (cutD (ns.map D.int) none (some 63))]) = _
    rw [cut]
    rfl
  have c1 : C1_law_own_bag [some (.ref 0), none, none, none] (scriptH ns) = .ok (.ref 2, V3 ns) := by
    unfold C1_law_own_bag
    rw [lc_lst (n := 1) (h1 := [.ro (ns.map .int), .lst (ns.map .int)]) (ys := ns) (c := .int) (fun _ => true) (fun i => .int (if i < 0 then -i else i)) (by simp [sl]) (by rfl) (by omega) (by
      intro i hi acc
      refine ⟨_, rfl, rfl, fun _ => ?_⟩
      simp [E1_law_own_bag, vwipe])]
    simp only [V3, absL, List.filter_eq_self.mpr (fun _ _ => rfl), List.map_map]
    rfl
  have l2 : lk (V3 ns) 2 = some ((absL ns).map .int) := rfl
  have al : (absL ns).length = ns.length := by simp [absL]
  obtain ⟨s', h', e1, ⟨x, d, e2, e3⟩⟩ := for_all (it := vIt (vVar 1)) (g := gP (pN 3)) (body := B1_law_own_bag) (s := [some (.ref 0), some (.ref 2), some (.int (6823 + ns.length)), none]) (h := V3 ns) (h1 := V3 ns) (src := fun h => lk h 2) (xs := (absL ns).map .int)
    (fun _ s h => ∃ x d, s = [some (.ref 0), some (.ref 2), some (.int x), d] ∧ h = V3 ns) (by simp) (by rintro i s h ⟨x, d, rfl, rfl⟩; exact l2) ⟨_, _, rfl, rfl⟩ (by
      rintro i d s h ed ⟨x, d', rfl, rfl⟩
      have hm := List.mem_of_getElem? ed
      obtain ⟨a, _, rfl⟩ := List.mem_map.mp hm
      refine ⟨[some (.ref 0), some (.ref 2), some (.int ((x * 48271 + a.fmod 2147483629 + 13).fmod 2147483647)), some (.int a)], V3 ns, .inl ?_, ⟨_, _, rfl, rfl⟩⟩
      have hx : mulOk x 48271 = true := by simp [mulOk]
      have g1 : gP (pN 3) (.int a) [some (.ref 0), some (.ref 2), some (.int x), d'] (V3 ns) = .ok ([some (.ref 0), some (.ref 2), some (.int x), some (.int a)], V3 ns) := rfl
      unfold turn
      rw [g1]
      simp [B1_law_own_bag, dMul_i hx, aMod_i])
  subst e2 e3
  refine ⟨5, 4, [.ro (ns.map .int), .lst (ns.map .int), .lst ((absL ns).map .int), .lst ((absL ns).map .int), .lst ((absL ns).reverse.map .int), .lst [.ref 4, .int 0, .int x]], mF_rt (s' := [some (.ref 0), some (.ref 2), some (.int x), d]) ?_, ⟨⟨absL ns, 0, x, by omega⟩, rfl, rfl, by decide⟩⟩
  have e1 : L1_law_own_bag [some (.ref 0), some (.ref 2), some (.int (6823 + ns.length)), none] (V3 ns) = .ok (.nx, [some (.ref 0), some (.ref 2), some (.int x), d], V3 ns) := e1
  have e4 : V3 ns ++ [.lst ((absL ns).map .int)] = [.ro (ns.map .int), .lst (ns.map .int), .lst ((absL ns).map .int), .lst ((absL ns).map .int)] := rfl
  have l3 : lk [.ro (ns.map .int), .lst (ns.map .int), .lst ((absL ns).map .int), .lst ((absL ns).map .int)] 3 = some ((absL ns).map .int) := rfl
  have n3 : (V3 ns).length = 3 := rfl
  simp [m_law_own_bag, c1, l2, al, e1, l3, n3, e4]
end K72

namespace K72
open PySem Vq
def big : Int := 1000000000000000 ^ 27
def E49 : Int := 10 ^ 49
def E392 : Int := (10 ^ 49) ^ 8
theorem pow106 : powOk 10 6 = true := by decide +kernel
theorem pow1049 : powOk 10 49 = true := by decide +kernel
theorem pow10498 : powOk E49 8 = true := by decide +kernel
theorem pow109' : (10 : Int) ^ (9 : Int).toNat = 1000000000 := by decide +kernel
theorem pow106' : (10 : Int) ^ (6 : Int).toNat = 1000000 := by decide +kernel
theorem aPow6 (h : VH) : aPow (.int 10) (.int 6) h = some (.int 1000000, h) := by rw [aPow_i pow106, pow106']
theorem aPow49 (h : VH) : aPow (.int 10) (.int 49) h = some (.int E49, h) := by
  rw [aPow_i pow1049]
  rfl
theorem aPow498 (h : VH) : aPow (.int E49) (.int 8) h = some (.int E392, h) := by
  rw [aPow_i pow10498]
  rfl
theorem mul_sm {x y : Int} (h0 : 0 ≤ y) (h1 : y ≤ 1000000) : mulOk x y = true := by
  unfold mulOk
  have : decide (-(2 ^ 64) < y ∧ y < 2 ^ 64) = true := decide_eq_true (by omega)
  rw [this]
  simp
theorem gPn (i : Nat) (d : D) (s : VS) (h : VH) : gP (pN i) d s h = .ok (s.set i (some d), h) := rfl
theorem body_great {h : VH} {b c : Nat} (q : Hb b c h) (f : Int) (x : Option D) : ∃ d h', B1_law_great F_law_draw F_law_pick [some (.ref b), some (.int f), x] h = .ok (.nx, [some (.ref b), some (.int (f * 1000000 + d)), x], h') ∧ 0 ≤ d ∧ d < 1000000 ∧ Keep b c h h' := by
  obtain ⟨d, h', e, h1, h2, k⟩ := s_drawS q (n := 1000000) (by decide) (by decide)
  refine ⟨d, h', ?_, h1, h2, k⟩
  have hm : mulOk f 1000000 = true := mul_sm (by decide) (by decide)
  simp [B1_law_great, aPow6, dMul_i hm, e]
theorem loop_great {h : VH} {b c : Nat} (q : Hb b c h) : ∃ f x h', L1_law_great F_law_draw F_law_pick [some (.ref b), some (.int 0), none] h = .ok (.nx, [some (.ref b), some (.int f), x], h') ∧ 0 ≤ f ∧ f < 1000000 ^ 5 ∧ Keep b c h h' := by
  obtain ⟨d, h1, e, hd, k⟩ := s_pick (n := h.length) (q.app [.lst [.int 1, .int 1, .int 2, .int 5]]) (lk_at h _ []) (by have := q.b_lt; omega) (by have := q.c_lt; omega) (by simp) (by simp)
  have k0 := (q.keep [.lst [.int 1, .int 1, .int 2, .int 5]]).trans k
  have hn : ∃ n : Nat, d = .int n ∧ n ≤ 5 := by
    simp at hd
    rcases hd with rfl | rfl | rfl
    · exact ⟨1, rfl, by decide⟩
    · exact ⟨2, rfl, by decide⟩
    · exact ⟨5, rfl, by decide⟩
  obtain ⟨n, rfl, hn⟩ := hn
  have hit : (vRng1 (vCons (vCall 2 F_law_pick (vCons (vVar 0) (vCons (vLst (vCons (vC (.int 1)) (vCons (vC (.int 1)) (vCons (vC (.int 2)) (vCons (vC (.int 5)) vNil))))) vNil))) vNil)) [some (.ref b), some (.int 0), none] h = .ok (fun _ => some (rangeD 0 1 (n : Int).toNat), h1) :=
    vRng1_of (by simp [e]) (inRng_small (by omega) (by omega))
  obtain ⟨s', h', el, ⟨f, x, rfl, h2, h3, kk⟩⟩ := for_all (g := gP (pN 2)) (body := B1_law_great F_law_draw F_law_pick) (fun i s h' => ∃ f x, s = [some (.ref b), some (.int f), x] ∧ 0 ≤ f ∧ f < 1000000 ^ i ∧ Keep b c h h') hit (fun _ _ _ _ => rfl) ⟨0, none, rfl, by decide, by decide, k0⟩ (by
      rintro i d s h ed ⟨f, x, rfl, h2, h3, kk⟩
      obtain ⟨e, h', eb, h4, h5, k5⟩ := body_great kk.bag f (some d)
      refine ⟨_, h', .inl ?_, ⟨f * 1000000 + e, some d, rfl, by omega, ?_, kk.trans k5⟩⟩
      · unfold turn
        rw [gPn]
        exact eb
      · rw [Int.pow_succ]
        omega)
  refine ⟨f, x, h', el, h2, Int.lt_of_lt_of_le h3 ?_, kk⟩
  have hl : (rangeD 0 1 (n : Int).toNat).length = n := by simp
  rw [hl]
  have : n = 0 ∨ n = 1 ∨ n = 2 ∨ n = 3 ∨ n = 4 ∨ n = 5 := by omega
  rcases this with rfl | rfl | rfl | rfl | rfl | rfl <;> decide
theorem big_ge : (1000000 : Int) ^ 5 + E392 * 1000000 ≤ big := by decide +kernel
theorem s_great {h : VH} {b c : Nat} (q : Hb b c h) : ∃ i h', F_law_great [.ref b] h = .ok (.int i, h') ∧ -big ≤ i ∧ i ≤ big ∧ Keep b c h h' := by
  obtain ⟨f, x, h1, el, h2, h3, k1⟩ := loop_great q
  obtain ⟨d, h4, e4, h5, h6, k4⟩ := s_drawS k1.bag (n := 6) (by decide) (by decide)
  have hb := big_ge
  have he : 0 ≤ E392 := by decide +kernel
  by_cases hd : d = 0
  · obtain ⟨a, h7, e7, h8, h9, k7⟩ := s_drawS k4.bag (n := 1000000) (by decide) (by decide)
    obtain ⟨o, h10, e10, h11, h12, k10⟩ := s_drawS k7.bag (n := 2) (by decide) (by decide)
    have hm : mulOk E392 a = true := mul_sm h8 (by omega)
    have hp : E392 * a ≤ E392 * 1000000 := Int.mul_le_mul_of_nonneg_left (by omega) (by decide +kernel)
    have hp0 : 0 ≤ E392 * a := Int.mul_nonneg (by decide +kernel) h8
    refine ⟨if o = 0 then f + E392 * a else 0 - (f + E392 * a), h10, mF_rt (s' := [some (.ref b), some (.int (f + E392 * a)), x]) ?_, by split <;> omega, by split <;> omega, ((k1.trans k4).trans k7).trans k10⟩
    by_cases ho : o = 0 <;> simp [m_law_great, el, e4, hd, aPow49, aPow498, aPow6, e7, dMul_i hm, e10, ho]
  · obtain ⟨o, h10, e10, h11, h12, k10⟩ := s_drawS k4.bag (n := 2) (by decide) (by decide)
    refine ⟨if o = 0 then f else 0 - f, h10, mF_rt (s' := [some (.ref b), some (.int f), x]) ?_, by split <;> omega, by split <;> omega, (k1.trans k4).trans k10⟩
    by_cases ho : o = 0 <;> simp [m_law_great, el, e4, hd, e10, ho]
end K72

namespace K72
open PySem Vq
/-! ### faults -/
def bad (a b : Int) : Bool := decide (a < b) || decide (b + 1 < a)
def IsFault (R : Nat → Int) (n : Nat) : Option (Nat × Nat) → Prop
  | none => ∀ i j, i < j → j < n → bad (R i) (R j) = false
  | some (i, j) => i < j ∧ j < n ∧ bad (R i) (R j) = true ∧ (∀ i' j', i' < i → i' < j' → j' < n → bad (R i') (R j') = false) ∧ ∀ j', i < j' → j' < j → bad (R i) (R j') = false
theorem fault_one {R : Nat → Int} {n : Nat} : ∀ {o o' : Option (Nat × Nat)}, IsFault R n o → IsFault R n o' → o = o'
  | none, none, _, _ => rfl
  | none, some (i, j), h, ⟨a, b, c, _, _⟩ => by
    rw [h i j a b] at c
    cases c
  | some (i, j), none, ⟨a, b, c, _, _⟩, h => by
    rw [h i j a b] at c
    cases c
  | some (i, j), some (k, l), ⟨a, b, c, d, e⟩, ⟨a', b', c', d', e'⟩ => by
    have h1 : ¬ i < k := fun z => by
      rw [d' i j z a b] at c
      cases c
    have h2 : ¬ k < i := fun z => by
      rw [d k l z a' b'] at c'
      cases c'
    have : i = k := by omega
    subst this
    have h3 : ¬ j < l := fun z => by
      rw [e' j a z] at c
      cases c
    have h4 : ¬ l < j := fun z => by
      rw [e l a' z] at c'
      cases c'
    have : j = l := by omega
    subst this
    rfl
def foD : Option (Nat × Nat) → D
  | none => .non
  | some (i, j) => .tup [.int i, .int j]
def gt (row : List Int) (i : Nat) : Int := row.getD i 0
theorem atR {row : List Int} {i : Nat} (hi : i < row.length) : L2.atI (row.map D.int) (i : Int) = some (.int (gt row i)) := by
  rw [atI_nat (by simpa using hi)]
  simp [gt, hi]
theorem nin01 (x : Int) (h : VH) : dNin (.int x) (.tup [.int 0, .int 1]) h = some (.bl (!(decide (x = 0) || decide (x = 1))), h) := by
  unfold dNin inW
  have e0 : eqF (.int 0) (.int x) = decide (x = 0) := by
    show ((0 : Int) == x) = _
    by_cases h : x = 0
    · subst h; rfl
    · rw [decide_eq_false h]
      exact beq_eq_false_iff_ne.mpr (Ne.symm h)
  have e1 : eqF (.int 1) (.int x) = decide (x = 1) := by
    show ((1 : Int) == x) = _
    by_cases h : x = 1
    · subst h; rfl
    · rw [decide_eq_false h]
      exact beq_eq_false_iff_ne.mpr (Ne.symm h)
  simp [flatD, e0, e1]
theorem bad01 (a b : Int) : (!(decide (a - b = 0) || decide (a - b = 1))) = bad a b := by
  unfold bad
  by_cases h1 : a < b <;> by_cases h2 : b + 1 < a <;> simp [h1, h2] <;> omega
theorem nin_bad (a b : Int) (h : VH) : dNin (.int (a - b)) (.tup [.int 0, .int 1]) h = some (.bl (bad a b), h) := by rw [nin01, bad01]
theorem range_get {lo : Int} {n k : Nat} {d : D} (ed : (rangeD lo 1 n)[k]? = some d) : k < n ∧ d = .int (lo + (k : Int)) := by
  rw [rangeD_one] at ed
  simp only [List.getElem?_map] at ed
  obtain ⟨k', ek, rfl⟩ := Option.map_eq_some_iff.mp ed
  obtain ⟨hk, ek⟩ := List.getElem?_eq_some_iff.mp ek
  simp only [List.length_range] at hk
  simp only [List.getElem_range] at ek
  subst ek
  exact ⟨hk, rfl⟩
theorem inner_fault (row : List Int) (hz : row.length ≤ 1000000) (i : Nat) (hi : i < row.length) (x : Option D) (h : VH) :
    (∃ x', L1_step_fault [some (tupI row), some (.int i), x] h = .ok (.nx, [some (tupI row), some (.int i), x'], h) ∧ ∀ j, i < j → j < row.length → bad (gt row i) (gt row j) = false) ∨
    ∃ j x', L1_step_fault [some (tupI row), some (.int i), x] h = .ok (.rt (.tup [.int i, .int (j : Nat)]), [some (tupI row), some (.int i), x'], h) ∧ i < j ∧ j < row.length ∧ bad (gt row i) (gt row j) = true ∧ ∀ j', i < j' → j' < j → bad (gt row i) (gt row j') = false := by
  have hit : (vRng2 (vCons (vOp dAdd (vVar 1) (vC (.int 1))) (vCons (vBl bLen (vCons (vVar 0) vNil)) vNil))) [some (tupI row), some (.int i), x] h = .ok (fun _ => some (rangeD (i + 1) 1 ((row.length : Int) - (i + 1)).toNat), h) :=
    vRng2_of (by simp [tupI]) (inRng_small (by omega) (by omega)) (inRng_small (by omega) (by omega))
  rcases for_run (g := gP (pN 2)) (body := B1_step_fault) (fun k s h' => (∃ x', s = [some (tupI row), some (.int i), x']) ∧ h' = h ∧ ∀ j, i < j → j < i + 1 + k → bad (gt row i) (gt row j) = false)
    (fun d s h' => ∃ j x', d = .tup [.int i, .int (j : Nat)] ∧ s = [some (tupI row), some (.int i), x'] ∧ h' = h ∧ i < j ∧ j < row.length ∧ bad (gt row i) (gt row j) = true ∧ ∀ j', i < j' → j' < j → bad (gt row i) (gt row j') = false) hit (fun _ _ _ _ => rfl) ⟨⟨_, rfl⟩, rfl, fun j h1 h2 => by omega⟩ (by
      rintro k d s h' ed ⟨⟨x', rfl⟩, rfl, hg⟩
      obtain ⟨hk, rfl⟩ := range_get ed
      have hj : i + 1 + k < row.length := by omega
      have ej : (i : Int) + 1 + (k : Int) = ((i + 1 + k : Nat) : Int) := by omega
      rw [ej]
      have tr : turn (gP (pN 2)) B1_step_fault (.int ((i + 1 + k : Nat) : Int)) [some (tupI row), some (.int i), x'] h' = B1_step_fault [some (tupI row), some (.int i), some (.int ((i + 1 + k : Nat) : Int))] h' := turn_N _ _ _ _ _
      have a1 := atR hi
      have a2 := atR hj
      rw [tr]
      cases hb : bad (gt row i) (gt row (i + 1 + k)) with
      | false =>
        refine .inl ⟨_, _, .inl (?_ : _ = Res.ok (Out.nx, [some (tupI row), some (.int i), some (.int ((i + 1 + k : Nat) : Int))], h')), ⟨_, rfl⟩, rfl, fun j h1 h2 => ?_⟩
        · simp only [B1_step_fault, vIfS_ap, vTr_ap, vOp_ap, vVar_ap, vTup_ap, vCons_ap, vC_ap, vNil_ap, List.getElem?_cons_zero, List.getElem?_cons_succ, Res.ok_bind, dIx_i, tupI, seqOf_t, Option.bind_some, a1, a2, Option.map_some, lift_some, aSub_i, List.length_cons, List.length_nil, nin_bad, hb]
          simp [nin_bad, hb]
        · by_cases e : j = i + 1 + k
          · rw [e]; exact hb
          · exact hg j h1 (by omega)
      | true =>
        refine .inr ⟨_, _, _, (?_ : _ = Res.ok (Out.rt (.tup [.int i, .int ((i + 1 + k : Nat) : Int)]), [some (tupI row), some (.int i), some (.int ((i + 1 + k : Nat) : Int))], h')), _, _, rfl, rfl, rfl, by omega, hj, hb, fun j h1 h2 => hg j h1 h2⟩
        simp only [B1_step_fault, vIfS_ap, vTr_ap, vOp_ap, vVar_ap, vTup_ap, vCons_ap, vC_ap, vNil_ap, List.getElem?_cons_zero, List.getElem?_cons_succ, Res.ok_bind, dIx_i, tupI, seqOf_t, Option.bind_some, a1, a2, Option.map_some, lift_some, aSub_i, List.length_cons, List.length_nil, nin_bad, hb]
        simp [nin_bad, hb]) with ⟨s', h', e, ⟨x', rfl⟩, rfl, hg⟩ | ⟨d, s', h', e, j, x', rfl, rfl, rfl, h1, h2, h3, h4⟩
  · refine .inl ⟨x', e, fun j h1 h2 => hg j h1 ?_⟩
    simp only [rangeD_one, List.length_map, List.length_range]
    omega
  · exact .inr ⟨j, x', e, h1, h2, h3, h4⟩
theorem x_step_fault (row : List Int) (hz : row.length ≤ 1000000) (h : VH) : ∃ o, IsFault (gt row) row.length o ∧ mF 3 m_step_fault [tupI row] h = .ok (foD o, h) := by
  have hit : (vRng1 (vCons (vBl bLen (vCons (vVar 0) vNil)) vNil)) [some (tupI row), none, none] h = .ok (fun _ => some (rangeD 0 1 (row.length : Int).toNat), h) :=
    vRng1_of (by simp [tupI]) (inRng_small (by omega) (by omega))
  rcases for_run (g := gP (pN 1)) (body := B2_step_fault) (fun k s h' => (∃ x y, s = [some (tupI row), x, y]) ∧ h' = h ∧ ∀ i j, i < k → i < j → j < row.length → bad (gt row i) (gt row j) = false)
    (fun d s h' => ∃ i j, d = foD (some (i, j)) ∧ h' = h ∧ IsFault (gt row) row.length (some (i, j))) hit (fun _ _ _ _ => rfl) ⟨⟨_, _, rfl⟩, rfl, fun i j h1 h2 => by omega⟩ (by
      rintro k d s h' ed ⟨⟨x, y, rfl⟩, rfl, hg⟩
      obtain ⟨hk, rfl⟩ := range_get ed
      have hk : k < row.length := by omega
      rw [Int.zero_add]
      have tr : turn (gP (pN 1)) B2_step_fault (.int (k : Int)) [some (tupI row), x, y] h' = L1_step_fault [some (tupI row), some (.int (k : Int)), y] h' := turn_N _ _ _ _ _
      rw [tr]
      rcases inner_fault row hz k hk y h' with ⟨x', e, hb⟩ | ⟨j, x', e, h1, h2, h3, h4⟩
      · refine .inl ⟨_, _, .inl e, ⟨_, _, rfl⟩, rfl, fun i j h1 h2 h3 => ?_⟩
        by_cases q : i = k
        · rw [q]; exact hb j (by omega) h3
        · exact hg i j (by omega) h2 h3
      · exact .inr ⟨_, _, _, e, k, j, rfl, rfl, h1, h2, h3, fun i' j' g1 g2 g3 => hg i' j' g1 g2 g3, h4⟩) with ⟨s', h', e, ⟨x, y, rfl⟩, rfl, hg⟩ | ⟨d, s', h', e, i, j, rfl, rfl, hf⟩
  · refine ⟨none, fun i j h1 h2 => hg i j ?_ h1 h2, mF_rt (s' := [some (tupI row), x, y]) ?_⟩
    · simp only [rangeD_one, List.length_map, List.length_range]
      omega
    · have e : L2_step_fault [some (tupI row), none, none] h' = _ := e
      simp [m_step_fault, e, foD]
  · refine ⟨some (i, j), hf, mF_rt (s' := s') ?_⟩
    have e : L2_step_fault [some (tupI row), none, none] h' = _ := e
    simp [m_step_fault, e]
/-! the law's own -/
theorem comp_fault (row : List Int) (hz : row.length ≤ 1000000) (i : Nat) (hi : i < row.length) (x y : Option D) (h : VH) :
    C1_law_fault [some (tupI row), some (.int i), x, y] h = .ok (.ref h.length, h ++ [.lst ((((List.range (row.length - (i + 1))).filter fun k => bad (gt row i) (gt row (i + 1 + k))).map fun k => (((i + 1 + k : Nat) : Int))).map .int)]) := by
  unfold C1_law_fault
  rw [lc_rng2 (h1 := h) (i := i + 1) (j := row.length) (fun k => bad (gt row i) (gt row (i + 1 + k))) (fun k => .int ((i + 1 + k : Nat) : Int)) (by simp [tupI]) (by omega) (by omega) (by omega) (by omega) (by
    intro k hk acc
    have ej : (i : Int) + 1 + (k : Int) = ((i + 1 + k : Nat) : Int) := by omega
    have hj : i + 1 + k < row.length := by omega
    rw [ej]
    have a1 := atR hi
    have a2 := atR hj
    refine ⟨_, rfl, ?_, fun _ => ?_⟩
    · by_cases h1 : gt row i < gt row (i + 1 + k) <;> by_cases h2 : gt row (i + 1 + k) + 1 < gt row i <;>
      simp only [T1_law_fault, vOrT_ap, vTr_ap, vOp_ap, vVar_ap, vC_ap, vwipe, List.set_cons_succ, List.set_cons_zero, List.getElem?_cons_zero, List.getElem?_cons_succ, Res.ok_bind, dIx_i, tupI, seqOf_t, Option.bind_some, a1, a2, Option.map_some, lift_some, aLt_i, aGt_i, dAdd_i, bad, h1, h2, decide_true, decide_false, if_true, Bool.false_eq_true, if_false, Bool.or_true, Bool.true_or, Bool.or_false]
    · simp [E1_law_fault, vwipe])]
  have : ((row.length : Int) - ((i : Int) + 1)).toNat = row.length - (i + 1) := by omega
  rw [this]
  simp only [List.map_map]
  rfl
theorem filt_none {p : Nat → Bool} {n : Nat} (e : (List.range n).filter p = []) : ∀ k, k < n → p k = false := fun k hk => by
  have := List.filter_eq_nil_iff.mp e k (List.mem_range.mpr hk)
  simpa using this
theorem filt_some {p : Nat → Bool} {a : Nat} {r : List Nat} : ∀ {n : Nat}, (List.range n).filter p = a :: r → a < n ∧ p a = true ∧ ∀ k, k < a → p k = false := by
  intro n e
  rw [List.filter_eq_cons_iff] at e
  obtain ⟨l1, l2, e1, e2, e3, e4⟩ := e
  have hlen : l1.length + (1 + l2.length) = n := by
    have := congrArg List.length e1
    simp at this
    omega
  have ha : a = l1.length := by
    have := congrArg (fun l => l[l1.length]?) e1
    simp only [List.getElem?_append_right (Nat.le_refl _), Nat.sub_self, List.getElem?_cons_zero] at this
    rw [List.getElem?_range (by omega)] at this
    exact (Option.some.inj this).symm
  refine ⟨by omega, e3, fun k hk => ?_⟩
  have hm : k ∈ l1 := by
    have := congrArg (fun l => l[k]?) e1
    simp only [List.getElem?_append_left (show k < l1.length by omega)] at this
    rw [List.getElem?_range (by omega)] at this
    exact List.mem_of_getElem? this.symm
  simpa using e2 k hm
theorem x_law_fault (row : List Int) (hz : row.length ≤ 1000000) (h : VH) : ∃ o g, IsFault (gt row) row.length o ∧ mF 4 m_law_fault [tupI row] h = .ok (foD o, h ++ g) := by
  have hit : (vRng1 (vCons (vBl bLen (vCons (vVar 0) vNil)) vNil)) [some (tupI row), none, none, none] h = .ok (fun _ => some (rangeD 0 1 (row.length : Int).toNat), h) :=
    vRng1_of (by simp [tupI]) (inRng_small (by omega) (by omega))
  rcases for_run (g := gP (pN 1)) (body := B1_law_fault) (fun k s h' => (∃ x y z, s = [some (tupI row), x, y, z]) ∧ (∃ g, h' = h ++ g) ∧ ∀ i j, i < k → i < j → j < row.length → bad (gt row i) (gt row j) = false)
    (fun d s h' => ∃ i j, d = foD (some (i, j)) ∧ (∃ g, h' = h ++ g) ∧ IsFault (gt row) row.length (some (i, j))) hit (fun _ _ _ _ => rfl) ⟨⟨_, _, _, rfl⟩, ⟨[], by simp⟩, fun i j h1 h2 => by omega⟩ (by
      rintro k d s h' ed ⟨⟨x, y, z, rfl⟩, ⟨g, rfl⟩, hg⟩
      obtain ⟨hk, rfl⟩ := range_get ed
      have hk : k < row.length := by omega
      rw [Int.zero_add]
      have tr : turn (gP (pN 1)) B1_law_fault (.int (k : Int)) [some (tupI row), x, y, z] (h ++ g) = B1_law_fault [some (tupI row), some (.int (k : Int)), y, z] (h ++ g) := turn_N _ _ _ _ _
      have cf := comp_fault row hz k hk y z (h ++ g)
      rw [tr]
      cases ef : (List.range (row.length - (k + 1))).filter fun j => bad (gt row k) (gt row (k + 1 + j)) with
      | nil =>
        have fn := filt_none ef
        rw [ef] at cf
        refine .inl ⟨_, _, .inl (?_ : _ = Res.ok (Out.nx, [some (tupI row), some (.int (k : Int)), some (.ref (h ++ g).length), z], h ++ (g ++ [.lst [], .lst []]))), ⟨_, _, _, rfl⟩, ⟨_, rfl⟩, fun i j h1 h2 h3 => ?_⟩
        · have ne := dNe_L (h := h ++ (g ++ [.lst [], .lst []])) (n := (h ++ g).length) (m := (h ++ (g ++ [Cell.lst []])).length) (a := []) (b := [])
            (by rw [← List.append_assoc, lk_at]; rfl) (by rw [show h ++ (g ++ [Cell.lst [], Cell.lst []]) = (h ++ (g ++ [Cell.lst []])) ++ Cell.lst [] :: [] by simp, lk_at]; rfl)
          simp at ne cf
          simp [B1_law_fault, cf, ne]
        · by_cases q : i = k
          · subst q
            have := fn (j - (i + 1)) (by omega)
            rwa [show i + 1 + (j - (i + 1)) = j by omega] at this
          · exact hg i j (by omega) h2 h3
      | cons a r =>
        obtain ⟨h1, h2, h3⟩ := filt_some ef
        rw [ef] at cf
        refine .inr ⟨_, _, _, (?_ : _ = Res.ok (Out.rt (foD (some (k, k + 1 + a))), [some (tupI row), some (.int (k : Int)), some (.ref (h ++ g).length), z], h ++ (g ++ [.lst (((a :: r).map fun j => ((k + 1 + j : Nat) : Int)).map .int), .lst []]))), k, k + 1 + a, rfl, ⟨_, rfl⟩, by omega, by omega, h2, fun i' j' g1 g2 g3 => hg i' j' g1 g2 g3, fun j' g1 g2 => ?_⟩
        · have l1 : lk (h ++ (g ++ [.lst (((a :: r).map fun j => ((k + 1 + j : Nat) : Int)).map .int), .lst []])) (h ++ g).length = some (((a :: r).map fun j => ((k + 1 + j : Nat) : Int)).map .int) := by rw [← List.append_assoc, lk_at]
          have ne := dNe_L (h := h ++ (g ++ [.lst (((a :: r).map fun j => ((k + 1 + j : Nat) : Int)).map .int), .lst []])) (n := (h ++ g).length) (m := (h ++ (g ++ [Cell.lst []])).length) (a := (a :: r).map fun j => ((k + 1 + j : Nat) : Int)) (b := [])
            l1 (by rw [show ∀ c : Cell, h ++ (g ++ [c, Cell.lst []]) = (h ++ (g ++ [c])) ++ Cell.lst [] :: [] by simp, show (h ++ (g ++ [Cell.lst []])).length = (h ++ (g ++ [Cell.lst (((a :: r).map fun j => ((k + 1 + j : Nat) : Int)).map .int)])).length by simp, lk_at]; rfl)
          generalize el : ((a :: r).map fun j => ((k + 1 + j : Nat) : Int)) = l at *
          have hl : l = ((k + 1 + a : Nat) : Int) :: r.map fun j => ((k + 1 + j : Nat) : Int) := by rw [← el]; rfl
          have hl0 : l ≠ [] := by rw [hl]; simp
          have a0 : L2.atI (l.map D.int) 0 = some (.int ((k + 1 + a : Nat) : Int)) := by rw [hl]; exact atI_nat (i := 0) (by simp)
          simp only [List.append_assoc, List.length_append, List.length_cons, List.length_nil, List.cons_append, List.nil_append] at ne cf l1
          simp [B1_law_fault, cf, ne, hl0, l1, a0, foD]
        · have := h3 (j' - (k + 1)) (by omega)
          rwa [show k + 1 + (j' - (k + 1)) = j' by omega] at this) with ⟨s', h', e, ⟨x, y, z, rfl⟩, ⟨g, rfl⟩, hg⟩ | ⟨d, s', h', e, i, j, rfl, ⟨g, rfl⟩, hf⟩
  · refine ⟨none, g, fun i j h1 h2 => hg i j ?_ h1 h2, mF_rt (s' := [some (tupI row), x, y, z]) ?_⟩
    · simp only [rangeD_one, List.length_map, List.length_range]
      omega
    · have e : L1_law_fault [some (tupI row), none, none, none] h = _ := e
      simp [m_law_fault, e, foD]
  · refine ⟨some (i, j), g, hf, mF_rt (s' := s') ?_⟩
    have e : L1_law_fault [some (tupI row), none, none, none] h = _ := e
    simp [m_law_fault, e]
end K72

namespace K72
open PySem Vq
/-! ### sums -/
theorem bSum_r {h : VH} {n : Nat} {l : List Int} (e : lk h n = some (l.map .int)) : bSum [.ref n] h = some (.int l.sum, h) := by
  unfold bSum pureB argInts
  simp [e]
theorem bSum_t (l : List Int) (h : VH) : bSum [.tup (l.map .int)] h = some (.int l.sum, h) := by
  unfold bSum pureB argInts
  simp
def isP (p : Int) (y : Int × Nat) : Bool := decide ((y.2 : Int).fmod 2 = p)
def sumP (p : Int) (l : List (Int × Nat)) : Int := ((l.filter (isP p)).map Prod.fst).sum
theorem sumP_snoc (p : Int) (l : List (Int × Nat)) (y : Int × Nat) : sumP p (l ++ [y]) = if (y.2 : Int).fmod 2 = p then sumP p l + y.1 else sumP p l := by
  unfold sumP
  by_cases h : (y.2 : Int).fmod 2 = p
  · simp [List.filter_append, isP, h]
  · simp [List.filter_append, isP, h]
theorem mod2 (k : Nat) : (k : Int).fmod 2 = 0 ∨ (k : Int).fmod 2 = 1 := by
  have h1 := Int.fmod_nonneg_of_pos (k : Int) (show (0 : Int) < 2 by decide)
  have h2 := Int.fmod_lt_of_pos (k : Int) (show (0 : Int) < 2 by decide)
  omega
theorem sumP_all : ∀ l : List (Int × Nat), sumP 0 l + sumP 1 l = (l.map Prod.fst).sum
  | [] => rfl
  | y :: r => by
    have ih := sumP_all r
    unfold sumP at ih ⊢
    simp only [List.filter_cons, isP, List.map_cons, List.sum_cons]
    rcases mod2 y.2 with h | h
    · simp [h, isP] at ih ⊢
      omega
    · simp [h, isP] at ih ⊢
      omega
theorem sumP_row (row : List Int) : sumP 0 row.zipIdx = row.sum - sumP 1 row.zipIdx := by
  have := sumP_all row.zipIdx
  rw [show (row.zipIdx.map Prod.fst) = row by simp] at this
  omega
def parD (row : List Int) : D := .tup [.int (sumP 0 row.zipIdx), .int (sumP 1 row.zipIdx)]
theorem x_part_sums (row : List Int) (hz : row.length ≤ 1000000) (h : VH) : ∃ g, mF 4 m_part_sums [tupI row] h = .ok (parD row, h ++ g) := by
  have c1 : C1_part_sums [some (tupI row), none, none, none] h = .ok (.ref h.length, h ++ [.lst (((row.zipIdx.filter (isP 1)).map Prod.fst).map .int)]) := by
    unfold C1_part_sums
    rw [lc_enum (h1 := h) (ys := row) (c := .int) (isP 1) (fun y => .int y.1) (by simp [tupI]) (by omega) (by
      intro y hy acc
      refine ⟨_, rfl, ?_, fun _ => ?_⟩
      · have : (2 : Int) ≠ 0 := by decide
        simp [T1_part_sums, vwipe, aMod_i this, isP]
      · simp [E1_part_sums, vwipe])]
    simp only [List.map_map]
    rfl
  have bs := bSum_r (h := h ++ [.lst (((row.zipIdx.filter (isP 1)).map Prod.fst).map .int)]) (n := h.length) (l := (row.zipIdx.filter (isP 1)).map Prod.fst) (lk_at h _ [])
  refine ⟨[.lst (((row.zipIdx.filter (isP 1)).map Prod.fst).map .int)], mF_rt (s' := [some (tupI row), some (.int (sumP 1 row.zipIdx)), none, none]) ?_⟩
  have bt := fun h => bSum_t row h
  simp only [m_part_sums, List.map_cons, List.map_nil, List.length_cons, List.length_nil, List.replicate, List.cons_append, List.nil_append, vSeq_ap, vAsg_ap, vBl_ap, vCons_ap, vNil_ap, c1, Res.ok_bind, bs, lift_some, gName_ap, List.set_cons_succ, List.set_cons_zero]
  have sr := sumP_row row
  unfold sumP at sr
  simp [parD, tupI, bt, sumP]
  omega
theorem turn_E (i j : Nat) (body : VSt) (a b : D) (s : VS) (h : VH) : turn (gP (pTup 2 (psCons (pN i) (psCons (pN j) psNil)))) body (.tup [a, b]) s h = body ((s.set i (some a)).set j (some b)) h := turn_of rfl
theorem enum_get {l : List Int} {k : Nat} {d : D} (ed : (enumD (l.map .int))[k]? = some d) : ∃ hk : k < l.length, d = .tup [.int (k : Int), .int l[k]] := by
  unfold enumD at ed
  simp only [List.getElem?_map, List.getElem?_zipIdx] at ed
  by_cases hk : k < l.length
  · rw [List.getElem?_eq_getElem hk] at ed
    simp at ed
    exact ⟨hk, ed.symm⟩
  · rw [List.getElem?_eq_none (by omega)] at ed
    simp at ed
theorem body_parts (row : List Int) (A B a : Int) (k : Nat) (h : VH) : B1_law_parts [some (tupI row), some (.ref h.length), some (.int (k : Int)), some (.int a)] (h ++ [.lst [.int A, .int B]]) =
    .ok (.nx, [some (tupI row), some (.ref h.length), some (.int (k : Int)), some (.int a)], h ++ [.lst [.int (if (k : Int).fmod 2 = 0 then A + a else A), .int (if (k : Int).fmod 2 = 1 then B + a else B)]]) := by
  have z : (2 : Int) ≠ 0 := by decide
  have g0 : (h ++ [Cell.lst [.int A, .int B]])[h.length]? = some (.lst [.int A, .int B]) := by simp
  rcases mod2 k with e | e
  · have s0 : sLst (.ref h.length) (.int 0) (.int (A + a)) (h ++ [.lst [.int A, .int B]]) = some (h ++ [.lst [.int (A + a), .int B]]) := by
      rw [sLst_of (j := 0) (.int (A + a)) g0 rfl]
      simp
    simp [B1_law_parts, aMod_i z, e, L2.atI, L2.ixN, s0]
  · have s0 : sLst (.ref h.length) (.int 1) (.int (B + a)) (h ++ [.lst [.int A, .int B]]) = some (h ++ [.lst [.int A, .int (B + a)]]) := by
      rw [sLst_of (j := 1) (.int (B + a)) g0 rfl]
      simp
    simp [B1_law_parts, aMod_i z, e, L2.atI, L2.ixN, s0]
theorem x_law_parts (row : List Int) (hz : row.length ≤ 1000000) (h : VH) : ∃ g, mF 4 m_law_parts [tupI row] h = .ok (parD row, h ++ g) := by
  obtain ⟨s', h', e, ⟨x, y, rfl⟩, rfl⟩ := for_all (it := vEnum (vCons (vVar 0) vNil)) (g := gP (pTup 2 (psCons (pN 2) (psCons (pN 3) psNil)))) (body := B1_law_parts) (s := [some (tupI row), some (.ref h.length), none, none]) (h := h ++ [.lst [.int 0, .int 0]]) (h1 := h ++ [.lst [.int 0, .int 0]]) (src := fun _ => some (enumD (row.map .int))) (xs := enumD (row.map .int))
    (fun k s h' => (∃ x y, s = [some (tupI row), some (.ref h.length), x, y]) ∧ h' = h ++ [.lst [.int (sumP 0 (row.zipIdx.take k)), .int (sumP 1 (row.zipIdx.take k))]])
    (vEnum_of (d := tupI row) (by simp) rfl) (fun _ _ _ _ => rfl) ⟨⟨_, _, rfl⟩, rfl⟩ (by
      rintro k d s h' ed ⟨⟨x, y, rfl⟩, rfl⟩
      obtain ⟨hk, rfl⟩ := enum_get ed
      refine ⟨_, _, .inl (by rw [turn_E]; exact body_parts row _ _ _ k h), ⟨_, _, rfl⟩, ?_⟩
      have tk : row.zipIdx.take (k + 1) = row.zipIdx.take k ++ [(row[k], k)] := by
        rw [List.take_succ_eq_append_getElem (by simpa using hk)]
        simp
      rw [tk, sumP_snoc, sumP_snoc])
  have e : L1_law_parts [some (tupI row), some (.ref h.length), none, none] (h ++ [.lst [.int 0, .int 0]]) = _ := e
  have tl : row.zipIdx.take (enumD (row.map D.int)).length = row.zipIdx := List.take_of_length_le (by simp [enumD])
  rw [tl] at e
  refine ⟨[.lst [.int (sumP 0 row.zipIdx), .int (sumP 1 row.zipIdx)]], mF_rt (s' := [some (tupI row), some (.ref h.length), x, y]) ?_⟩
  simp [m_law_parts, e, parD, L2.atI, L2.ixN]
/-! ### widths -/
def IsWidth (row : List Int) (w : Int) : Prop := (row = [] ∧ w = 0) ∨ ∃ a b, a ∈ row ∧ b ∈ row ∧ (∀ x ∈ row, x ≤ a) ∧ (∀ x ∈ row, b ≤ x) ∧ w = a - b
theorem width_one {row : List Int} {w w' : Int} (h : IsWidth row w) (h' : IsWidth row w') : w = w' := by
  rcases h with ⟨rfl, rfl⟩ | ⟨a, b, h1, h2, h3, h4, rfl⟩
  · rcases h' with ⟨_, rfl⟩ | ⟨a, b, h1, _⟩
    · rfl
    · cases h1
  · rcases h' with ⟨rfl, _⟩ | ⟨a', b', g1, g2, g3, g4, rfl⟩
    · cases h1
    · have := h3 a' g1
      have := h4 b' g2
      have := g3 a h1
      have := g4 b h2
      omega
theorem bMax_t {l : List Int} {m : Int} (e : l.max? = some m) (h : VH) : bMax [.tup (l.map .int)] h = some (.int m, h) := by
  unfold bMax pureB argInts
  simp [e]
theorem bMin_t {l : List Int} {m : Int} (e : l.min? = some m) (h : VH) : bMin [.tup (l.map .int)] h = some (.int m, h) := by
  unfold bMin pureB argInts
  simp [e]
theorem x_smooth_width (row : List Int) (h : VH) : ∃ w, IsWidth row w ∧ mF 1 m_smooth_width [tupI row] h = .ok (.int w, h) := by
  cases row with
  | nil =>
    refine ⟨0, .inl ⟨rfl, rfl⟩, mF_rt (s' := [some (tupI [])]) ?_⟩
    have ne := dNe_In h []
    simp only [List.map_nil] at ne
    simp [m_smooth_width, tupI, ne]
  | cons a r =>
    obtain ⟨M, hM⟩ : ∃ M, (a :: r).max? = some M := by
      cases e : (a :: r).max? with
      | none => simp at e
      | some M => exact ⟨M, rfl⟩
    obtain ⟨m, hm⟩ : ∃ m, (a :: r).min? = some m := by
      cases e : (a :: r).min? with
      | none => simp at e
      | some M => exact ⟨M, rfl⟩
    obtain ⟨g1, g2⟩ := List.max?_eq_some_iff.mp hM
    obtain ⟨g3, g4⟩ := List.min?_eq_some_iff.mp hm
    refine ⟨M - m, .inr ⟨M, m, g1, g3, g2, g4, rfl⟩, mF_rt (s' := [some (tupI (a :: r))]) ?_⟩
    have ne := dNe_In h (a :: r)
    have bM := bMax_t hM h
    have bm := bMin_t hm h
    simp only [List.map_cons] at ne bM bm
    simp [m_smooth_width, tupI, ne, bM, bm]
theorem x_law_width (row : List Int) (hz : row.length ≤ 1000000) (h : VH) : ∃ w, IsWidth row w ∧ mF 4 m_law_width [tupI row] h = .ok (.int w, h) := by
  by_cases h0 : row = []
  · subst h0
    refine ⟨0, .inl ⟨rfl, rfl⟩, mF_rt (s' := [some (tupI []), none, none, none]) ?_⟩
    simp [m_law_width, tupI]
  · have hp : 0 < row.length := List.length_pos_iff.mpr h0
    have hmem : gt row 0 ∈ row := by simp [gt, hp]
    obtain ⟨s', h', e, ⟨a, b, x, rfl, ha, hb, hA, hB⟩, rfl⟩ := for_all (it := vIt (vVar 0)) (g := gP (pN 3)) (body := B1_law_width) (s := [some (tupI row), some (.int (gt row 0)), some (.int (gt row 0)), none]) (h := h) (h1 := h) (src := fun _ => some (row.map .int)) (xs := row.map .int)
      (fun k s h' => (∃ a b x, s = [some (tupI row), some (.int a), some (.int b), x] ∧ a ∈ row ∧ b ∈ row ∧ (∀ y ∈ row.take k, y ≤ a) ∧ (∀ y ∈ row.take k, b ≤ y)) ∧ h' = h)
      (by simp [tupI]) (fun _ _ _ _ => rfl) ⟨⟨_, _, _, rfl, hmem, hmem, by simp, by simp⟩, rfl⟩ (by
        rintro k d s h' ed ⟨⟨a, b, x, rfl, ha, hb, hA, hB⟩, rfl⟩
        simp only [List.getElem?_map] at ed
        obtain ⟨y, ey, rfl⟩ := Option.map_eq_some_iff.mp ed
        obtain ⟨hk, ey'⟩ := List.getElem?_eq_some_iff.mp ey
        have hy : y ∈ row := List.mem_of_getElem? ey
        have tk : row.take (k + 1) = row.take k ++ [y] := by rw [List.take_succ_eq_append_getElem hk, ey']
        refine ⟨_, _, .inl (?_ : _ = Res.ok (Out.nx, [some (tupI row), some (.int (if a < y then y else a)), some (.int (if y < b then y else b)), some (.int y)], h')), ⟨_, _, _, rfl, by split <;> assumption, by split <;> assumption, ?_, ?_⟩, rfl⟩
        · rw [turn_N]
          by_cases h1 : a < y <;> by_cases h2 : y < b <;> simp [B1_law_width, h1, h2]
        · intro z hz
          rw [tk] at hz
          rcases List.mem_append.mp hz with q | q
          · have := hA z q
            split <;> omega
          · rw [List.mem_singleton.mp q]
            split <;> omega
        · intro z hz
          rw [tk] at hz
          rcases List.mem_append.mp hz with q | q
          · have := hB z q
            split <;> omega
          · rw [List.mem_singleton.mp q]
            split <;> omega)
    rw [List.length_map, List.take_length] at hA hB
    refine ⟨a - b, .inr ⟨a, b, ha, hb, hA, hB, rfl⟩, mF_rt (s' := [some (tupI row), some (.int a), some (.int b), x]) ?_⟩
    have e : L1_law_width [some (tupI row), some (.int (gt row 0)), some (.int (gt row 0)), none] h' = _ := e
    have a0 : L2.atI (row.map D.int) 0 = some (.int (gt row 0)) := atR (i := 0) hp
    have e' := e
    unfold tupI at e'
    simp [m_law_width, tupI, h0, a0, e']
/-! ### step rows -/
theorem bAll_r {h : VH} {n : Nat} {l : List Bool} (e : lk h n = some (l.map .bl)) : bAll [.ref n] h = some (.bl (l.all id), h) := by
  unfold bAll pureB argBools
  simp [e]
theorem gt_last {row : List Int} (h0 : row ≠ []) : row.getLast h0 = gt row (row.length - 1) := by
  have : row.length - 1 < row.length := by
    have := List.length_pos_iff.mpr h0
    omega
  rw [List.getLast_eq_getElem]
  simp [gt, this]
theorem adj_iff (row : List Int) : ((row.zip row.tail).all fun y => decide (y.2 ≤ y.1)) = true ↔ ∀ i, i + 1 < row.length → gt row (i + 1) ≤ gt row i := by
  rw [List.all_eq_true]
  constructor
  · intro h i hi
    have := h (row[i], row[i + 1]) (by
      refine List.mem_of_getElem? (i := i) ?_
      rw [List.getElem?_zip_eq_some]
      simp [hi, Nat.lt_of_succ_lt hi])
    simp at this
    simp [gt, hi, Nat.lt_of_succ_lt hi, this]
  · intro h y hy
    obtain ⟨i, hi⟩ := List.mem_iff_getElem?.mp hy
    rw [List.getElem?_zip_eq_some] at hi
    obtain ⟨h1, h2⟩ := hi
    rw [List.getElem?_tail] at h2
    have hl : i + 1 < row.length := (List.getElem?_eq_some_iff.mp h2).1
    have := h i hl
    simp [gt, h1, h2] at this
    simpa using this
theorem mono_of {R : Nat → Int} {n : Nat} (h : ∀ i, i + 1 < n → R (i + 1) ≤ R i) (i : Nat) : ∀ j, i + j < n → R (i + j) ≤ R i
  | 0, _ => Int.le_refl _
  | j + 1, hj => Int.le_trans (h (i + j) (by omega)) (mono_of h i j (by omega))
theorem fault_iff {row : List Int} {o : Option (Nat × Nat)} (ho : IsFault (gt row) row.length o) (h0 : row ≠ []) : (o.isNone = true) ↔ (((row.zip row.tail).all fun y => decide (y.2 ≤ y.1)) = true ∧ gt row 0 - gt row (row.length - 1) ≤ 1) := by
  have hp : 0 < row.length := List.length_pos_iff.mpr h0
  rw [adj_iff]
  cases o with
  | none =>
    have ho : ∀ i j, i < j → j < row.length → bad (gt row i) (gt row j) = false := ho
    simp only [Option.isNone_none, true_iff]
    refine ⟨fun i hi => ?_, ?_⟩
    · have := ho i (i + 1) (by omega) hi
      simp [bad] at this
      omega
    · by_cases h1 : row.length = 1
      · rw [h1]
        simp
      · have := ho 0 (row.length - 1) (by omega) (by omega)
        simp [bad] at this
        omega
  | some p =>
    obtain ⟨i, j⟩ := p
    obtain ⟨h1, h2, h3, _⟩ := ho
    simp only [Option.isNone_some, Bool.false_eq_true, false_iff]
    rintro ⟨h4, h5⟩
    have m1 := mono_of h4 0 i (by omega)
    have m2 := mono_of h4 i (j - i) (by omega)
    have m3 := mono_of h4 j (row.length - 1 - j) (by omega)
    rw [Nat.zero_add] at m1
    rw [show i + (j - i) = j by omega] at m2
    rw [show j + (row.length - 1 - j) = row.length - 1 by omega] at m3
    simp [bad] at h3
    omega
theorem cut1 (row : List Int) : cutD (row.map D.int) (some 1) none = row.tail.map .int := by
  cases row with
  | nil => rfl
  | cons a r =>
    unfold cutD
    have e1 : HT.sIx ((a :: r).map D.int).length 0 (some 1) = 1 := by
      show (if (1 : Int) < 0 then ((1 : Int) + (((a :: r).map D.int).length : Int)).toNat else min (1 : Int).toNat ((a :: r).map D.int).length) = 1
      rw [if_neg (by decide)]
      simp
    have e2 : HT.sIx ((a :: r).map D.int).length ((a :: r).map D.int).length none = ((a :: r).map D.int).length := rfl
    rw [e1, e2]
    simp only [List.map_cons, List.drop_succ_cons, List.drop_zero, List.tail_cons]
    exact List.take_of_length_le (by simp)
theorem x_is_step_row (row : List Int) (hz : row.length ≤ 1000000) {o : Option (Nat × Nat)} (ho : IsFault (gt row) row.length o) (h : VH) : ∃ g, mF 3 m_is_step_row [tupI row] h = .ok (.bl o.isNone, h ++ g) := by
  by_cases h0 : row = []
  · subst h0
    refine ⟨[], mF_rt (s' := [some (tupI []), none, none]) ?_⟩
    have hn : o = none := by
      cases o with
      | none => rfl
      | some p => exact absurd ho.2.1 (Nat.not_lt_zero _)
    have ne := dEq_In h []
    simp only [List.map_nil] at ne
    simp [m_is_step_row, tupI, ne, hn]
  · have hp : 0 < row.length := List.length_pos_iff.mpr h0
    have c1 : C1_is_step_row [some (tupI row), none, none] h = .ok (.ref h.length, h ++ [.lst (((row.zip row.tail).map fun y => decide (y.2 ≤ y.1)).map .bl)]) := by
      have cu := cut1 row
      unfold C1_is_step_row
      rw [lc_zip (h1 := h) (ys := row) (zs := row.tail) (c := .int) (d := .int) (fun _ => true) (fun y => .bl (decide (y.2 ≤ y.1))) (by simp [tupI, slD, cu]) (by omega) (by
        intro y hy acc
        refine ⟨_, rfl, rfl, fun _ => ?_⟩
        simp [E1_is_step_row, vwipe])]
      simp only [List.filter_eq_self.mpr (fun _ _ => rfl), List.map_map]
      rfl
    refine ⟨[.lst (((row.zip row.tail).map fun y => decide (y.2 ≤ y.1)).map .bl)], mF_rt (s' := [some (tupI row), none, none]) ?_⟩
    have ba := bAll_r (h := h ++ [.lst (((row.zip row.tail).map fun y => decide (y.2 ≤ y.1)).map .bl)]) (n := h.length) (l := (row.zip row.tail).map fun y => decide (y.2 ≤ y.1)) (lk_at h _ [])
    have fi := fault_iff ho h0
    have ne := fun h => dEq_In h row
    have a0 : L2.atI (row.map D.int) 0 = some (.int (gt row 0)) := atR (i := 0) hp
    have a1 : L2.atI (row.map D.int) (-1) = some (.int (gt row (row.length - 1))) := by
      rw [atI_end (by simpa using h0), List.getLast_map, gt_last h0]
    rw [List.all_map] at ba
    rw [show (id ∘ fun y : Int × Int => decide (y.2 ≤ y.1)) = (fun y : Int × Int => decide (y.2 ≤ y.1)) from rfl] at ba
    generalize ((row.zip row.tail).map fun y => decide (y.2 ≤ y.1)).map D.bl = l at *
    unfold tupI at c1
    cases hb : (row.zip row.tail).all fun y => decide (y.2 ≤ y.1) with
    | false =>
      have hn : o.isNone = false := by
        cases e : o.isNone with
        | false => rfl
        | true =>
          have := (fi.mp e).1
          rw [hb] at this
          cases this
      simp only [hb] at ba
      simp [m_is_step_row, tupI, ne, h0, c1, ba, hn]
    | true =>
      have hn : o.isNone = decide (gt row 0 - gt row (row.length - 1) ≤ 1) := by
        by_cases q : gt row 0 - gt row (row.length - 1) ≤ 1
        · rw [decide_eq_true q]
          exact fi.mpr ⟨hb, q⟩
        · rw [decide_eq_false q]
          cases e : o.isNone with
          | false => rfl
          | true => exact absurd (fi.mp e).2 q
      simp only [hb] at ba
      simp [m_is_step_row, tupI, ne, h0, c1, ba, a0, a1, hn]
theorem x_law_steps (h : VH) (n total : Int) (h1 : 1 ≤ n) (h2 : n ≤ 1000) : ∃ g, mF 5 m_law_steps [.int n, .int total] h = .ok (tupI (stepRow n total), h ++ g) := by
  have hd : divOk n = true := divOk_small h1 (by omega)
  have hm : n ≠ 0 := by omega
  have c1 : C1_law_steps [some (.int n), some (.int total), some (.int (total.fdiv n)), some (.int (total.fmod n)), none] h = .ok (.ref h.length, h ++ [.lst ((stepRow n total).map .int)]) := by
    unfold C1_law_steps
    rw [lc_rng1 (h1 := h) (n := n) (fun (k : Nat) => .int (total.fdiv n + if (k : Int) < total.fmod n then 1 else 0)) (by simp) (by omega) (by omega) ?_]
    · simp [stepRow]
    · intro k _ acc
      refine ⟨_, rfl, ?_⟩
      by_cases hk : (k : Int) < total.fmod n <;> simp [E1_law_steps, vwipe, hk]
  refine ⟨[.lst ((stepRow n total).map .int)], mF_rt (s' := [some (.int n), some (.int total), some (.int (total.fdiv n)), some (.int (total.fmod n)), none]) ?_⟩
  simp [m_law_steps, aFdv_i hd, aMod_i hm, c1, tupI]
end K72

namespace K72
open PySem Vq
/-- a row that the law may judge -/
structure Fits (row : List Int) : Prop where
  len : row.length ≤ 1000
  lim : ∀ x ∈ row, -(1000 * big) ≤ x ∧ x ≤ 1000 * big
theorem Fits.z {row : List Int} (f : Fits row) : row.length ≤ 1000000 := Nat.le_trans f.len (by decide)
theorem top_lt : (2000000 * big).natAbs < 2 ^ 1920 := by decide +kernel
theorem show_int {i : Int} (h1 : -(2000000 * big) ≤ i) (h2 : i ≤ 2000000 * big) : (PyData.int i).showable = true := by
  simp only [PyData.showable, decide_eq_true_eq]
  have t := top_lt
  by_cases h0 : i.natAbs = 0
  · rw [h0]
    decide
  · rw [Nat.log2_lt h0]
    omega
theorem big_pos : 0 ≤ big := by decide +kernel
theorem sum_lim {m : Int} (hm : 0 ≤ m) : ∀ {l : List Int}, (∀ x ∈ l, -m ≤ x ∧ x ≤ m) → -((l.length : Int) * m) ≤ l.sum ∧ l.sum ≤ (l.length : Int) * m
  | [], _ => by simp
  | a :: r, h => by
    have h1 := h a (List.mem_cons_self ..)
    have ih := sum_lim hm (l := r) fun x hx => h x (List.mem_cons_of_mem _ hx)
    have e : ((a :: r).length : Int) * m = (r.length : Int) * m + m := by
      rw [List.length_cons, Int.natCast_succ, Int.add_mul, Int.one_mul]
    rw [e, List.sum_cons]
    omega
theorem sumP_lim {row : List Int} (f : Fits row) (p : Int) : -(1000000 * big) ≤ sumP p row.zipIdx ∧ sumP p row.zipIdx ≤ 1000000 * big := by
  have hb := big_pos
  have hl : ((row.zipIdx.filter (isP p)).map Prod.fst).length ≤ 1000 := by
    rw [List.length_map]
    exact Nat.le_trans (List.length_filter_le _ _) (by rw [List.length_zipIdx]; exact f.len)
  have z := sum_lim (m := 1000 * big) (by omega) (l := (row.zipIdx.filter (isP p)).map Prod.fst) fun x hx => by
    obtain ⟨y, hy, rfl⟩ := List.mem_map.mp hx
    have := (List.mem_filter.mp hy).1
    exact f.lim _ (by
      have q := List.mem_map_of_mem (f := Prod.fst) this
      simpa using q)
  have z2 : (((row.zipIdx.filter (isP p)).map Prod.fst).length : Int) * (1000 * big) ≤ 1000 * (1000 * big) := Int.mul_le_mul_of_nonneg_right (by omega) (by omega)
  unfold sumP
  omega
theorem width_lim {row : List Int} (f : Fits row) {w : Int} (h : IsWidth row w) : -(2000000 * big) ≤ w ∧ w ≤ 2000000 * big := by
  have hb := big_pos
  rcases h with ⟨_, rfl⟩ | ⟨a, b, h1, h2, _, _, rfl⟩
  · omega
  · have := f.lim a h1
    have := f.lim b h2
    omega
def foP : Option (Nat × Nat) → PyData
  | none => .none
  | some (i, j) => .tuple [.int i, .int j]
theorem fo_py (f : Nat → Option PyData) (o : Option (Nat × Nat)) : pyD f (foD o) = some (foP o) := by
  rcases o with _ | ⟨i, j⟩
  · simp [foD, foP]
  · simp [foD, foP, pyD, pyL]
theorem fo_non (o : Option (Nat × Nat)) : isNon (foD o) = o.isNone := by
  rcases o with _ | ⟨i, j⟩ <;> rfl
def told (o : Option (Nat × Nat)) (row : List Int) (w : Int) : List D := [foD o, parD row, .int w, .bl o.isNone]
def toldP (o : Option (Nat × Nat)) (row : List Int) (w : Int) : PyData := .list [foP o, .tuple [.int (sumP 0 row.zipIdx), .int (sumP 1 row.zipIdx)], .int w, .bool o.isNone]
theorem repr_told {o : Option (Nat × Nat)} {row : List Int} {w : Int} (f : Fits row) (ho : IsFault (gt row) row.length o) (hw : IsWidth row w) {h : VH} {n : Nat} (e : lk h n = some (told o row w)) : bRepr [.ref n] h = some (.str (toldP o row w).shown, h) := by
  have hb := big_pos
  refine bRepr_of (py_ref e fun g => ?_) (reprOk_of ?_ ?_ ?_)
  · simp only [told, pyL, fo_py, parD, pyD, pyD_i, pyD_b, Option.bind_some, Option.map_some]
  · rcases o with _ | ⟨i, j⟩ <;> rfl
  · have s0 := sumP_lim f 0
    have s1 := sumP_lim f 1
    have sw := width_lim f hw
    have a0 := show_int (i := sumP 0 row.zipIdx) (by omega) (by omega)
    have a1 := show_int (i := sumP 1 row.zipIdx) (by omega) (by omega)
    have a2 := show_int sw.1 sw.2
    rcases o with _ | ⟨i, j⟩
    · simp only [toldP, foP, PyData.showable, PyData.showableAll, Bool.and_true, Bool.true_and, Bool.and_eq_true] at a0 a1 a2 ⊢
      exact ⟨⟨a0, a1⟩, a2⟩
    · have hij := ho.1
      have hj := ho.2.1
      have hl := f.len
      have bb : (1000 : Int) ≤ 2000000 * big := by decide +kernel
      have a3 := show_int (i := (i : Int)) (by omega) (by omega)
      have a4 := show_int (i := (j : Int)) (by omega) (by omega)
      simp only [toldP, foP, PyData.showable, PyData.showableAll, Bool.and_true, Bool.true_and, Bool.and_eq_true] at a0 a1 a2 a3 a4 ⊢
      exact ⟨⟨a3, a4⟩, ⟨a0, a1⟩, a2⟩
  · rcases o with _ | ⟨i, j⟩ <;> simp [toldP, foP, size, sizes]
def rowP (row : List Int) : PyData := .tuple (row.map .int)
theorem sizes_ints : ∀ row : List Int, sizes (row.map PyData.int) ≤ 2 * row.length + 2
  | [] => by simp [sizes]
  | a :: r => by
    have := sizes_ints r
    simp only [List.map_cons, sizes, size, List.length_cons]
    omega
theorem show_ints : ∀ {row : List Int}, (∀ x ∈ row, (PyData.int x).showable = true) → PyData.showableAll (row.map PyData.int) = true
  | [], _ => by simp only [List.map_nil, PyData.showableAll]
  | a :: r, h => by
    simp only [List.map_cons, PyData.showableAll, h a (List.mem_cons_self ..), show_ints fun x hx => h x (List.mem_cons_of_mem _ hx), Bool.and_self]
theorem repr_row {row : List Int} (f : Fits row) (h : VH) : bRepr [tupI row] h = some (.str (rowP row).shown, h) := by
  have hb := big_pos
  refine bRepr_of (pl_py (α := List Int) h row) (reprOk_of (pl_shaped (by decide) row) ?_ ?_)
  · show PyData.showable (.tuple (row.map .int)) = true
    simp only [PyData.showable]
    exact show_ints fun x hx => by
      have := f.lim x hx
      exact show_int (by omega) (by omega)
  · show size (.tuple (row.map .int)) ≤ 8000
    have := sizes_ints row
    have := f.len
    simp only [size]
    omega
end K72

namespace K72
open PySem Vq
theorem s_fault {row : List Int} (f : Fits row) (h : VH) : ∃ o h', IsFault (gt row) row.length o ∧ F_law_fault [tupI row] h = .ok (foD o, h') ∧ Grow h h' := by
  obtain ⟨o, g, ho, e⟩ := x_law_fault row f.z h
  exact ⟨o, _, ho, e, .new h g⟩
theorem s_parts {row : List Int} (f : Fits row) (h : VH) : ∃ h', F_law_parts [tupI row] h = .ok (parD row, h') ∧ Grow h h' := by
  obtain ⟨g, e⟩ := x_law_parts row f.z h
  exact ⟨_, e, .new h g⟩
theorem r_part_sums {row : List Int} (f : Fits row) (h : VH) : ∃ h', F_part_sums [tupI row] h = .ok (parD row, h') ∧ Grow h h' := by
  obtain ⟨g, e⟩ := x_part_sums row f.z h
  exact ⟨_, e, .new h g⟩
theorem s_isr {row : List Int} (f : Fits row) {o : Option (Nat × Nat)} (ho : IsFault (gt row) row.length o) (h : VH) : ∃ h', F_is_step_row [tupI row] h = .ok (.bl o.isNone, h') ∧ Grow h h' := by
  obtain ⟨g, e⟩ := x_is_step_row row f.z ho h
  exact ⟨_, e, .new h g⟩
theorem s_width {row : List Int} (f : Fits row) {w : Int} (hw : IsWidth row w) (h : VH) : F_law_width [tupI row] h = .ok (.int w, h) := by
  obtain ⟨w', hw', e⟩ := x_law_width row f.z h
  rw [width_one hw hw']
  exact e
theorem s_smooth {row : List Int} {w : Int} (hw : IsWidth row w) (h : VH) : F_smooth_width [tupI row] h = .ok (.int w, h) := by
  obtain ⟨w', hw', e⟩ := x_smooth_width row h
  rw [width_one hw hw']
  exact e
theorem has_width (row : List Int) : ∃ w, IsWidth row w := by
  obtain ⟨w', hw', e⟩ := x_smooth_width row []
  exact ⟨w', hw'⟩
theorem r_step_fault {row : List Int} (f : Fits row) {o : Option (Nat × Nat)} (ho : IsFault (gt row) row.length o) (h : VH) : F_step_fault [tupI row] h = .ok (foD o, h) := by
  obtain ⟨o', ho', e⟩ := x_step_fault row f.z h
  rw [fault_one ho ho']
  exact e
theorem s_right {row : List Int} (f : Fits row) (named : Bool) (h : VH) : ∃ h', F_law_is_row_right [tupI row, .bl named] h = .ok (.bl true, h') ∧ Grow h h' := by
  obtain ⟨w, hw⟩ := has_width row
  obtain ⟨o, h1, ho, e1, k1⟩ := s_fault f h
  obtain ⟨h2, e2, k2⟩ := s_parts f h1
  have r3 := repr_told f ho hw (lk_at h2 (told o row w) [])
  have e3 := s_width f hw
  have rr := repr_row f
  have esf := r_step_fault f ho
  have esw := s_smooth hw
  obtain ⟨h4, e4, k4⟩ := r_part_sums f (h2 ++ [.lst (told o row w)])
  obtain ⟨h5, e5, k5⟩ := s_isr f ho h4
  have r6 := repr_told f ho hw (lk_at h5 (told o row w) [])
  obtain ⟨h7, e7, k7⟩ := r_part_sums f (h5 ++ [.lst (told o row w)])
  obtain ⟨h8, e8, k8⟩ := s_isr f ho h7
  have r9 := repr_told f ho hw (lk_at h8 (told o row w) [])
  refine ⟨h8 ++ [.lst (told o row w)], ?_, ((((((k1.trans k2).app _).trans k4).trans k5).app _).trans (k7.trans k8)).app _⟩
  have ni := fo_non o
  simp only [told] at *
  unfold F_law_is_row_right
  cases named with
  | true =>
    refine mF_rt (s' := [some (tupI row), some (.bl true), some (foD o), some (.str (toldP o row w).shown), some (.str (rowP row).shown), some (.str (toldP o row w).shown), some (.str (toldP o row w).shown), none, none]) ?_
    simp -implicitDefEqProofs [m_law_is_row_right, e1, e2, r3, e3, rr, esf, esw, e4, e5, r6, e7, e8, r9, ni]
  | false =>
    refine mF_rt (s' := [some (tupI row), some (.bl false), some (foD o), some (.str (toldP o row w).shown), some (.str (rowP row).shown), some (.str (toldP o row w).shown), some (.str (toldP o row w).shown), some (.int w), some (parD row)]) ?_
    simp -implicitDefEqProofs [m_law_is_row_right, e1, e2, r3, e3, rr, esf, esw, e4, e5, r6, e7, e8, r9, ni]
end K72

namespace K72
open PySem Vq
/-! ### rows of steps, plainly -/
def rep (r s : Nat) (m : Int) : List Int := List.replicate r (m + 1) ++ List.replicate s m
def Clear (row : List Int) : Prop := row.Pairwise fun a b => a - b = 0 ∨ a - b = 1
theorem clear_iff (row : List Int) : IsFault (gt row) row.length none ↔ Clear row := by
  unfold Clear
  rw [List.pairwise_iff_getElem]
  constructor
  · intro h i j hi hj hij
    have := h i j hij hj
    simp [gt, hi, hj, bad] at this
    omega
  · intro h i j hij hj
    have hi : i < row.length := by omega
    have := h i j hi hj hij
    simp [gt, hi, hj, bad]
    omega
theorem clear_rep : ∀ {row : List Int}, row ≠ [] → Clear row → ∃ r s m, 0 < s ∧ row = rep r s m
  | [], h, _ => absurd rfl h
  | [a], _, _ => ⟨0, 1, a, by decide, rfl⟩
  | a :: b :: l, _, h => by
    obtain ⟨h1, h2⟩ := List.pairwise_cons.mp h
    obtain ⟨r, s, m, hs, e⟩ := clear_rep (by simp) h2
    rw [e] at h1 ⊢
    have hm := h1 m (by simp [rep]; omega)
    cases r with
    | zero =>
      rcases hm with hm | hm
      · refine ⟨0, s + 1, m, by omega, ?_⟩
        have : a = m := by omega
        subst this
        simp [rep, List.replicate_succ]
      · refine ⟨1, s, m, hs, ?_⟩
        have : a = m + 1 := by omega
        subst this
        simp [rep, List.replicate_succ]
    | succ r =>
      have hm1 := h1 (m + 1) (by simp [rep])
      refine ⟨r + 2, s, m, hs, ?_⟩
      have : a = m + 1 := by omega
      subst this
      simp [rep, List.replicate_succ]
theorem rep_clear (r s : Nat) (m : Int) : Clear (rep r s m) := by
  unfold Clear rep
  rw [List.pairwise_append]
  refine ⟨?_, ?_, ?_⟩
  · rw [List.pairwise_replicate]
    right
    omega
  · rw [List.pairwise_replicate]
    right
    omega
  · intro a ha b hb
    rw [List.eq_of_mem_replicate ha, List.eq_of_mem_replicate hb]
    omega
theorem rep_sum (r s : Nat) (m : Int) : (rep r s m).sum = (r + s : Nat) * m + r := by
  unfold rep
  rw [List.sum_append_int, List.sum_replicate_int, List.sum_replicate_int, Int.mul_add, Int.natCast_add, Int.add_mul]
  omega
theorem step_rep {n : Nat} {m : Int} {r : Nat} (hr : r < n) : stepRow n (n * m + r) = rep r (n - r) m := by
  have hn : (0 : Int) < n := by omega
  have e1 : ((n : Int) * m + r).fmod n = r := by
    rw [Int.add_comm, Int.add_mul_fmod_self_left]
    exact Int.fmod_eq_of_lt (by omega) (by omega)
  have e2 : ((n : Int) * m + r).fdiv n = m := by
    have z := Int.mul_fdiv_add_fmod ((n : Int) * m + r) n
    rw [e1] at z
    have : (n : Int) * ((n : Int) * m + r).fdiv n = n * m := by omega
    exact Int.eq_of_mul_eq_mul_left (by omega) this
  unfold stepRow
  rw [e1, e2]
  simp only [Int.toNat_natCast]
  apply List.ext_getElem
  · simp [rep]
    omega
  · intro i h1 h2
    simp only [List.getElem_map, List.getElem_range, rep]
    by_cases h : i < r
    · rw [List.getElem_append_left (by simpa using h)]
      simp
      omega
    · rw [List.getElem_append_right (by simpa using h)]
      simp
      omega
theorem step_is_rep {n : Nat} (hn : 0 < n) (total : Int) : ∃ r : Nat, r < n ∧ (r : Int) = total.fmod n ∧ stepRow n total = rep r (n - r) (total.fdiv n) := by
  have h1 := Int.fmod_nonneg_of_pos total (show (0 : Int) < n by omega)
  have h2 := Int.fmod_lt_of_pos total (show (0 : Int) < n by omega)
  refine ⟨(total.fmod n).toNat, by omega, by omega, ?_⟩
  have e := step_rep (n := n) (m := total.fdiv n) (r := (total.fmod n).toNat) (by omega)
  have z := Int.mul_fdiv_add_fmod total n
  rw [show ((total.fmod n).toNat : Int) = total.fmod n by omega, z] at e
  exact e
theorem step_clear {n : Nat} (hn : 0 < n) (total : Int) : Clear (stepRow n total) := by
  obtain ⟨r, _, _, e⟩ := step_is_rep hn total
  rw [e]
  exact rep_clear _ _ _
theorem step_sum {n : Nat} (hn : 0 < n) (total : Int) : (stepRow n total).sum = total := by
  obtain ⟨r, h1, h2, e⟩ := step_is_rep hn total
  rw [e, rep_sum, show r + (n - r) = n by omega, h2]
  exact Int.mul_fdiv_add_fmod total n
theorem clear_step {row : List Int} (h0 : row ≠ []) : Clear row ↔ row = stepRow row.length row.sum := by
  have hp : 0 < row.length := List.length_pos_iff.mpr h0
  constructor
  · intro h
    obtain ⟨r, s, m, hs, e⟩ := clear_rep h0 h
    have hl : row.length = r + s := by rw [e]; simp [rep]
    rw [hl, e, rep_sum, step_rep (by omega), show r + s - r = s by omega]
  · intro h
    rw [h]
    exact step_clear hp _
/-! ### texts of rows -/
theorem shownAll_ints : ∀ l : List Int, PyData.shownAll (l.map .int) = l.map fun i => Str.ofString (toString i)
  | [] => by simp only [List.map_nil, PyData.shownAll]
  | a :: r => by
    simp only [List.map_cons, PyData.shownAll, shownAll_ints r, PyData.shown]
theorem parts_tl : ∀ {l : List Int}, (∀ x ∈ l, 0 ≤ x) → (l.map fun i => Str.ofString (toString i)).map TL.tl = l.map fun i => TL.numL i.toNat
  | [], _ => rfl
  | a :: r, h => by
    have ha := h a (List.mem_cons_self ..)
    obtain ⟨k, rfl⟩ := Int.eq_ofNat_of_zero_le ha
    simp only [List.map_cons, parts_tl fun x hx => h x (List.mem_cons_of_mem _ hx)]
    rw [TL.tl_num]
    rfl
theorem spl_rows {l : List Int} (h0 : l ≠ []) (h : ∀ x ∈ l, 0 ≤ x) : TL.spl (44 :: [32]) 0 [] (TL.joinL (44 :: [32]) (l.map fun i => TL.numL i.toNat)) = l.map fun i => TL.numL i.toNat :=
  TL.spl_join (by simpa using h0) fun p hp => by
    obtain ⟨x, _, rfl⟩ := List.mem_map.mp hp
    exact TL.numL_free (by omega)
theorem nums_inj : ∀ {a b : List Int}, (∀ x ∈ a, 0 ≤ x) → (∀ x ∈ b, 0 ≤ x) → (a.map fun i => TL.numL i.toNat) = (b.map fun i => TL.numL i.toNat) → a = b
  | [], [], _, _, _ => rfl
  | [], _ :: _, _, _, e => by cases e
  | _ :: _, [], _, _, e => by cases e
  | x :: r, y :: s, h, g, e => by
    simp only [List.map_cons, List.cons.injEq] at e
    have h1 := h x (List.mem_cons_self ..)
    have h2 := g y (List.mem_cons_self ..)
    have := TL.numL_inj e.1
    rw [show x = y by omega, nums_inj (fun z hz => h z (List.mem_cons_of_mem _ hz)) (fun z hz => g z (List.mem_cons_of_mem _ hz)) e.2]
theorem rows_inj {a b : List Int} (hl : a.length = b.length) (h0 : a ≠ []) (ha : ∀ x ∈ a, 0 ≤ x) (hb : ∀ x ∈ b, 0 ≤ x) (e : (rowP a).shown = (rowP b).shown) : a = b := by
  have h1 : b ≠ [] := fun z => by
    rw [z] at hl
    exact h0 (List.length_eq_zero_iff.mp hl)
  unfold rowP at e
  rw [PyData.shown_tuple, PyData.shown_tuple, List.length_map, List.length_map, hl, shownAll_ints, shownAll_ints] at e
  have e := congrArg TL.tl e
  rw [TL.tl_append, TL.tl_append, TL.tl_append, TL.tl_append] at e
  have e := List.append_cancel_right e
  have e := List.append_cancel_left e
  rw [TL.tl_join, TL.tl_join, parts_tl ha, parts_tl hb] at e
  have t : TL.tl (", " : Str) = 44 :: [32] := rfl
  rw [t] at e
  have e := congrArg (TL.spl (44 :: [32]) 0 []) e
  rw [spl_rows h0 ha, spl_rows h1 hb] at e
  exact nums_inj ha hb e
end K72

namespace K72
open PySem Vq
theorem Hb.ne_b {b c : Nat} {h : VH} (q : Hb b c h) : h.length ≠ b := by have := q.b_lt; omega
theorem Hb.ne_c {b c : Nat} {h : VH} (q : Hb b c h) : h.length ≠ c := by have := q.c_lt; omega
theorem s_pickL {h : VH} {b c : Nat} (q : Hb b c h) (l : List D) (h0 : l ≠ []) (hs : l.length ≤ 1000000) : ∃ d h', F_law_pick [.ref b, .ref h.length] (h ++ [.lst l]) = .ok (d, h') ∧ d ∈ l ∧ Keep b c h h' := by
  obtain ⟨d, h', e, hd, k⟩ := s_pick (q.app [.lst l]) (lk_at h l []) (Hb.ne_b q) (Hb.ne_c q) h0 (by omega)
  exact ⟨d, h', e, hd, (q.keep _).trans k⟩
theorem s_total {h : VH} {b c : Nat} (q : Hb b c h) {n : Int} (h1 : 1 ≤ n) (h2 : n ≤ 10) : ∃ t h', F_law_total [.ref b, .int n] h = .ok (.int t, h') ∧ 0 ≤ t ∧ t ≤ 1000000 ∧ Keep b c h h' := by
  obtain ⟨k, ha, ea, k1, k2, ka⟩ := s_drawS q (n := 6) (by decide) (by decide)
  obtain ⟨a, hb, eb, a1, a2, kb⟩ := s_drawS ka.bag (n := 1000001) (by decide) (by decide)
  have kk := ka.trans kb
  have hm : mulOk 3 n = true := mul_sm (by omega) (by omega)
  unfold F_law_total
  by_cases c0 : k = 0
  · obtain ⟨t, hc, ec, t1, t2, kc⟩ := s_drawS kb.bag (n := 3 * n) (by omega) (by omega)
    refine ⟨t, hc, mF_rt (s' := [some (.ref b), some (.int n), some (.int k), some (.int a)]) ?_, t1, by omega, kk.trans kc⟩
    simp -implicitDefEqProofs [m_law_total, ea, aPow6, eb, c0, dMul_i hm, ec]
  by_cases c1 : k = 1
  · obtain ⟨d, hc, ec, hd, kc⟩ := s_pickL kb.bag [.int 0, .int 1, .int 1000000, .int 999999, .int n, .int (n - 1)] (by simp) (by simp)
    have : ∃ t, d = .int t ∧ 0 ≤ t ∧ t ≤ 1000000 := by
      simp at hd
      rcases hd with rfl | rfl | rfl | rfl | rfl | rfl <;> exact ⟨_, rfl, by omega, by omega⟩
    obtain ⟨t, rfl, t1, t2⟩ := this
    refine ⟨t, hc, mF_rt (s' := [some (.ref b), some (.int n), some (.int k), some (.int a)]) ?_, t1, t2, kk.trans kc⟩
    simp -implicitDefEqProofs [m_law_total, ea, aPow6, eb, c1, ec]
  by_cases c2 : k = 2
  · obtain ⟨t, hc, ec, t1, t2, kc⟩ := s_drawS kb.bag (n := 3) (by decide) (by decide)
    have hm2 : mulOk (a.fdiv n) n = true := mul_sm (by omega) (by omega)
    have hd : divOk n = true := divOk_small h1 (by omega)
    generalize hX : a.fdiv n * n + t - 1 = X at *
    have bm : ∀ h, bMax [.int 0, .int X] h = some (.int (if X > 0 then X else 0), h) := fun _ => rfl
    generalize hY : (if X > 0 then X else 0) = Y at *
    have bn : ∀ h, bMin [.int 1000000, .int Y] h = some (.int (if Y < 1000000 then Y else 1000000), h) := fun _ => rfl
    have y0 : 0 ≤ Y := by
      rw [← hY]
      split <;> omega
    refine ⟨if Y < 1000000 then Y else 1000000, hc, mF_rt (s' := [some (.ref b), some (.int n), some (.int k), some (.int a)]) ?_, by split <;> omega, by split <;> omega, kk.trans kc⟩
    simp -implicitDefEqProofs [m_law_total, ea, aPow6, eb, c2, aFdv_i hd, dMul_i hm2, ec, hX, bm, bn]
  · refine ⟨a, hb, mF_rt (s' := [some (.ref b), some (.int n), some (.int k), some (.int a)]) ?_, a1, by omega, kk⟩
    simp -implicitDefEqProofs [m_law_total, ea, aPow6, eb, c0, c1, c2]
/-! ### steps -/
theorem s_step_row' {n : Nat} (h1 : 1 ≤ n) (h2 : n ≤ 1000) (t : Int) (h : VH) : ∃ h', F_step_row [.int n, .int t] h = .ok (tupI (stepRow n t), h') ∧ Grow h h' := by
  obtain ⟨g, e⟩ := x_step_row h n t (by omega) (by omega)
  exact ⟨_, e, .new h g⟩
theorem s_steps {n : Nat} (h1 : 1 ≤ n) (h2 : n ≤ 1000) (t : Int) (h : VH) : ∃ h', F_law_steps [.int n, .int t] h = .ok (tupI (stepRow n t), h') ∧ Grow h h' := by
  obtain ⟨g, e⟩ := x_law_steps h n t (by omega) (by omega)
  exact ⟨_, e, .new h g⟩
theorem big_ge' : (1000000000000 : Int) ≤ big := by decide +kernel
theorem fdiv_lim {t n : Int} (h0 : 0 ≤ t) (hn : 1 ≤ n) : 0 ≤ t.fdiv n ∧ t.fdiv n ≤ t := by
  rw [Int.fdiv_eq_ediv_of_nonneg _ (by omega)]
  exact ⟨Int.ediv_nonneg h0 (by omega), Int.ediv_le_self _ h0⟩
theorem step_mem {n : Nat} {t x : Int} (hn : 1 ≤ n) (h0 : 0 ≤ t) (hx : x ∈ stepRow n t) : 0 ≤ x ∧ x ≤ t + 1 := by
  unfold stepRow at hx
  obtain ⟨k, _, rfl⟩ := List.mem_map.mp hx
  have := fdiv_lim (n := n) h0 (by omega)
  split <;> omega
theorem step_len (n : Nat) (t : Int) : (stepRow n t).length = n := by simp [stepRow]
theorem step_fits {n : Nat} {t : Int} (hn : 1 ≤ n) (h2 : n ≤ 1000) (h0 : 0 ≤ t) (h1 : t ≤ 100000000) : Fits (stepRow n t) := by
  have := big_ge'
  refine ⟨by rw [step_len]; exact h2, fun x hx => ?_⟩
  have := step_mem hn h0 hx
  omega
theorem step_width {n : Nat} (hn : 1 ≤ n) (t : Int) {w : Int} (hw : IsWidth (stepRow n t) w) : w = 0 ∨ w = 1 := by
  obtain ⟨r, h1, h2, e⟩ := step_is_rep (n := n) (by omega) t
  rw [e] at hw
  rcases hw with ⟨_, rfl⟩ | ⟨a, b, ha, hb, hA, hB, rfl⟩
  · exact .inl rfl
  · have l : ∀ x, x ∈ rep r (n - r) (t.fdiv n) → x = t.fdiv n + 1 ∨ x = t.fdiv n := fun x hx => by
      rcases List.mem_append.mp hx with q | q
      · exact .inl (List.eq_of_mem_replicate q)
      · exact .inr (List.eq_of_mem_replicate q)
    have := hA b hb
    rcases l a ha with rfl | rfl <;> rcases l b hb with rfl | rfl <;> omega
def alt : List Int → Int
  | [] => 0
  | a :: r => a - alt r
theorem alt_sum : ∀ (l : List Int) (k : Nat), sumP 0 (l.zipIdx k) - sumP 1 (l.zipIdx k) = if k % 2 = 0 then alt l else -alt l
  | [], k => by simp [sumP, alt]
  | a :: r, k => by
    have ih := alt_sum r (k + 1)
    have e : (k : Int).fmod 2 = ((k % 2 : Nat) : Int) := by
      rw [Int.fmod_eq_emod_of_nonneg _ (by decide)]
      omega
    unfold sumP at ih ⊢
    by_cases hk : k % 2 = 0
    · rw [hk] at e
      rw [if_neg (by omega)] at ih
      rw [if_pos hk]
      have e0 : isP 0 (a, k) = true := by unfold isP; simp; omega
      have e1 : isP 1 (a, k) = false := by unfold isP; simp; omega
      simp only [List.zipIdx_cons, List.filter_cons, e0, e1, if_true, Bool.false_eq_true, if_false, List.map_cons, List.sum_cons, alt]
      omega
    · have hk1 : k % 2 = 1 := by omega
      rw [hk1] at e
      rw [if_pos (by omega)] at ih
      rw [if_neg hk]
      have e0 : isP 0 (a, k) = false := by unfold isP; simp; omega
      have e1 : isP 1 (a, k) = true := by unfold isP; simp; omega
      simp only [List.zipIdx_cons, List.filter_cons, e0, e1, if_true, Bool.false_eq_true, if_false, List.map_cons, List.sum_cons, alt]
      omega
theorem alt_rep (m : Int) (L : List Int) : ∀ r, alt (List.replicate r m ++ L) = if r % 2 = 0 then alt L else m - alt L
  | 0 => by simp
  | r + 1 => by
    have ih := alt_rep m L r
    rw [List.replicate_succ, List.cons_append, alt, ih]
    by_cases h : r % 2 = 0
    · rw [if_pos h, if_neg (by omega)]
    · rw [if_neg h, if_pos (by omega)]
      omega
theorem step_halves {n : Nat} (h1 : 1 ≤ n) (h2 : n ≤ 10) (t : Int) : (n : Int).fmod 2 = 1 ∨ sumP 0 (stepRow n t).zipIdx - sumP 1 (stepRow n t).zipIdx = 0 ∨ sumP 0 (stepRow n t).zipIdx - sumP 1 (stepRow n t).zipIdx = 1 := by
  obtain ⟨r, hr, _, e⟩ := step_is_rep (n := n) (by omega) t
  rw [e]
  generalize t.fdiv n = m
  clear e
  have hn : n = 1 ∨ n = 2 ∨ n = 3 ∨ n = 4 ∨ n = 5 ∨ n = 6 ∨ n = 7 ∨ n = 8 ∨ n = 9 ∨ n = 10 := by omega
  have two : ∀ s : Nat, sumP 0 (rep r s m).zipIdx - sumP 1 (rep r s m).zipIdx = 0 ∨ sumP 0 (rep r s m).zipIdx - sumP 1 (rep r s m).zipIdx = 1 ∨ (r + s) % 2 = 1 := by
    intro s
    have z := alt_sum (rep r s m) 0
    rw [if_pos (by rfl)] at z
    have e1 := alt_rep m [] s
    rw [List.append_nil] at e1
    have e2 := alt_rep (m + 1) (List.replicate s m) r
    rw [z]
    unfold rep
    rw [e2, e1]
    have e3 : alt [] = 0 := rfl
    rw [e3]
    clear z hn
    split <;> split <;> omega
  rcases two (n - r) with q | q | q
  · exact .inr (.inl q)
  · exact .inr (.inr q)
  · left
    rcases hn with rfl | rfl | rfl | rfl | rfl | rfl | rfl | rfl | rfl | rfl <;> first | rfl | omega
theorem in01 (x : Int) (h : VH) : dIn (.int x) (.tup [.int 0, .int 1]) h = some (.bl (decide (x = 0) || decide (x = 1)), h) := by
  have z := nin01 x h
  unfold dNin dIn inW at *
  simp only [seqOf_t, Option.bind_some] at z ⊢
  split at z
  · rename_i c
    rw [if_pos c]
    simp only [if_true, Option.some.injEq, Prod.mk.injEq, D.bl.injEq, and_true] at z
    simp only [Bool.false_eq_true, if_false]
    rw [← Bool.not_not (List.any _ _), z, Bool.not_not]
  · cases z
theorem s_steps_right {h : VH} {b c : Nat} (q : Hb b c h) {n : Nat} (h1 : 1 ≤ n) (h2 : n ≤ 10) : ∃ h', F_law_are_steps_right [.ref b, .int n] h = .ok (.bl true, h') ∧ Keep b c h h' := by
  obtain ⟨t, ha, ea, t1, t2, ka⟩ := s_total q (n := n) (by omega) (by omega)
  obtain ⟨hb, eb, gb⟩ := s_steps h1 (by omega) t ha
  obtain ⟨hc, ec, gc⟩ := s_step_row' h1 (by omega) t hb
  obtain ⟨hd, ed, gd⟩ := s_step_row' h1 (by omega) t hc
  have f := step_fits h1 (by omega) t1 (by omega)
  have cl : IsFault (gt (stepRow n t)) (stepRow n t).length none := (clear_iff _).mpr (step_clear (by omega) t)
  obtain ⟨w, hw⟩ := has_width (stepRow n t)
  have w01 := step_width h1 t hw
  have hv := step_halves h1 h2 t
  have rr := repr_row f
  obtain ⟨he, ee, ge⟩ := r_part_sums f hd
  have esf := r_step_fault f cl
  have esw := s_smooth hw
  obtain ⟨hg, eg, gg⟩ := s_right f true he
  have ps := sumP_row (stepRow n t)
  have sm : sumP 0 (stepRow n t).zipIdx + sumP 1 (stepRow n t).zipIdx = t := by
    rw [ps, step_sum (by omega)]
    omega
  refine ⟨hg, ?_, ka.trans (ka.bag.grow (((gb.trans gc).trans (gd.trans ge)).trans gg))⟩
  unfold F_law_are_steps_right
  refine mF_rt (s' := [some (.ref b), some (.int n), some (.int t), some (tupI (stepRow n t)), some (tupI (stepRow n t)), some (parD (stepRow n t))]) ?_
  have z2 : (2 : Int) ≠ 0 := by decide
  have i0 : L2.atI [D.int (sumP 0 (stepRow n t).zipIdx), .int (sumP 1 (stepRow n t).zipIdx)] 0 = some (.int (sumP 0 (stepRow n t).zipIdx)) := rfl
  have i1 : L2.atI [D.int (sumP 0 (stepRow n t).zipIdx), .int (sumP 1 (stepRow n t).zipIdx)] 1 = some (.int (sumP 1 (stepRow n t).zipIdx)) := rfl
  have wn : (!(decide (w = 0) || decide (w = 1))) = false := by
    rcases w01 with rfl | rfl <;> rfl
  simp only [foD] at esf
  generalize stepRow (n : Int) t = row at *
  generalize hA : sumP 0 row.zipIdx = A at *
  generalize hB : sumP 1 row.zipIdx = B at *
  have pe : parD row = .tup [.int A, .int B] := by rw [← hA, ← hB]; rfl
  rw [pe] at ee ⊢
  generalize tupI row = R at *
  rcases hv with hv | hv | hv
  · simp -implicitDefEqProofs [m_law_are_steps_right, ea, eb, ec, ed, rr, ee, esf, esw, nin01, wn, i0, i1, sm, eg, aMod_i z2, hv]
  · by_cases hn : (n : Int).fmod 2 = 1
    · simp -implicitDefEqProofs [m_law_are_steps_right, ea, eb, ec, ed, rr, ee, esf, esw, nin01, wn, i0, i1, sm, eg, aMod_i z2, hn]
    · simp -implicitDefEqProofs [m_law_are_steps_right, ea, eb, ec, ed, rr, ee, esf, esw, nin01, wn, i0, i1, sm, eg, aMod_i z2, hn, hv, in01]
  · by_cases hn : (n : Int).fmod 2 = 1
    · simp -implicitDefEqProofs [m_law_are_steps_right, ea, eb, ec, ed, rr, ee, esf, esw, nin01, wn, i0, i1, sm, eg, aMod_i z2, hn]
    · simp -implicitDefEqProofs [m_law_are_steps_right, ea, eb, ec, ed, rr, ee, esf, esw, nin01, wn, i0, i1, sm, eg, aMod_i z2, hn, hv, in01]
end K72

namespace K72
open PySem Vq
theorem repr_bl (x : Bool) (h : VH) : bRepr [.bl x] h = some (.str (PyData.bool x).shown, h) :=
  bRepr_of (pl_py (α := Bool) h x) (reprOk_of (pl_shaped (α := Bool) (by decide) x) (by cases x <;> decide) (by cases x <;> decide))
theorem map_len (l : List Int) : (l.map D.int).length = l.length := List.length_map ..
/-- a row of this many small counts -/
structure Counts (n : Nat) (row : List Int) : Prop where
  len : row.length = n
  lim : ∀ x ∈ row, 0 ≤ x ∧ x ≤ 2000000
theorem Counts.set {n : Nat} {row : List Int} (x : Counts n row) {i : Nat} {v : Int} (h : 0 ≤ v ∧ v ≤ 2000000) : Counts n (row.set i v) :=
  ⟨by rw [List.length_set]; exact x.len, fun y hy => by
    rcases List.mem_or_eq_of_mem_set hy with q | rfl
    · exact x.lim y q
    · exact h⟩
theorem Counts.fits {n : Nat} {row : List Int} (x : Counts n row) (h2 : n ≤ 10) : Fits row := by
  have := big_ge'
  refine ⟨by rw [x.len]; omega, fun y hy => ?_⟩
  have := x.lim y hy
  omega
theorem Counts.sum {n : Nat} {row : List Int} (x : Counts n row) (h2 : n ≤ 10) : 0 ≤ row.sum ∧ row.sum ≤ 20000000 := by
  have nn : ∀ {l : List Int}, (∀ y ∈ l, 0 ≤ y) → 0 ≤ l.sum := by
    intro l
    induction l with
    | nil => intro; simp
    | cons a r ih =>
      intro h
      have := h a (List.mem_cons_self ..)
      have := ih fun y hy => h y (List.mem_cons_of_mem _ hy)
      rw [List.sum_cons]
      omega
  have z := (sum_lim (m := 2000000) (by decide) (l := row) fun y hy => by
    have := x.lim y hy
    omega).2
  rw [x.len] at z
  exact ⟨nn fun y hy => (x.lim y hy).1, by omega⟩
theorem gt_lim {n : Nat} {row : List Int} (x : Counts n row) {i : Nat} (hi : i < n) : 0 ≤ gt row i ∧ gt row i ≤ 2000000 := by
  have hl : i < row.length := by rw [x.len]; exact hi
  have := x.lim row[i] (List.getElem_mem _)
  simpa [gt, hl] using this
abbrev CR {α : Type} (f : Fn → Fn → Fn → Fn → Fn → Fn → Fn → α) : α := f F_law_is_row_right F_is_step_row F_step_row F_law_fault F_law_draw F_law_steps F_law_total
theorem s4_counts {h : VH} {b c m : Nat} (q : Hb b c h) (mb : m ≠ b) (mc : m ≠ c) {n : Nat} (h1 : 1 ≤ n) (h2 : n ≤ 10) {row : List Int} (e : h[m]? = some (.lst (row.map .int))) (x : Counts n row) (x9 : ∀ y ∈ row, y ≤ 1999999) (k : Int) {a : Int} (a1 : 0 ≤ a) (a2 : a < n) :
    ∃ m' row' h', CR S4_law_are_counts_right [some (.ref b), some (.int n), some (.ref m), some (.int k), some (.int a), none, none, none] h = .ok (.nx, [some (.ref b), some (.int n), some (.ref m'), some (.int k), some (.int a), none, none, none], h') ∧ h'[m']? = some (.lst (row'.map .int)) ∧ Counts n row' ∧ Hb b c h' := by
  have hl : a.toNat < row.length := by rw [x.len]; omega
  have at0 : L2.atI (row.map D.int) a = some (.int (gt row a.toNat)) := by
    have := atR hl
    rwa [show ((a.toNat : Nat) : Int) = a by omega] at this
  have gl := gt_lim x (i := a.toNat) (by omega)
  have g9 : gt row a.toNat ≤ 1999999 := by
    have := x9 row[a.toNat] (List.getElem_mem _)
    simpa [gt, hl] using this
  have lk0 := lk_of e
  have hset : ∀ l, Hb b c (h.set m (.lst l)) := fun l => by
    obtain ⟨B, q⟩ := q
    exact ⟨B, by rw [List.getElem?_set_ne mb]; exact q.hb, by rw [List.getElem?_set_ne mc]; exact q.hc, q.ne⟩
  have te : (h ++ [Cell.lst (row.map D.int)]).length ≠ h.length := by simp
  by_cases c0 : k = 0
  · have st := sLst_I e a1 hl (gt row a.toNat + 1)
    refine ⟨m, row.set a.toNat (gt row a.toNat + 1), _, ?_, set_get e, x.set ⟨by omega, by omega⟩, hset _⟩
    simp -implicitDefEqProofs [S4_law_are_counts_right, c0, lk0, at0, st]
  by_cases c1 : k = 1
  · have st := sLst_I e a1 hl (if gt row a.toNat - 1 > 0 then gt row a.toNat - 1 else 0)
    have bm : ∀ h, bMax [.int 0, .int (gt row a.toNat - 1)] h = some (.int (if gt row a.toNat - 1 > 0 then gt row a.toNat - 1 else 0), h) := fun _ => rfl
    refine ⟨m, row.set a.toNat (if gt row a.toNat - 1 > 0 then gt row a.toNat - 1 else 0), _, ?_, set_get e, x.set ⟨by split <;> omega, by split <;> omega⟩, hset _⟩
    generalize (if gt row a.toNat - 1 > 0 then gt row a.toNat - 1 else 0) = v at *
    simp -implicitDefEqProofs [S4_law_are_counts_right, c1, lk0, at0, bm, st]
  by_cases c2 : k = 2
  · refine ⟨(h ++ [Cell.lst (row.map .int)]).length, row.reverse, (h ++ [.lst (row.map .int)]) ++ [.lst (row.reverse.map .int)], ?_, by simp, ⟨by simp [x.len], fun y hy => x.lim y (by simpa using hy)⟩, (q.app _).app _⟩
    simp -implicitDefEqProofs [S4_law_are_counts_right, c2, lk0]
  by_cases c3 : k = 3
  · obtain ⟨h', acc, e1, e2, e3, e4, e5⟩ := lc_bagR (a := vCons (vVar 1) vNil) (vs := [7]) (g := pN 7) (e := CR E1_law_are_counts_right) (s := [some (.ref b), some (.int n), some (.ref m), some (.int k), some (.int a), none, none, none]) (h := h) (h1 := h) (n := n) (fun d => ∃ x, d = .int x ∧ 0 ≤ x ∧ x < 3) q (by simp) (by omega) (by omega) (by
      intro i h hi kk
      obtain ⟨d, h', ed, d1, d2, kd⟩ := s_drawS kk.bag (n := 3) (by decide) (by decide)
      refine ⟨_, .int d, h', rfl, ?_, ⟨d, rfl, d1, d2⟩, kd⟩
      simp -implicitDefEqProofs [E1_law_are_counts_right, vwipe, ed])
    obtain ⟨r, rfl, hr⟩ := ints_of e4
    refine ⟨h.length, r, h', ?_, e2, ⟨by simpa using e3, fun y hy => by have := hr y hy; omega⟩, e5.bag⟩
    have e1 : CR C1_law_are_counts_right [some (.ref b), some (.int n), some (.ref m), some (.int k), some (.int a), none, none, none] h = .ok (.ref h.length, h') := e1
    simp only [CR, c3] at e1
    simp -implicitDefEqProofs [S4_law_are_counts_right, c3, e1]
  · refine ⟨m, row, h, ?_, e, x, q⟩
    simp -implicitDefEqProofs [S4_law_are_counts_right, c0, c1, c2, c3]
theorem s_counts_right {h : VH} {b c : Nat} (q : Hb b c h) {n : Nat} (h1 : 1 ≤ n) (h2 : n ≤ 10) : ∃ h', F_law_are_counts_right [.ref b, .int n] h = .ok (.bl true, h') ∧ Hb b c h' := by
  obtain ⟨t, ha, ea, t1, t2, ka⟩ := s_total q (n := n) (by omega) (by omega)
  have dd : divOk 2 = true := by decide
  have dl := fdiv_lim (n := 2) t1 (by omega)
  have dl2 : t.fdiv 2 ≤ 500000 := by
    rw [Int.fdiv_eq_ediv_of_nonneg _ (by omega)]
    omega
  obtain ⟨hb, eb, gb⟩ := s_steps h1 (by omega) (t.fdiv 2 + 1) ha
  have x0 : Counts n (stepRow n (t.fdiv 2 + 1)) := ⟨step_len _ _, fun y hy => by
    have := step_mem h1 (by omega) hy
    omega⟩
  have x9 : ∀ y ∈ stepRow n (t.fdiv 2 + 1), y ≤ 1999999 := fun y hy => by
    have := step_mem h1 (by omega) hy
    omega
  generalize stepRow n (t.fdiv 2 + 1) = row0 at *
  have qb : Hb b c hb := (ka.bag.grow gb).bag
  obtain ⟨k, hc, ec, k1, k2, kc⟩ := s_drawS (qb.app [.lst (row0.map .int)]) (n := 5) (by decide) (by decide)
  obtain ⟨a, hd, ed, a1, a2, kd⟩ := s_drawS kc.bag (n := n) (by omega) (by omega)
  have cell : hd[hb.length]? = some (.lst (row0.map .int)) := Keep.cell qb (Nat.le_refl _) (kc.trans kd) (by simp)
  obtain ⟨m, row, he, ee, cm, x, qe⟩ := s4_counts kd.bag (Hb.ne_b qb) (Hb.ne_c qb) h1 h2 cell x0 x9 k a1 a2
  have lkm := lk_of cm
  have f := x.fits h2
  have hne : row ≠ [] := fun z => by
    have := x.len
    rw [z] at this
    simp at this
    omega
  obtain ⟨o, hf, ho, ef, gf⟩ := s_fault f he
  have xs := x.sum h2
  have bs := bSum_r (gf.lk lkm)
  obtain ⟨hg, eg, gg⟩ := s_step_row' h1 (by omega) row.sum hf
  have lkg := (gf.trans gg).lk lkm
  have fs := step_fits h1 (by omega) xs.1 (by omega)
  have r1 := repr_row fs
  have r2 := repr_row f
  obtain ⟨hi, ei, gi⟩ := s_isr f ho hg
  have lki := ((gf.trans gg).trans gi).lk lkm
  obtain ⟨hj, ej, gj⟩ := s_right f false hi
  have same : decide ((rowP (stepRow n row.sum)).shown = (rowP row).shown) = o.isNone := by
    have cs := clear_step hne
    rw [x.len] at cs
    cases o with
    | none =>
      have := cs.mp ((clear_iff row).mp ho)
      rw [← this]
      exact decide_eq_true rfl
    | some p =>
      refine decide_eq_false fun z => ?_
      have e := rows_inj (by rw [step_len, x.len]) (fun z => hne (List.length_eq_zero_iff.mp (by rw [x.len, ← step_len n row.sum, z]; rfl))) (fun y hy => (step_mem h1 xs.1 hy).1) (fun y hy => (x.lim y hy).1) z
      have := fault_one ho ((clear_iff row).mpr (cs.mpr e.symm))
      cases this
  have lkf := gf.lk lkm
  refine ⟨hj, ?_, (qe.grow (((gf.trans gg).trans gi).trans gj)).bag⟩
  have e1 : CR S6_law_are_counts_right [some (.ref b), some (.int n), none, none, none, none, none, none] h = .ok (.nx, [some (.ref b), some (.int n), some (.ref hb.length), none, none, none, none, none], hb ++ [.lst (row0.map .int)]) := by
    simp -implicitDefEqProofs [S6_law_are_counts_right, ea, aFdv_i dd, eb, tupI]
  have e2 : CR S5_law_are_counts_right [some (.ref b), some (.int n), some (.ref hb.length), none, none, none, none, none] (hb ++ [.lst (row0.map .int)]) = .ok (.nx, [some (.ref b), some (.int n), some (.ref hb.length), some (.int k), some (.int a), none, none, none], hd) := by
    simp -implicitDefEqProofs [S5_law_are_counts_right, ec, ed]
  have e3 : CR S3_law_are_counts_right [some (.ref b), some (.int n), some (.ref m), some (.int k), some (.int a), none, none, none] he = .ok (.nx, [some (.ref b), some (.int n), some (.ref m), some (.int k), some (.int a), some (.bl o.isNone), none, none], hf) := by
    have ef' := ef
    unfold tupI at ef'
    simp -implicitDefEqProofs [S3_law_are_counts_right, lkm, ef', fo_non]
  have e4 : CR S2_law_are_counts_right [some (.ref b), some (.int n), some (.ref m), some (.int k), some (.int a), some (.bl o.isNone), none, none] hf = .ok (.nx, [some (.ref b), some (.int n), some (.ref m), some (.int k), some (.int a), some (.bl o.isNone), some (.bl o.isNone), none], hg) := by
    have r2' := r2
    unfold tupI at r2'
    simp -implicitDefEqProofs [S2_law_are_counts_right, bs, eg, r1, lkg, r2', same]
  have e5 : CR S1_law_are_counts_right [some (.ref b), some (.int n), some (.ref m), some (.int k), some (.int a), some (.bl o.isNone), some (.bl o.isNone), none] hg = .ok (.nx, [some (.ref b), some (.int n), some (.ref m), some (.int k), some (.int a), some (.bl o.isNone), some (.bl o.isNone), none], hi) := by
    have ei' := ei
    unfold tupI at ei'
    simp -implicitDefEqProofs [S1_law_are_counts_right, lkg, ei', repr_bl]
  unfold F_law_are_counts_right
  refine mF_rt (s' := [some (.ref b), some (.int n), some (.ref m), some (.int k), some (.int a), some (.bl o.isNone), some (.bl o.isNone), none]) ?_
  show m_law_are_counts_right _ _ _ _ _ _ _ [some (.ref b), some (.int n), none, none, none, none, none, none] h = _
  unfold m_law_are_counts_right
  have ej' := ej
  unfold tupI at ej'
  rw [seq_nx e1, seq_nx e2, seq_nx ee, seq_nx e3, seq_nx e4, seq_nx e5]
  simp -implicitDefEqProofs [lki, ej']
end K72

namespace K72
open PySem Vq
abbrev RW {α : Type} (f : Fn → Fn → Fn → α) : α := f F_law_pick F_law_draw F_law_great
/-- the row that a law's row starts from -/
structure Base (row : List Int) : Prop where
  len : row.length ≤ 1000
  lim : ∀ x ∈ row, -(2 * big) ≤ x ∧ x ≤ 2 * big
theorem Base.fits {row : List Int} (x : Base row) : Fits row := ⟨x.len, fun y hy => by
  have := x.lim y hy
  have := big_pos
  omega⟩
theorem Base.gt {row : List Int} (x : Base row) {i : Nat} (hi : i < row.length) : -(2 * big) ≤ gt row i ∧ gt row i ≤ 2 * big := by
  have := x.lim row[i] (List.getElem_mem _)
  simpa [K72.gt, hi] using this
theorem Fits.set {row : List Int} (x : Fits row) {i : Nat} {v : Int} (h : -(1000 * big) ≤ v ∧ v ≤ 1000 * big) : Fits (row.set i v) :=
  ⟨by rw [List.length_set]; exact x.len, fun y hy => by
    rcases List.mem_or_eq_of_mem_set hy with q | rfl
    · exact x.lim y q
    · exact h⟩
theorem aPow9 (h : VH) : aPow (.int 10) (.int 9) h = some (.int 1000000000, h) := by rw [aPow_i pow109, pow109']
theorem Hb.of {b c : Nat} {h h' : VH} (k : Keep b c h h') : Hb b c h' := k.bag
theorem row_s8 {h : VH} {b c : Nat} (q : Hb b c h) (many : D) : ∃ k least h', RW S8_law_row [some (.ref b), some many, none, none, none, none, none, none, none, none] h = .ok (.nx, [some (.ref b), some many, some (.int k), some (.int least), none, none, none, none, none, none], h') ∧ 0 ≤ k ∧ k < 10 ∧ -big ≤ least ∧ least ≤ big ∧ Keep b c h h' := by
  obtain ⟨k, h1, e1, k1, k2, q1⟩ := s_drawS q (n := 10) (by decide) (by decide)
  obtain ⟨d, h2, e2, d1, d2, q2⟩ := s_drawS q1.bag (n := 9) (by decide) (by decide)
  obtain ⟨g, h3, e3, g1, g2, q3⟩ := s_great q2.bag
  obtain ⟨l, h4, e4, hl, q4⟩ := s_pickL q3.bag [.int 0, .int 0, .int d, .int (-1), .int g] (by simp) (by simp)
  have bg := big_ge'
  have : ∃ t, l = .int t ∧ -big ≤ t ∧ t ≤ big := by
    simp at hl
    rcases hl with rfl | rfl | rfl | rfl <;> exact ⟨_, rfl, by omega, by omega⟩
  obtain ⟨t, rfl, t1, t2⟩ := this
  refine ⟨k, t, h4, ?_, k1, k2, t1, t2, ((q1.trans q2).trans q3).trans q4⟩
  simp -implicitDefEqProofs [S8_law_row, e1, e2, e3, e4]
theorem row_s7 {h : VH} {b c : Nat} (q : Hb b c h) {many : Int} (m0 : 0 ≤ many) (m1 : many ≤ 120) (k least : D) : ∃ high h', RW S7_law_row [some (.ref b), some (.int many), some k, some least, none, none, none, none, none, none] h = .ok (.nx, [some (.ref b), some (.int many), some k, some least, some (.int high), none, none, none, none, none], h') ∧ Keep b c h h' := by
  obtain ⟨d, h2, e2, d1, d2, q2⟩ := s_drawS q (n := many + 1) (by omega) (by omega)
  have dd : divOk 2 = true := by decide
  obtain ⟨l, h4, e4, hl, q4⟩ := s_pickL q2.bag [.int d, .int (if 0 < many then many - 1 else 0), .int (many.fdiv 2)] (by simp) (by simp)
  have : ∃ t, l = .int t := by
    simp at hl
    rcases hl with rfl | rfl | rfl <;> exact ⟨_, rfl⟩
  obtain ⟨t, rfl⟩ := this
  refine ⟨t, h4, ?_, q2.trans q4⟩
  by_cases hm : 0 < many <;> simp only [hm, if_true, if_false] at e4 <;> simp -implicitDefEqProofs [S7_law_row, e2, hm, aFdv_i dd, e4]
theorem row_s6 {h : VH} {b : Nat} {many least : Int} (m0 : 0 ≤ many) (m1 : many ≤ 120) (l0 : -big ≤ least) (l1 : least ≤ big) (k : D) (high : Int) : ∃ row, RW S6_law_row [some (.ref b), some (.int many), some k, some (.int least), some (.int high), none, none, none, none, none] h = .ok (.nx, [some (.ref b), some (.int many), some k, some (.int least), some (.int high), some (.ref h.length), none, none, none, none], h ++ [.lst (row.map .int)]) ∧ Base row ∧ row.length = many.toNat := by
  have bg := big_ge'
  have c4 : RW C4_law_row [some (.ref b), some (.int many), some k, some (.int least), some (.int high), none, none, none, none, none] h = .ok (.ref h.length, h ++ [.lst (((List.range many.toNat).map fun (i : Nat) => if (i : Int) < high then least + 1 else least).map .int)]) := by
    simp only [RW]
    unfold C4_law_row
    rw [lc_rng1 (h1 := h) (n := many) (fun (i : Nat) => .int (if (i : Int) < high then least + 1 else least)) (by simp) (by omega) (by omega) ?_]
    · simp only [List.map_map]
      rfl
    · intro i _ acc
      refine ⟨_, rfl, ?_⟩
      by_cases hi : (i : Int) < high <;> simp -implicitDefEqProofs [E4_law_row, vwipe, hi]
  refine ⟨(List.range many.toNat).map fun (i : Nat) => if (i : Int) < high then least + 1 else least, ?_, ⟨by simp; omega, fun x hx => ?_⟩, by simp⟩
  · simp only [RW] at c4 ⊢
    simp -implicitDefEqProofs [S6_law_row, c4]
  · obtain ⟨i, _, rfl⟩ := List.mem_map.mp hx
    split <;> omega
theorem pick9 {h : VH} {b c : Nat} (q : Hb b c h) : ∃ v h', F_law_pick [.ref b, .ref h.length] (h ++ [.lst [.int 1, .int 2, .int 1000000000]]) = .ok (.int v, h') ∧ 1 ≤ v ∧ v ≤ 1000000000 ∧ Keep b c h h' := by
  obtain ⟨l, h4, e4, hl, q4⟩ := s_pickL q [.int 1, .int 2, .int 1000000000] (by simp) (by simp)
  have : ∃ t, l = .int t ∧ 1 ≤ t ∧ t ≤ 1000000000 := by
    simp at hl
    rcases hl with rfl | rfl | rfl <;> exact ⟨_, rfl, by omega, by omega⟩
  obtain ⟨t, rfl, t1, t2⟩ := this
  exact ⟨t, h4, e4, t1, t2, q4⟩
theorem pick2 {h : VH} {b c : Nat} (q : Hb b c h) : ∃ v h', F_law_pick [.ref b, .ref h.length] (h ++ [.lst [.int 1, .int 2]]) = .ok (.int v, h') ∧ 1 ≤ v ∧ v ≤ 1000000000 ∧ Keep b c h h' := by
  obtain ⟨l, h4, e4, hl, q4⟩ := s_pickL q [.int 1, .int 2] (by simp) (by simp)
  have : ∃ t, l = .int t ∧ 1 ≤ t ∧ t ≤ 1000000000 := by
    simp at hl
    rcases hl with rfl | rfl <;> exact ⟨_, rfl, by omega, by omega⟩
  obtain ⟨t, rfl, t1, t2⟩ := this
  exact ⟨t, h4, e4, t1, t2, q4⟩
theorem row_s1 {h0 h : VH} {b c m : Nat} (q0 : Hb b c h0) (kk : Keep b c h0 h) (hm : h0.length ≤ m) {many least : Int} (m2 : 2 ≤ many) (m1 : many ≤ 120) (l0 : -big ≤ least) (l1 : least ≤ big) (k high : Int)
    {row : List Int} (e : h[m]? = some (.lst (row.map .int))) (x : Base row) (len : row.length = many.toNat) {a o : Int} (a0 : 0 ≤ a) (a1 : a < many) (o0 : 0 ≤ o) (o1 : o < many) :
    ∃ m' row' f h', RW S1_law_row [some (.ref b), some (.int many), some (.int k), some (.int least), some (.int high), some (.ref m), some (.int a), some (.int o), none, none] h = .ok (.nx, [some (.ref b), some (.int many), some (.int k), some (.int least), some (.int high), some (.ref m'), some (.int a), some (.int o), f, none], h') ∧ lk h' m' = some (row'.map .int) ∧ Fits row' ∧ Keep b c h0 h' := by
  have bg := big_ge'
  have mb : m ≠ b := by have := q0.b_lt; omega
  have mc : m ≠ c := by have := q0.c_lt; omega
  have la : a.toNat < row.length := by omega
  have lo : o.toNat < row.length := by omega
  have le : row.length - 1 < row.length := by omega
  have ata : L2.atI (row.map D.int) a = some (.int (gt row a.toNat)) := by
    have := atR la
    rwa [show ((a.toNat : Nat) : Int) = a by omega] at this
  have ato : L2.atI (row.map D.int) o = some (.int (gt row o.toNat)) := by
    have := atR lo
    rwa [show ((o.toNat : Nat) : Int) = o by omega] at this
  have hne : row ≠ [] := fun z => by
    rw [z] at la
    simp at la
  have ate : L2.atI (row.map D.int) (-1) = some (.int (gt row (row.length - 1))) := by
    rw [atI_end (by simpa using hne), List.getLast_map, gt_last hne]
  have ga := x.gt la
  have go := x.gt lo
  have ge := x.gt le
  have lk0 := lk_of e
  by_cases c2 : k = 2
  · obtain ⟨v, h', ev, v1, v2, kv⟩ := pick9 kk.bag
    have e' := Keep.cell q0 hm kv e
    have st := sLst_I e' a0 la (gt row a.toNat + v)
    refine ⟨m, row.set a.toNat (gt row a.toNat + v), none, _, ?_, lk_set (lk_of e'), x.fits.set ⟨by omega, by omega⟩, (kk.trans kv).set hm mb mc⟩
    simp -implicitDefEqProofs [S1_law_row, c2, lk0, ata, aPow9, ev, st]
  by_cases c3 : k = 3
  · obtain ⟨v, h', ev, v1, v2, kv⟩ := pick9 kk.bag
    have e' := Keep.cell q0 hm kv e
    have st := sLst_I e' a0 la (gt row a.toNat - v)
    refine ⟨m, row.set a.toNat (gt row a.toNat - v), none, _, ?_, lk_set (lk_of e'), x.fits.set ⟨by omega, by omega⟩, (kk.trans kv).set hm mb mc⟩
    simp -implicitDefEqProofs [S1_law_row, c3, lk0, ata, aPow9, ev, st]
  by_cases c4 : k = 4
  · obtain ⟨v, h', ev, v1, v2, kv⟩ := pick2 kk.bag
    have e' := Keep.cell q0 hm kv e
    have st := sLst_Ie e' (by omega) (gt row (row.length - 1) + v)
    refine ⟨m, row.set (row.length - 1) (gt row (row.length - 1) + v), none, _, ?_, lk_set (lk_of e'), x.fits.set ⟨by omega, by omega⟩, (kk.trans kv).set hm mb mc⟩
    simp -implicitDefEqProofs [S1_law_row, c4, lk0, ate, ev, st]
  by_cases c5 : k = 5
  · obtain ⟨v, h', ev, v1, v2, kv⟩ := pick2 kk.bag
    have e' := Keep.cell q0 hm kv e
    have st := sLst_Ie e' (by omega) (gt row (row.length - 1) - v)
    refine ⟨m, row.set (row.length - 1) (gt row (row.length - 1) - v), none, _, ?_, lk_set (lk_of e'), x.fits.set ⟨by omega, by omega⟩, (kk.trans kv).set hm mb mc⟩
    simp -implicitDefEqProofs [S1_law_row, c5, lk0, ate, ev, st]
  by_cases c6 : k = 6
  · have s1 := sLst_I e a0 la (gt row o.toNat)
    have e' := set_get (l' := (row.set a.toNat (gt row o.toNat)).map D.int) e
    have s2 := sLst_I e' o0 (by simpa using lo) (gt row a.toNat)
    refine ⟨m, (row.set a.toNat (gt row o.toNat)).set o.toNat (gt row a.toNat), some (.int (gt row a.toNat)), _, ?_, lk_set (lk_of e'), (x.fits.set ⟨by omega, by omega⟩).set ⟨by omega, by omega⟩, (kk.set hm mb mc).set hm mb mc⟩
    simp -implicitDefEqProofs [S1_law_row, c6, lk0, ata, ato, s1, s2, -List.map_set]
  · have dd : divOk 2 = true := by decide
    have c1 : RW C1_law_row [some (.ref b), some (.int many), some (.int k), some (.int least), some (.int high), some (.ref m), some (.int a), some (.int o), none, none] h = .ok (.ref h.length, h ++ [.lst (((List.range many.toNat).map fun (i : Nat) => if (i : Int) < a then least + 2 else if (i : Int) < a + 1 + o.fdiv 2 then least + 1 else least).map .int)]) := by
      simp only [RW]
      unfold C1_law_row
      rw [lc_rng1 (h1 := h) (n := many) (fun (i : Nat) => .int (if (i : Int) < a then least + 2 else if (i : Int) < a + 1 + o.fdiv 2 then least + 1 else least)) (by simp) (by omega) (by omega) ?_]
      · simp only [List.map_map]
        rfl
      · intro i _ acc
        refine ⟨_, rfl, ?_⟩
        by_cases hi : (i : Int) < a
        · simp -implicitDefEqProofs [E1_law_row, vwipe, hi]
        · by_cases hj : (i : Int) < a + 1 + o.fdiv 2 <;> simp -implicitDefEqProofs [E1_law_row, vwipe, hi, hj, aFdv_i dd]
    refine ⟨h.length, (List.range many.toNat).map fun (i : Nat) => if (i : Int) < a then least + 2 else if (i : Int) < a + 1 + o.fdiv 2 then least + 1 else least, none, _, ?_, lk_at h _ [], ⟨by simp; omega, fun x hx => ?_⟩, kk.app _⟩
    · simp only [RW] at c1
      simp -implicitDefEqProofs [S1_law_row, c2, c3, c4, c5, c6, c1]
    · obtain ⟨i, _, rfl⟩ := List.mem_map.mp hx
      split
      · omega
      · split <;> omega
theorem s_row {h : VH} {b c : Nat} (q : Hb b c h) {many : Int} (m0 : 0 ≤ many) (m1 : many ≤ 120) : ∃ row h', F_law_row [.ref b, .int many] h = .ok (tupI row, h') ∧ Fits row ∧ Keep b c h h' := by
  have bg := big_ge'
  obtain ⟨k, least, h1, e1, k0, k9, l0, l1, q1⟩ := row_s8 q (.int many)
  obtain ⟨high, h2, e2, q2⟩ := row_s7 q1.bag m0 m1 (.int k) (.int least)
  obtain ⟨row, e3, x, len⟩ := row_s6 (h := h2) (b := b) m0 m1 l0 l1 (.int k) high
  have kk : Keep b c h (h2 ++ [.lst (row.map .int)]) := (q1.trans q2).app _
  have hb2 := (q1.trans q2).bag
  have hle : h.length ≤ h2.length := (q1.trans q2).le
  have cell : (h2 ++ [Cell.lst (row.map D.int)])[h2.length]? = some (.lst (row.map .int)) := by simp
  generalize h2 ++ [Cell.lst (row.map D.int)] = h3 at *
  generalize h2.length = m at *
  unfold F_law_row
  by_cases c0 : k = 0
  · subst c0
    obtain ⟨h', acc, e4, a1, a2, a3, a4⟩ := lc_bagR (a := vCons (vVar 1) vNil) (vs := [9]) (g := pN 9) (e := RW E3_law_row) (s := [some (.ref b), some (.int many), some (.int 0), some (.int least), some (.int high), some (.ref m), none, none, none, none]) (h := h3) (h1 := h3) (n := many) (fun d => ∃ x, d = .int x ∧ -(2 * big) ≤ x ∧ x ≤ 2 * big) kk.bag (by simp) (by omega) (by omega) (by
      intro i h hi kk
      obtain ⟨d, h', ed, d1, d2, kd⟩ := s_drawS kk.bag (n := 3) (by decide) (by decide)
      refine ⟨_, .int (least + d), h', rfl, ?_, ⟨_, rfl, by omega, by omega⟩, kd⟩
      simp -implicitDefEqProofs [E3_law_row, vwipe, ed])
    obtain ⟨r, rfl, hr⟩ := ints_of a3
    have lkr := lk_of a1
    have e4 : RW C3_law_row [some (.ref b), some (.int many), some (.int 0), some (.int least), some (.int high), some (.ref m), none, none, none, none] h3 = .ok (.ref h3.length, h') := e4
    have e5 : RW S5_law_row [some (.ref b), some (.int many), some (.int 0), some (.int least), some (.int high), some (.ref m), none, none, none, none] h3 = .ok (.rt (tupI r), [some (.ref b), some (.int many), some (.int 0), some (.int least), some (.int high), some (.ref m), none, none, none, none], h') := by
      simp only [RW] at e4 ⊢
      simp -implicitDefEqProofs [S5_law_row, e4, lkr, tupI]
    refine ⟨r, h', mF_rt (s' := [some (.ref b), some (.int many), some (.int 0), some (.int least), some (.int high), some (.ref m), none, none, none, none]) ?_, Base.fits ⟨by simp at a2; omega, hr⟩, kk.trans a4⟩
    show m_law_row _ _ _ [some (.ref b), some (.int many), none, none, none, none, none, none, none, none] h = _
    unfold m_law_row
    rw [seq_nx e1, seq_nx e2, seq_nx e3, seq_rt e5]
  have e5 : RW S5_law_row [some (.ref b), some (.int many), some (.int k), some (.int least), some (.int high), some (.ref m), none, none, none, none] h3 = .ok (.nx, [some (.ref b), some (.int many), some (.int k), some (.int least), some (.int high), some (.ref m), none, none, none, none], h3) := by
    simp only [RW]
    simp -implicitDefEqProofs [S5_law_row, c0]
  by_cases c1 : k = 1
  · subst c1
    have bm : ∀ h, bMin [.int many, .int 20] h = some (.int (if 20 < many then 20 else many), h) := fun _ => rfl
    obtain ⟨n, hn⟩ : ∃ n, n = if 20 < many then 20 else many := ⟨_, rfl⟩
    rw [← hn] at bm
    have n1 : 0 ≤ n ∧ n ≤ 20 := by
      rw [hn]
      split <;> omega
    obtain ⟨h', acc, e4, a1, a2, a3, a4⟩ := lc_bagR (a := vCons (vBl bMin (vCons (vVar 1) (vCons (vC (.int 20)) vNil))) vNil) (vs := [9]) (g := pN 9) (e := RW E2_law_row) (s := [some (.ref b), some (.int many), some (.int 1), some (.int least), some (.int high), some (.ref m), none, none, none, none]) (h := h3) (h1 := h3) (n := n) (fun d => ∃ x, d = .int x ∧ -(2 * big) ≤ x ∧ x ≤ 2 * big) kk.bag (by simp [bm]) (by omega) (by omega) (by
      intro i h hi kk
      obtain ⟨d, h', ed, d1, d2, kd⟩ := s_great kk.bag
      refine ⟨_, .int d, h', rfl, ?_, ⟨_, rfl, by omega, by omega⟩, kd⟩
      simp -implicitDefEqProofs [E2_law_row, vwipe, ed])
    obtain ⟨r, rfl, hr⟩ := ints_of a3
    have lkr := lk_of a1
    have e4 : RW C2_law_row [some (.ref b), some (.int many), some (.int 1), some (.int least), some (.int high), some (.ref m), none, none, none, none] h3 = .ok (.ref h3.length, h') := e4
    have e6 : RW S4_law_row [some (.ref b), some (.int many), some (.int 1), some (.int least), some (.int high), some (.ref m), none, none, none, none] h3 = .ok (.rt (tupI r), [some (.ref b), some (.int many), some (.int 1), some (.int least), some (.int high), some (.ref m), none, none, none, none], h') := by
      simp only [RW] at e4 ⊢
      simp -implicitDefEqProofs [S4_law_row, e4, lkr, tupI]
    refine ⟨r, h', mF_rt (s' := [some (.ref b), some (.int many), some (.int 1), some (.int least), some (.int high), some (.ref m), none, none, none, none]) ?_, Base.fits ⟨by simp at a2; omega, hr⟩, kk.trans a4⟩
    show m_law_row _ _ _ [some (.ref b), some (.int many), none, none, none, none, none, none, none, none] h = _
    unfold m_law_row
    rw [seq_nx e1, seq_nx e2, seq_nx e3, seq_nx e5, seq_rt e6]
  have e6 : RW S4_law_row [some (.ref b), some (.int many), some (.int k), some (.int least), some (.int high), some (.ref m), none, none, none, none] h3 = .ok (.nx, [some (.ref b), some (.int many), some (.int k), some (.int least), some (.int high), some (.ref m), none, none, none, none], h3) := by
    simp only [RW]
    simp -implicitDefEqProofs [S4_law_row, c1]
  have lk3 := lk_of cell
  by_cases c2 : many < 2 ∨ 7 < k
  · have e7 : RW S3_law_row [some (.ref b), some (.int many), some (.int k), some (.int least), some (.int high), some (.ref m), none, none, none, none] h3 = .ok (.rt (tupI row), [some (.ref b), some (.int many), some (.int k), some (.int least), some (.int high), some (.ref m), none, none, none, none], h3) := by
      simp only [RW]
      by_cases d1 : many < 2
      · simp -implicitDefEqProofs [S3_law_row, d1, lk3, tupI]
      · have d2 : 7 < k := by omega
        simp -implicitDefEqProofs [S3_law_row, d1, d2, lk3, tupI]
    refine ⟨row, h3, mF_rt (s' := [some (.ref b), some (.int many), some (.int k), some (.int least), some (.int high), some (.ref m), none, none, none, none]) ?_, x.fits, kk⟩
    show m_law_row _ _ _ [some (.ref b), some (.int many), none, none, none, none, none, none, none, none] h = _
    unfold m_law_row
    rw [seq_nx e1, seq_nx e2, seq_nx e3, seq_nx e5, seq_nx e6, seq_rt e7]
  have d1 : ¬ many < 2 := by omega
  have d2 : ¬ 7 < k := by omega
  have e7 : RW S3_law_row [some (.ref b), some (.int many), some (.int k), some (.int least), some (.int high), some (.ref m), none, none, none, none] h3 = .ok (.nx, [some (.ref b), some (.int many), some (.int k), some (.int least), some (.int high), some (.ref m), none, none, none, none], h3) := by
    simp only [RW]
    simp -implicitDefEqProofs [S3_law_row, d1, d2]
  obtain ⟨a, h4, ea, a0, a1, qa⟩ := s_drawS kk.bag (n := many) (by omega) (by omega)
  obtain ⟨o, h5, eo, o0, o1, qo⟩ := s_drawS qa.bag (n := many) (by omega) (by omega)
  have e8 : RW S2_law_row [some (.ref b), some (.int many), some (.int k), some (.int least), some (.int high), some (.ref m), none, none, none, none] h3 = .ok (.nx, [some (.ref b), some (.int many), some (.int k), some (.int least), some (.int high), some (.ref m), some (.int a), some (.int o), none, none], h5) := by
    simp only [RW]
    simp -implicitDefEqProofs [S2_law_row, ea, eo]
  have cell5 := Keep.cell q hle (qa.trans qo) cell
  obtain ⟨m', row', f, h6, e9, lk6, fits, k6⟩ := row_s1 q (kk.trans (qa.trans qo)) hle (by omega) m1 l0 l1 k high cell5 x len a0 a1 o0 o1
  refine ⟨row', h6, mF_rt (s' := [some (.ref b), some (.int many), some (.int k), some (.int least), some (.int high), some (.ref m'), some (.int a), some (.int o), f, none]) ?_, fits, k6⟩
  show m_law_row _ _ _ [some (.ref b), some (.int many), none, none, none, none, none, none, none, none] h = _
  unfold m_law_row
  rw [seq_nx e1, seq_nx e2, seq_nx e3, seq_nx e5, seq_nx e6, seq_nx e7, seq_nx e8, seq_nx e9]
  simp -implicitDefEqProofs [lk6, tupI]
end K72

namespace K72
open PySem Vq
abbrev LW {α : Type} (f : Fn → Fn → Fn → Fn → Fn → Fn → Fn → Fn → Fn → Fn → α) : α := f F_step_row F_law_steps F_law_draw F_law_is_row_right F_law_pick F_law_great F_law_row F_law_are_counts_right F_law_are_steps_right F_law_own_bag
theorem fits_small {row : List Int} (h : row.all fun x => decide (-1000000 ≤ x ∧ x ≤ 1000000)) (hl : row.length ≤ 1000) : Fits row := by
  refine ⟨hl, fun x hx => ?_⟩
  have := of_decide_eq_true (List.all_eq_true.mp h x hx)
  have := big_ge'
  omega
theorem dMul_rep (x : Int) (k : Int) (h1 : 1 ≤ k) (h2 : k ≤ 1000) (h : VH) : dMul (.tup [.int x]) (.int k) h = some (.tup ((List.replicate k.toNat x).map .int), h) := by
  have e : repD k.toNat [D.int x] = (List.replicate k.toNat x).map .int := by
    unfold repD
    generalize k.toNat = n
    induction n with
    | zero => rfl
    | succ n ih => rw [List.replicate_succ, List.flatten_cons, ih, List.replicate_succ, List.map_cons]; rfl
  have ii0 : ∀ f, ii f (.tup [.int x]) (.int k) h = none := fun _ => rfl
  unfold dMul orD aMul
  rw [ii0]
  unfold tMulT
  by_cases hk : k = 1
  · subst hk
    rfl
  · simp only [if_neg hk]
    rw [if_pos ⟨by omega, h2, by simp, by simp⟩, e]

theorem law_l3 {h : VH} {b c : Nat} (q : Hb b c h) : ∃ x h', LW L3_law [some (.ref 0), some (.ref b), none, none, none, none, none, none, none, none, none, none, none, none] h = .ok (.nx, [some (.ref 0), some (.ref b), x, none, none, none, none, none, none, none, none, none, none, none], h') ∧ Hb b c h' := by
  have hit : (vRng2 (vCons (vC (.int 1)) (vCons (vC (.int 11)) vNil))) [some (.ref 0), some (.ref b), none, none, none, none, none, none, none, none, none, none, none, none] h = .ok (fun _ => some (rangeD 1 1 ((11 : Int) - 1).toNat), h) := vRng2_of rfl (by decide) (by decide)
  obtain ⟨s', h', e, ⟨x, rfl⟩, q'⟩ := for_all (g := gP (pN 2)) (body := LW B3_law) (fun _ s h => (∃ x, s = [some (.ref 0), some (.ref b), x, none, none, none, none, none, none, none, none, none, none, none]) ∧ Hb b c h) hit (fun _ _ _ _ => rfl) ⟨⟨_, rfl⟩, q⟩ (by
    rintro k d s h ed ⟨⟨x, rfl⟩, q⟩
    obtain ⟨hk, rfl⟩ := range_get ed
    have hk : k < 10 := hk
    have ej : (1 : Int) + (k : Int) = ((k + 1 : Nat) : Int) := by omega
    rw [ej]
    obtain ⟨h1, e1, k1⟩ := s_steps_right q (n := k + 1) (by omega) (by omega)
    obtain ⟨h2, e2, k2⟩ := s_counts_right k1.bag (n := k + 1) (by omega) (by omega)
    refine ⟨[some (.ref 0), some (.ref b), some (.int ((k + 1 : Nat) : Int)), none, none, none, none, none, none, none, none, none, none, none], h2, .inl ?_, ⟨_, rfl⟩, k2⟩
    rw [turn_N]
    generalize ((k + 1 : Nat) : Int) = j at *
    simp -implicitDefEqProofs [LW, B3_law, e1, e2])
  exact ⟨x, h', e, q'⟩
theorem law_s12 {h : VH} {b c : Nat} (q : Hb b c h) (x : Option D) : ∃ l h', LW S12_law [some (.ref 0), some (.ref b), x, none, none, none, none, none, none, none, none, none, none, none] h = .ok (.nx, [some (.ref 0), some (.ref b), x, some (.int l), none, none, none, none, none, none, none, none, none, none], h') ∧ 0 ≤ l ∧ l ≤ 120 ∧ Hb b c h' := by
  obtain ⟨d, h4, e4, hl, q4⟩ := s_pickL q [.int 17, .int 60, .int 60, .int 61, .int 120] (by simp) (by simp)
  have : ∃ t, d = .int t ∧ 0 ≤ t ∧ t ≤ 120 := by
    simp at hl
    rcases hl with rfl | rfl | rfl | rfl <;> exact ⟨_, rfl, by omega, by omega⟩
  obtain ⟨t, rfl, t1, t2⟩ := this
  refine ⟨t, h4, ?_, t1, t2, q4.bag⟩
  simp -implicitDefEqProofs [LW, S12_law, e4]
theorem law_l2 {h : VH} {b c : Nat} (q : Hb b c h) (x : Option D) {l : Int} (l0 : 0 ≤ l) (l1 : l ≤ 120) : ∃ y h', LW L2_law [some (.ref 0), some (.ref b), x, some (.int l), none, none, none, none, none, none, none, none, none, none] h = .ok (.nx, [some (.ref 0), some (.ref b), x, some (.int l), y, none, none, none, none, none, none, none, none, none], h') ∧ Hb b c h' := by
  obtain ⟨d, h1, e1, d1, d2, k1⟩ := s_drawS q (n := 30) (by decide) (by decide)
  obtain ⟨e, h2, e2, d3, d4, k2⟩ := s_drawS k1.bag (n := 30) (by decide) (by decide)
  have k12 := k1.trans k2
  obtain ⟨xs, hxs⟩ : ∃ xs : List D, xs = [.int 0, .int 1, .int 2, .int 3, .int 3, .int 4, .int 4, .int 5, .int 6, .int 7, .int 8, .int 9, .int 10, .int d, .int e, .int l] := ⟨_, rfl⟩
  have hm : ∀ z, z ∈ xs → ∃ t, z = .int t ∧ 0 ≤ t ∧ t ≤ 120 := by
    intro z hz
    rw [hxs] at hz
    simp at hz
    rcases hz with rfl | rfl | rfl | rfl | rfl | rfl | rfl | rfl | rfl | rfl | rfl | rfl | rfl | rfl <;> exact ⟨_, rfl, by omega, by omega⟩
  have hit : (vIt (vLst (vCons (vC (.int 0)) (vCons (vC (.int 1)) (vCons (vC (.int 2)) (vCons (vC (.int 3)) (vCons (vC (.int 3)) (vCons (vC (.int 4)) (vCons (vC (.int 4)) (vCons (vC (.int 5)) (vCons (vC (.int 6)) (vCons (vC (.int 7)) (vCons (vC (.int 8)) (vCons (vC (.int 9)) (vCons (vC (.int 10)) (vCons (vCall 2 F_law_draw (vCons (vVar 1) (vCons (vC (.int 30)) vNil))) (vCons (vCall 2 F_law_draw (vCons (vVar 1) (vCons (vC (.int 30)) vNil))) (vCons (vVar 3) vNil)))))))))))))))))) [some (.ref 0), some (.ref b), x, some (.int l), none, none, none, none, none, none, none, none, none, none] h = .ok (fun h => lk h h2.length, h2 ++ [.lst xs]) := by
    rw [hxs]
    simp -implicitDefEqProofs [e1, e2]
  have qb := k12.bag
  obtain ⟨s', h', e, ⟨y, rfl⟩, q'⟩ := for_all (g := gP (pN 4)) (body := LW B2_law) (xs := xs) (fun _ s h => (∃ y, s = [some (.ref 0), some (.ref b), x, some (.int l), y, none, none, none, none, none, none, none, none, none]) ∧ h[h2.length]? = some (.lst xs) ∧ Hb b c h) hit (fun _ _ _ i => lk_of i.2.1) ⟨⟨_, rfl⟩, by simp, qb.app _⟩ (by
    rintro k d s h ed ⟨⟨y, rfl⟩, cell, q⟩
    obtain ⟨t, rfl, t0, t1⟩ := hm _ (List.mem_of_getElem? ed)
    obtain ⟨row, h3, e3, f, k3⟩ := s_row q t0 t1
    obtain ⟨d, h4, e4, _, _, k4⟩ := s_drawS k3.bag (n := 2) (by decide) (by decide)
    obtain ⟨h5, e5, k5⟩ := s_right f (decide (d = 0)) h4
    have kk := (k3.trans k4).trans (k4.bag.grow k5)
    refine ⟨[some (.ref 0), some (.ref b), x, some (.int l), some (.int t), none, none, none, none, none, none, none, none, none], h5, .inl ?_, ⟨_, rfl⟩, Keep.cell qb (Nat.le_refl _) kk cell, kk.bag⟩
    rw [turn_N]
    simp -implicitDefEqProofs [LW, B2_law, e3, e4, e5])
  exact ⟨y, h', e, q'.2⟩
def rows9 : List (List Int) := [[2, 1, 0], [1, 0, 1], [0, 1], [1, 0], [2, 0], [-4, -5], [-5, -4], [3, 3, 3, 2, 4], [1, 1, 0, 0, 1]]
theorem rows9_fit : ∀ r ∈ rows9, Fits r := by
  intro r hr
  refine fits_small ?_ ?_
  · revert hr
    revert r
    decide
  · revert hr
    revert r
    decide
theorem law_l1 {h : VH} {b c : Nat} (q : Hb b c h) (x y : Option D) {l : Int} : ∃ z h', LW L1_law [some (.ref 0), some (.ref b), x, some (.int l), y, none, none, none, none, none, none, none, none, none] h = .ok (.nx, [some (.ref 0), some (.ref b), x, some (.int l), y, z, none, none, none, none, none, none, none, none], h') ∧ Hb b c h' := by
  have hit : (vIt (vLst (vCons (vTup (vCons (vC (.int 2)) (vCons (vC (.int 1)) (vCons (vC (.int 0)) vNil)))) (vCons (vTup (vCons (vC (.int 1)) (vCons (vC (.int 0)) (vCons (vC (.int 1)) vNil)))) (vCons (vTup (vCons (vC (.int 0)) (vCons (vC (.int 1)) vNil))) (vCons (vTup (vCons (vC (.int 1)) (vCons (vC (.int 0)) vNil))) (vCons (vTup (vCons (vC (.int 2)) (vCons (vC (.int 0)) vNil))) (vCons (vTup (vCons (vUn uNeg (vC (.int 4))) (vCons (vUn uNeg (vC (.int 5))) vNil))) (vCons (vTup (vCons (vUn uNeg (vC (.int 5))) (vCons (vUn uNeg (vC (.int 4))) vNil))) (vCons (vTup (vCons (vC (.int 3)) (vCons (vC (.int 3)) (vCons (vC (.int 3)) (vCons (vC (.int 2)) (vCons (vC (.int 4)) vNil)))))) (vCons (vTup (vCons (vC (.int 1)) (vCons (vC (.int 1)) (vCons (vC (.int 0)) (vCons (vC (.int 0)) (vCons (vC (.int 1)) vNil)))))) vNil))))))))))) [some (.ref 0), some (.ref b), x, some (.int l), y, none, none, none, none, none, none, none, none, none] h = .ok (fun h' => lk h' h.length, h ++ [.lst (rows9.map tupI)]) := by
    simp -implicitDefEqProofs [rows9, tupI]
  obtain ⟨s', h', e, ⟨z, rfl⟩, q'⟩ := for_all (g := gP (pN 5)) (body := LW B1_law) (xs := rows9.map tupI) (fun _ s h' => (∃ z, s = [some (.ref 0), some (.ref b), x, some (.int l), y, z, none, none, none, none, none, none, none, none]) ∧ h'[h.length]? = some (.lst (rows9.map tupI)) ∧ Hb b c h') hit (fun _ _ _ i => lk_of i.2.1) ⟨⟨_, rfl⟩, by simp, q.app _⟩ (by
    rintro k d s h' ed ⟨⟨z, rfl⟩, cell, q'⟩
    obtain ⟨r, hr, rfl⟩ := List.mem_map.mp (List.mem_of_getElem? ed)
    obtain ⟨h5, e5, k5⟩ := s_right (rows9_fit r hr) true h'
    have kk := q'.grow k5
    refine ⟨[some (.ref 0), some (.ref b), x, some (.int l), y, some (tupI r), none, none, none, none, none, none, none, none], h5, .inl ?_, ⟨_, rfl⟩, Keep.cell q (Nat.le_refl _) kk cell, kk.bag⟩
    rw [turn_N]
    simp -implicitDefEqProofs [LW, B1_law, e5])
  exact ⟨z, h', e, q'.2⟩
theorem law_s11 {h : VH} {b c : Nat} (q : Hb b c h) (x y z : Option D) (l : Int) : ∃ m d h', LW S11_law [some (.ref 0), some (.ref b), x, some (.int l), y, z, none, none, none, none, none, none, none, none] h = .ok (.nx, [some (.ref 0), some (.ref b), x, some (.int l), some (.int m), z, some (.int d), none, none, none, none, none, none, none], h') ∧ 2 ≤ m ∧ m ≤ 120 ∧ 0 ≤ d ∧ d < 5 ∧ Hb b c h' := by
  obtain ⟨t, h4, e4, hl, q4⟩ := s_pickL q [.int 30, .int 60, .int 62, .int 90, .int 120] (by simp) (by simp)
  have : ∃ m, t = .int m ∧ 2 ≤ m ∧ m ≤ 120 := by
    simp at hl
    rcases hl with rfl | rfl | rfl | rfl | rfl <;> exact ⟨_, rfl, by omega, by omega⟩
  obtain ⟨m, rfl, t1, t2⟩ := this
  obtain ⟨d, h5, e5, d0, d1, q5⟩ := s_drawS q4.bag (n := 5) (by decide) (by decide)
  refine ⟨m, d, h5, ?_, t1, t2, d0, d1, q5.bag⟩
  simp -implicitDefEqProofs [LW, S11_law, e4, e5]
theorem law_s10 {h : VH} {b c : Nat} (q : Hb b c h) (x z : Option D) (l m d : Int) : ∃ t h', LW S10_law [some (.ref 0), some (.ref b), x, some (.int l), some (.int m), z, some (.int d), none, none, none, none, none, none, none] h = .ok (.nx, [some (.ref 0), some (.ref b), x, some (.int l), some (.int m), z, some (.int d), some (.int t), none, none, none, none, none, none], h') ∧ Hb b c h' := by
  obtain ⟨d', h5, e5, d0, d1, q5⟩ := s_drawS q (n := 9) (by decide) (by decide)
  refine ⟨m - 2 - d', h5, ?_, q5.bag⟩
  simp -implicitDefEqProofs [LW, S10_law, e5]
theorem law_s9 {h : VH} {b c : Nat} (q : Hb b c h) (x z : Option D) (l : Int) {m d : Int} (t : Int) (m0 : 2 ≤ m) (m1 : m ≤ 120) (d0 : 0 ≤ d) (d1 : d < 5) : ∃ r h', LW S9_law [some (.ref 0), some (.ref b), x, some (.int l), some (.int m), z, some (.int d), some (.int t), none, none, none, none, none, none] h = .ok (.nx, [some (.ref 0), some (.ref b), x, some (.int l), some (.int m), some (tupI r), some (.int d), some (.int t), none, none, none, none, none, none], h') ∧ Fits r ∧ Hb b c h' := by
  have bg := big_ge'
  have c1 : LW C1_law [some (.ref 0), some (.ref b), x, some (.int l), some (.int m), z, some (.int d), some (.int t), none, none, none, none, none, none] h = .ok (.ref h.length, h ++ [.lst (((List.range m.toNat).map fun (i : Nat) => if (i : Int) < t ∨ (i : Int) = m - 1 then d + 1 else d).map .int)]) := by
    simp only [LW]
    unfold C1_law
    rw [lc_rng1 (h1 := h) (n := m) (fun (i : Nat) => .int (if (i : Int) < t ∨ (i : Int) = m - 1 then d + 1 else d)) (by simp) (by omega) (by omega) ?_]
    · simp only [List.map_map]
      rfl
    · intro i _ acc
      refine ⟨_, rfl, ?_⟩
      by_cases hi : (i : Int) < t <;> by_cases hj : (i : Int) = m - 1 <;> simp -implicitDefEqProofs [E1_law, vwipe, hi, hj]
  refine ⟨(List.range m.toNat).map fun (i : Nat) => if (i : Int) < t ∨ (i : Int) = m - 1 then d + 1 else d, _, ?_, ⟨by simp; omega, fun x hx => ?_⟩, q.app [.lst (((List.range m.toNat).map fun (i : Nat) => if (i : Int) < t ∨ (i : Int) = m - 1 then d + 1 else d).map .int)]⟩
  · generalize ((List.range m.toNat).map fun (i : Nat) => if (i : Int) < t ∨ (i : Int) = m - 1 then d + 1 else d) = r at *
    simp only [LW] at c1 ⊢
    simp -implicitDefEqProofs [S9_law, c1, tupI]
  · obtain ⟨i, _, rfl⟩ := List.mem_map.mp hx
    split <;> omega
theorem law_s8 {h : VH} {b c : Nat} (q : Hb b c h) (x : Option D) {r : List Int} (f : Fits r) (l m d t : Int) : ∃ h', LW S8_law [some (.ref 0), some (.ref b), x, some (.int l), some (.int m), some (tupI r), some (.int d), some (.int t), none, none, none, none, none, none] h = .ok (.nx, [some (.ref 0), some (.ref b), x, some (.int l), some (.int m), some (tupI r), some (.int d), some (.int t), none, none, none, none, none, none], h') ∧ Hb b c h' := by
  obtain ⟨h5, e5, k5⟩ := s_right f false h
  refine ⟨h5, ?_, (q.grow k5).bag⟩
  simp -implicitDefEqProofs [LW, S8_law, e5]
theorem law_s7 {h : VH} {b c : Nat} (q : Hb b c h) (x : Option D) (r : List Int) (l m d t : Int) : ∃ u g v h', LW S7_law [some (.ref 0), some (.ref b), x, some (.int l), some (.int m), some (tupI r), some (.int d), some (.int t), none, none, none, none, none, none] h = .ok (.nx, [some (.ref 0), some (.ref b), x, some (.int l), some (.int m), some (tupI r), some (.int g), some (.int t), some (.int u), some (.int v), none, none, none, none], h') ∧ 1 ≤ u ∧ u ≤ 4 ∧ -big ≤ g ∧ g ≤ big ∧ -1 ≤ v ∧ v ≤ 3 ∧ Hb b c h' := by
  obtain ⟨u, h1, e1, u0, u1, q1⟩ := s_drawS q (n := 4) (by decide) (by decide)
  obtain ⟨g, h2, e2, g0, g1, q2⟩ := s_great q1.bag
  obtain ⟨w, h4, e4, hl, q4⟩ := s_pickL q2.bag [.int 2, .int (-1), .int 3] (by simp) (by simp)
  have : ∃ m, w = .int m ∧ -1 ≤ m ∧ m ≤ 3 := by
    simp at hl
    rcases hl with rfl | rfl | rfl <;> exact ⟨_, rfl, by omega, by omega⟩
  obtain ⟨v, rfl, t1, t2⟩ := this
  refine ⟨1 + u, g, v, h4, ?_, by omega, by omega, g0, g1, t1, t2, q4.bag⟩
  simp -implicitDefEqProofs [LW, S7_law, e1, e2, e4]
theorem law_s6 {h : VH} {b c : Nat} (q : Hb b c h) (x : Option D) (r : List Int) (l m t : Int) {u g v : Int} (u0 : 1 ≤ u) (u1 : u ≤ 4) (g0 : -big ≤ g) (g1 : g ≤ big) (v0 : -1 ≤ v) (v1 : v ≤ 3) : ∃ r' h', LW S6_law [some (.ref 0), some (.ref b), x, some (.int l), some (.int m), some (tupI r), some (.int g), some (.int t), some (.int u), some (.int v), none, none, none, none] h = .ok (.nx, [some (.ref 0), some (.ref b), x, some (.int l), some (.int m), some (tupI r'), some (.int g), some (.int t), some (.int u), some (.int v), none, none, none, none], h') ∧ Fits r' ∧ Hb b c h' := by
  obtain ⟨p, h1, e1, p0, p1, q1⟩ := s_drawS q (n := 4) (by decide) (by decide)
  have m1 := dMul_rep (g + 1) u u0 (by omega)
  have m2 := dMul_rep g (1 + p) (by omega) (by omega)
  have m3 := dMul_rep (g + v) u u0 (by omega)
  have bg := big_ge'
  have len : ∀ k y, (List.replicate k (y : Int)).length = k := fun _ _ => List.length_replicate
  refine ⟨List.replicate u.toNat (g + 1) ++ List.replicate (1 + p).toNat g ++ [g + 1] ++ List.replicate u.toNat (g + v), h1, ?_, ⟨by simp; omega, fun y hy => ?_⟩, q1.bag⟩
  · have n1 : (List.replicate u.toNat (g + 1)).length ≤ 4 := by simp; omega
    have n2 : (List.replicate (1 + p).toNat g).length ≤ 4 := by simp; omega
    have n3 : (List.replicate u.toNat (g + v)).length ≤ 4 := by simp; omega
    generalize List.replicate u.toNat (g + 1) = r1 at *
    generalize List.replicate (1 + p).toNat g = r2 at *
    generalize List.replicate u.toNat (g + v) = r3 at *
    have z1 : r1.length + r2.length ≤ sizeLine := le_line (by omega)
    have z2 : r1.length + r2.length + 1 ≤ sizeLine := le_line (by omega)
    have z3 : r1.length + (r2.length + 1) + r3.length ≤ sizeLine := le_line (by omega)
    simp -implicitDefEqProofs [LW, S6_law, e1, m1, m2, m3, tupI, z1, z2, z3]
  · simp only [List.mem_append, List.mem_replicate, List.mem_singleton] at hy
    omega
theorem law_s5 {h : VH} {b c : Nat} (q : Hb b c h) (x : Option D) {r' : List Int} (f : Fits r') (l m t g u v : Int) : ∃ h', LW S5_law [some (.ref 0), some (.ref b), x, some (.int l), some (.int m), some (tupI r'), some (.int g), some (.int t), some (.int u), some (.int v), none, none, none, none] h = .ok (.nx, [some (.ref 0), some (.ref b), x, some (.int l), some (.int m), some (tupI r'), some (.int g), some (.int t), some (.int u), some (.int v), none, none, none, none], h') ∧ Hb b c h' := by
  obtain ⟨h5, e5, k5⟩ := s_right f true h
  refine ⟨h5, ?_, (q.grow k5).bag⟩
  simp -implicitDefEqProofs [LW, S5_law, e5]
theorem law_s4 {h : VH} {b c : Nat} (q : Hb b c h) (x : Option D) (r' : List Int) (l m t g u v : Int) : ∃ i j h', LW S4_law [some (.ref 0), some (.ref b), x, some (.int l), some (.int m), some (tupI r'), some (.int g), some (.int t), some (.int u), some (.int v), none, none, none, none] h = .ok (.nx, [some (.ref 0), some (.ref b), some (.int i), some (.int l), some (.int m), some (tupI r'), some (.int g), some (.int t), some (.int u), some (.int v), some (.int j), none, none, none], h') ∧ 1 ≤ i ∧ i ≤ 10 ∧ 0 ≤ j ∧ j ≤ 1000000 ∧ Hb b c h' := by
  obtain ⟨i, h1, e1, i0, i1, q1⟩ := s_drawS q (n := 10) (by decide) (by decide)
  obtain ⟨j, h2, e2, j0, j1, q2⟩ := s_drawS q1.bag (n := 1000001) (by decide) (by decide)
  refine ⟨1 + i, j, h2, ?_, by omega, by omega, j0, by omega, q2.bag⟩
  simp -implicitDefEqProofs [LW, S4_law, e1, e2, aPow6]
theorem s_stepI {i : Int} (h1 : 1 ≤ i) (h2 : i ≤ 1000) (t : Int) (h : VH) : ∃ h', F_step_row [.int i, .int t] h = .ok (tupI (stepRow i t), h') := by
  obtain ⟨g, e⟩ := x_step_row h i t h1 h2
  exact ⟨_, e⟩
theorem s_stepsI {i : Int} (h1 : 1 ≤ i) (h2 : i ≤ 1000) (t : Int) (h : VH) : ∃ h', F_law_steps [.int i, .int t] h = .ok (tupI (stepRow i t), h') := by
  obtain ⟨g, e⟩ := x_law_steps h i t h1 h2
  exact ⟨_, e⟩
theorem law_end (h : VH) (b : Nat) (x : Option D) (r' : List Int) (l m t g u v : Int) {i j : Int} (i0 : 1 ≤ i) (i1 : i ≤ 10) (j0 : 0 ≤ j) (j1 : j ≤ 1000000) :
    ∃ h', (vSeq (LW S3_law) (vSeq (LW S2_law) (vSeq (LW S1_law) (vRet (vAnd (vOp dEq (vBl bRepr (vCons (vVar 11) vNil)) (vVar 12)) (vOp dEq (vBl bRepr (vCons (vCall 2 F_step_row (vCons (vVar 2) (vCons (vVar 10) vNil))) vNil)) (vVar 12))))))) [some (.ref 0), some (.ref b), some (.int i), some (.int l), some (.int m), some (tupI r'), some (.int g), some (.int t), some (.int u), some (.int v), some (.int j), none, none, none] h = .ok (.rt (.bl true), [some (.ref 0), some (.ref b), some (.int i), some (.int l), some (.int m), some (tupI r'), some (.int g), some (.int t), some (.int u), some (.int v), some (.int j), some (tupI (stepRow i j)), some (.str (rowP (stepRow i j)).shown), none], h') := by
  obtain ⟨h1, e1⟩ := s_stepI i0 (by omega) j h
  obtain ⟨h2, e2⟩ := s_stepI (i := 11 - i) (by omega) (by omega) j h1
  obtain ⟨h3, e3⟩ := s_stepsI i0 (by omega) j h2
  obtain ⟨h4, e4⟩ := s_stepI i0 (by omega) j h3
  have f : Fits (stepRow i j) := by
    have := step_fits (n := i.toNat) (t := j) (by omega) (by omega) j0 (by omega)
    rwa [show ((i.toNat : Nat) : Int) = i by omega] at this
  have rr := repr_row f
  refine ⟨h4, ?_⟩
  generalize stepRow i j = w at *
  simp -implicitDefEqProofs [LW, S3_law, S2_law, S1_law, e1, e2, e3, e4, rr]
theorem law_true (ns : List Int) (hn : ns.length ≤ 63) : ∃ h', F_law [.ref 0] (scriptH ns) = .ok (.bl true, h') := by
  obtain ⟨b, c, h0, e0, q⟩ := s_own_bag ns hn
  have e0 : F_law_own_bag [.ref 0] (scriptH ns) = .ok (.ref b, h0) := e0
  have f0 : LW S13_law [some (.ref 0), none, none, none, none, none, none, none, none, none, none, none, none, none] (scriptH ns) = .ok (.nx, [some (.ref 0), some (.ref b), none, none, none, none, none, none, none, none, none, none, none, none], h0) := by
    simp -implicitDefEqProofs [LW, S13_law, e0]
  obtain ⟨x, h1, e1, q⟩ := law_l3 q
  obtain ⟨l, h2, e2, l0, l1, q⟩ := law_s12 q x
  obtain ⟨y, h3, e3, q⟩ := law_l2 q x l0 l1
  obtain ⟨z, h4, e4, q⟩ := law_l1 q x y (l := l)
  obtain ⟨m, d, h5, e5, m0, m1, d0, d1, q⟩ := law_s11 q x y z l
  obtain ⟨t, h6, e6, q⟩ := law_s10 q x z l m d
  obtain ⟨r, h7, e7, f, q⟩ := law_s9 q x z l t m0 m1 d0 d1
  obtain ⟨h8, e8, q⟩ := law_s8 q x f l m d t
  obtain ⟨u, g, v, h9, e9, u0, u1, g0, g1, v0, v1, q⟩ := law_s7 q x r l m d t
  obtain ⟨r', h10, e10, f', q⟩ := law_s6 q x r l m t u0 u1 g0 g1 v0 v1
  obtain ⟨h11, e11, q⟩ := law_s5 q x f' l m t g u v
  obtain ⟨i, j, h12, e12, i0, i1, j0, j1, q⟩ := law_s4 q x r' l m t g u v
  obtain ⟨h13, e13⟩ := law_end h12 b x r' l m t g u v i0 i1 j0 j1
  refine ⟨h13, ?_⟩
  unfold F_law
  refine mF_rt (s' := [some (.ref 0), some (.ref b), some (.int i), some (.int l), some (.int m), some (tupI r'), some (.int g), some (.int t), some (.int u), some (.int v), some (.int j), some (tupI (stepRow i j)), some (.str (rowP (stepRow i j)).shown), none]) ?_
  show m_law _ _ _ _ _ _ _ _ _ _ [some (.ref 0), none, none, none, none, none, none, none, none, none, none, none, none, none] (scriptH ns) = _
  unfold m_law
  rw [seq_nx f0, seq_nx e1, seq_nx e2, seq_nx e3, seq_nx e4, seq_nx e5, seq_nx e6, seq_nx e7, seq_nx e8, seq_nx e9, seq_nx e10, seq_nx e11, seq_nx e12]
  exact e13
end K72

namespace K72
open PySem PySem.Spec PyProof.Rows L2 Vq
theorem all_mk {w : World} {K : PySem.W.Frag} {h : Heap} {mg : Str → Option Value} {fa : Addr} (X : K.In h) (G : h.Ns mainGlobals mg) (hfa : mg "law" = some (.ref fa))
    {f0 f1 f2 f3 f4 f5 f6 f7 f8 f9 f10 f11 f12 f13 f14 f15 f16 f17 f18 : Addr} {od0 od1 od2 od3 od4 od5 od6 od7 od8 od9 od10 od11 od12 od13 od14 od15 od16 od17 od18 an0 an1 an2 an3 an4 an5 an6 an7 an8 an9 an10 an11 an12 an13 an14 an15 an16 an17 an18 : Option Addr} {sl0 sl1 sl2 sl3 sl4 sl5 sl6 sl7 sl8 sl9 sl10 sl11 sl12 sl13 sl14 sl15 sl16 sl17 sl18 : Array (Option Value)} {oc0 kV0 dc0 pm0 cd0 ct0 oc1 kV1 dc1 pm1 cd1 ct1 oc2 kV2 dc2 pm2 cd2 ct2 oc3 kV3 dc3 pm3 cd3 ct3 oc4 kV4 dc4 pm4 cd4 ct4 oc5 kV5 dc5 pm5 cd5 ct5 oc6 kV6 dc6 pm6 cd6 ct6 oc7 kV7 dc7 pm7 cd7 ct7 oc8 kV8 dc8 pm8 cd8 ct8 oc9 kV9 dc9 pm9 cd9 ct9 oc10 kV10 dc10 pm10 cd10 ct10 oc11 kV11 dc11 pm11 cd11 ct11 oc12 kV12 dc12 pm12 cd12 ct12 oc13 kV13 dc13 pm13 cd13 ct13 oc14 kV14 dc14 pm14 cd14 ct14 oc15 kV15 dc15 pm15 cd15 ct15 oc16 kV16 dc16 pm16 cd16 ct16 oc17 kV17 dc17 pm17 cd17 ct17 oc18 kV18 dc18 pm18 cd18 ct18 : Value}
    (a0 : PySem.W.nsIn K mainGlobals "is_step_row" = some (some (.ref f0)))
    (l0 : K.lookup f0 = some ⟨oc0, od0, .func (PySem.W.fnOf "is_step_row" "is_step_row" (defArgs s_is_step_row) (defBody s_is_step_row) (defScope s_is_step_row) .none kV0 dc0 pm0 an0 cd0 ct0), sl0⟩)
    (c0 : PySem.W.codeIn K cd0 "is_step_row" = true) (k0 : PySem.W.keepIn K (.ref f0) = true)
    (a1 : PySem.W.nsIn K mainGlobals "step_row" = some (some (.ref f1)))
    (l1 : K.lookup f1 = some ⟨oc1, od1, .func (PySem.W.fnOf "step_row" "step_row" (defArgs s_step_row) (defBody s_step_row) (defScope s_step_row) .none kV1 dc1 pm1 an1 cd1 ct1), sl1⟩)
    (c1 : PySem.W.codeIn K cd1 "step_row" = true) (k1 : PySem.W.keepIn K (.ref f1) = true)
    (a2 : PySem.W.nsIn K mainGlobals "step_fault" = some (some (.ref f2)))
    (l2 : K.lookup f2 = some ⟨oc2, od2, .func (PySem.W.fnOf "step_fault" "step_fault" (defArgs s_step_fault) (defBody s_step_fault) (defScope s_step_fault) .none kV2 dc2 pm2 an2 cd2 ct2), sl2⟩)
    (c2 : PySem.W.codeIn K cd2 "step_fault" = true) (k2 : PySem.W.keepIn K (.ref f2) = true)
    (a3 : PySem.W.nsIn K mainGlobals "part_sums" = some (some (.ref f3)))
    (l3 : K.lookup f3 = some ⟨oc3, od3, .func (PySem.W.fnOf "part_sums" "part_sums" (defArgs s_part_sums) (defBody s_part_sums) (defScope s_part_sums) .none kV3 dc3 pm3 an3 cd3 ct3), sl3⟩)
    (c3 : PySem.W.codeIn K cd3 "part_sums" = true) (k3 : PySem.W.keepIn K (.ref f3) = true)
    (a4 : PySem.W.nsIn K mainGlobals "smooth_width" = some (some (.ref f4)))
    (l4 : K.lookup f4 = some ⟨oc4, od4, .func (PySem.W.fnOf "smooth_width" "smooth_width" (defArgs s_smooth_width) (defBody s_smooth_width) (defScope s_smooth_width) .none kV4 dc4 pm4 an4 cd4 ct4), sl4⟩)
    (c4 : PySem.W.codeIn K cd4 "smooth_width" = true) (k4 : PySem.W.keepIn K (.ref f4) = true)
    (a5 : PySem.W.nsIn K mainGlobals "_law_own_bag" = some (some (.ref f5)))
    (l5 : K.lookup f5 = some ⟨oc5, od5, .func (PySem.W.fnOf "_law_own_bag" "_law_own_bag" (defArgs s_law_own_bag) (defBody s_law_own_bag) (defScope s_law_own_bag) .none kV5 dc5 pm5 an5 cd5 ct5), sl5⟩)
    (c5 : PySem.W.codeIn K cd5 "_law_own_bag" = true) (k5 : PySem.W.keepIn K (.ref f5) = true)
    (a6 : PySem.W.nsIn K mainGlobals "_law_draw" = some (some (.ref f6)))
    (l6 : K.lookup f6 = some ⟨oc6, od6, .func (PySem.W.fnOf "_law_draw" "_law_draw" (defArgs s_law_draw) (defBody s_law_draw) (defScope s_law_draw) .none kV6 dc6 pm6 an6 cd6 ct6), sl6⟩)
    (c6 : PySem.W.codeIn K cd6 "_law_draw" = true) (k6 : PySem.W.keepIn K (.ref f6) = true)
    (a7 : PySem.W.nsIn K mainGlobals "_law_pick" = some (some (.ref f7)))
    (l7 : K.lookup f7 = some ⟨oc7, od7, .func (PySem.W.fnOf "_law_pick" "_law_pick" (defArgs s_law_pick) (defBody s_law_pick) (defScope s_law_pick) .none kV7 dc7 pm7 an7 cd7 ct7), sl7⟩)
    (c7 : PySem.W.codeIn K cd7 "_law_pick" = true) (k7 : PySem.W.keepIn K (.ref f7) = true)
    (a8 : PySem.W.nsIn K mainGlobals "_law_great" = some (some (.ref f8)))
    (l8 : K.lookup f8 = some ⟨oc8, od8, .func (PySem.W.fnOf "_law_great" "_law_great" (defArgs s_law_great) (defBody s_law_great) (defScope s_law_great) .none kV8 dc8 pm8 an8 cd8 ct8), sl8⟩)
    (c8 : PySem.W.codeIn K cd8 "_law_great" = true) (k8 : PySem.W.keepIn K (.ref f8) = true)
    (a9 : PySem.W.nsIn K mainGlobals "_law_steps" = some (some (.ref f9)))
    (l9 : K.lookup f9 = some ⟨oc9, od9, .func (PySem.W.fnOf "_law_steps" "_law_steps" (defArgs s_law_steps) (defBody s_law_steps) (defScope s_law_steps) .none kV9 dc9 pm9 an9 cd9 ct9), sl9⟩)
    (c9 : PySem.W.codeIn K cd9 "_law_steps" = true) (k9 : PySem.W.keepIn K (.ref f9) = true)
    (a10 : PySem.W.nsIn K mainGlobals "_law_fault" = some (some (.ref f10)))
    (l10 : K.lookup f10 = some ⟨oc10, od10, .func (PySem.W.fnOf "_law_fault" "_law_fault" (defArgs s_law_fault) (defBody s_law_fault) (defScope s_law_fault) .none kV10 dc10 pm10 an10 cd10 ct10), sl10⟩)
    (c10 : PySem.W.codeIn K cd10 "_law_fault" = true) (k10 : PySem.W.keepIn K (.ref f10) = true)
    (a11 : PySem.W.nsIn K mainGlobals "_law_parts" = some (some (.ref f11)))
    (l11 : K.lookup f11 = some ⟨oc11, od11, .func (PySem.W.fnOf "_law_parts" "_law_parts" (defArgs s_law_parts) (defBody s_law_parts) (defScope s_law_parts) .none kV11 dc11 pm11 an11 cd11 ct11), sl11⟩)
    (c11 : PySem.W.codeIn K cd11 "_law_parts" = true) (k11 : PySem.W.keepIn K (.ref f11) = true)
    (a12 : PySem.W.nsIn K mainGlobals "_law_width" = some (some (.ref f12)))
    (l12 : K.lookup f12 = some ⟨oc12, od12, .func (PySem.W.fnOf "_law_width" "_law_width" (defArgs s_law_width) (defBody s_law_width) (defScope s_law_width) .none kV12 dc12 pm12 an12 cd12 ct12), sl12⟩)
    (c12 : PySem.W.codeIn K cd12 "_law_width" = true) (k12 : PySem.W.keepIn K (.ref f12) = true)
    (a13 : PySem.W.nsIn K mainGlobals "_law_row" = some (some (.ref f13)))
    (l13 : K.lookup f13 = some ⟨oc13, od13, .func (PySem.W.fnOf "_law_row" "_law_row" (defArgs s_law_row) (defBody s_law_row) (defScope s_law_row) .none kV13 dc13 pm13 an13 cd13 ct13), sl13⟩)
    (c13 : PySem.W.codeIn K cd13 "_law_row" = true) (k13 : PySem.W.keepIn K (.ref f13) = true)
    (a14 : PySem.W.nsIn K mainGlobals "_law_is_row_right" = some (some (.ref f14)))
    (l14 : K.lookup f14 = some ⟨oc14, od14, .func (PySem.W.fnOf "_law_is_row_right" "_law_is_row_right" (defArgs s_law_is_row_right) (defBody s_law_is_row_right) (defScope s_law_is_row_right) .none kV14 dc14 pm14 an14 cd14 ct14), sl14⟩)
    (c14 : PySem.W.codeIn K cd14 "_law_is_row_right" = true) (k14 : PySem.W.keepIn K (.ref f14) = true)
    (a15 : PySem.W.nsIn K mainGlobals "_law_total" = some (some (.ref f15)))
    (l15 : K.lookup f15 = some ⟨oc15, od15, .func (PySem.W.fnOf "_law_total" "_law_total" (defArgs s_law_total) (defBody s_law_total) (defScope s_law_total) .none kV15 dc15 pm15 an15 cd15 ct15), sl15⟩)
    (c15 : PySem.W.codeIn K cd15 "_law_total" = true) (k15 : PySem.W.keepIn K (.ref f15) = true)
    (a16 : PySem.W.nsIn K mainGlobals "_law_are_steps_right" = some (some (.ref f16)))
    (l16 : K.lookup f16 = some ⟨oc16, od16, .func (PySem.W.fnOf "_law_are_steps_right" "_law_are_steps_right" (defArgs s_law_are_steps_right) (defBody s_law_are_steps_right) (defScope s_law_are_steps_right) .none kV16 dc16 pm16 an16 cd16 ct16), sl16⟩)
    (c16 : PySem.W.codeIn K cd16 "_law_are_steps_right" = true) (k16 : PySem.W.keepIn K (.ref f16) = true)
    (a17 : PySem.W.nsIn K mainGlobals "_law_are_counts_right" = some (some (.ref f17)))
    (l17 : K.lookup f17 = some ⟨oc17, od17, .func (PySem.W.fnOf "_law_are_counts_right" "_law_are_counts_right" (defArgs s_law_are_counts_right) (defBody s_law_are_counts_right) (defScope s_law_are_counts_right) .none kV17 dc17 pm17 an17 cd17 ct17), sl17⟩)
    (c17 : PySem.W.codeIn K cd17 "_law_are_counts_right" = true) (k17 : PySem.W.keepIn K (.ref f17) = true)
    (a18 : PySem.W.nsIn K mainGlobals "law" = some (some (.ref f18)))
    (l18 : K.lookup f18 = some ⟨oc18, od18, .func (PySem.W.fnOf "law" "law" (defArgs s_law) (defBody s_law) (defScope s_law) .none kV18 dc18 pm18 an18 cd18 ct18), sl18⟩)
    (c18 : PySem.W.codeIn K cd18 "law" = true) (k18 : PySem.W.keepIn K (.ref f18) = true)
    (z_abs : PySem.W.nsIn K mainGlobals "abs" = some none)
    (z_all : PySem.W.nsIn K mainGlobals "all" = some none)
    (z_enumerate : PySem.W.nsIn K mainGlobals "enumerate" = some none)
    (z_int : PySem.W.nsIn K mainGlobals "int" = some none)
    (z_len : PySem.W.nsIn K mainGlobals "len" = some none)
    (z_list : PySem.W.nsIn K mainGlobals "list" = some none)
    (z_max : PySem.W.nsIn K mainGlobals "max" = some none)
    (z_min : PySem.W.nsIn K mainGlobals "min" = some none)
    (z_range : PySem.W.nsIn K mainGlobals "range" = some none)
    (z_repr : PySem.W.nsIn K mainGlobals "repr" = some none)
    (z_reversed : PySem.W.nsIn K mainGlobals "reversed" = some none)
    (z_sum : PySem.W.nsIn K mainGlobals "sum" = some none)
    (z_tuple : PySem.W.nsIn K mainGlobals "tuple" = some none)
    (z_zip : PySem.W.nsIn K mainGlobals "zip" = some none)
    : ∃ fd : FuncData, (∀ u : Value, bindArgs fd ⟨[u], []⟩ = (pure [(("script" : Str), u)] : Sem _)) ∧ ∀ base : Heap, K.In base → base.Ns mainGlobals mg → FnG PySem.Challenge.pw_comparenets_k72_whole_step_rows_told w K mg base 5 fa fd ["script"] F_law := by
  have e := hfa.symm.trans (PySem.W.mg_of X G a18)
  cases e
  have h0 := fun_mk (st := s_is_step_row) l0 c0 k0
  have h1 := fun_mk (st := s_step_row) l1 c1 k1
  have h2 := fun_mk (st := s_step_fault) l2 c2 k2
  have h3 := fun_mk (st := s_part_sums) l3 c3 k3
  have h4 := fun_mk (st := s_smooth_width) l4 c4 k4
  have h5 := fun_mk (st := s_law_own_bag) l5 c5 k5
  have h6 := fun_mk (st := s_law_draw) l6 c6 k6
  have h7 := fun_mk (st := s_law_pick) l7 c7 k7
  have h8 := fun_mk (st := s_law_great) l8 c8 k8
  have h9 := fun_mk (st := s_law_steps) l9 c9 k9
  have h10 := fun_mk (st := s_law_fault) l10 c10 k10
  have h11 := fun_mk (st := s_law_parts) l11 c11 k11
  have h12 := fun_mk (st := s_law_width) l12 c12 k12
  have h13 := fun_mk (st := s_law_row) l13 c13 k13
  have h14 := fun_mk (st := s_law_is_row_right) l14 c14 k14
  have h15 := fun_mk (st := s_law_total) l15 c15 k15
  have h16 := fun_mk (st := s_law_are_steps_right) l16 c16 k16
  have h17 := fun_mk (st := s_law_are_counts_right) l17 c17 k17
  have h18 := fun_mk (st := s_law) l18 c18 k18
  let T : Txt K mg := {
    a_is_step_row := f0
    d_is_step_row := _
    g_is_step_row := PySem.W.mg_of X G a0
    k_is_step_row := k0
    f_is_step_row := h0
    b_is_step_row := bindP_of h0 fun _ _ _ _ _ _ us hl => match us, hl with | [_], _ => rfl
    a_step_row := f1
    d_step_row := _
    g_step_row := PySem.W.mg_of X G a1
    k_step_row := k1
    f_step_row := h1
    b_step_row := bindP_of h1 fun _ _ _ _ _ _ us hl => match us, hl with | [_, _], _ => rfl
    a_step_fault := f2
    d_step_fault := _
    g_step_fault := PySem.W.mg_of X G a2
    k_step_fault := k2
    f_step_fault := h2
    b_step_fault := bindP_of h2 fun _ _ _ _ _ _ us hl => match us, hl with | [_], _ => rfl
    a_part_sums := f3
    d_part_sums := _
    g_part_sums := PySem.W.mg_of X G a3
    k_part_sums := k3
    f_part_sums := h3
    b_part_sums := bindP_of h3 fun _ _ _ _ _ _ us hl => match us, hl with | [_], _ => rfl
    a_smooth_width := f4
    d_smooth_width := _
    g_smooth_width := PySem.W.mg_of X G a4
    k_smooth_width := k4
    f_smooth_width := h4
    b_smooth_width := bindP_of h4 fun _ _ _ _ _ _ us hl => match us, hl with | [_], _ => rfl
    a_law_own_bag := f5
    d_law_own_bag := _
    g_law_own_bag := PySem.W.mg_of X G a5
    k_law_own_bag := k5
    f_law_own_bag := h5
    b_law_own_bag := bindP_of h5 fun _ _ _ _ _ _ us hl => match us, hl with | [_], _ => rfl
    a_law_draw := f6
    d_law_draw := _
    g_law_draw := PySem.W.mg_of X G a6
    k_law_draw := k6
    f_law_draw := h6
    b_law_draw := bindP_of h6 fun _ _ _ _ _ _ us hl => match us, hl with | [_, _], _ => rfl
    a_law_pick := f7
    d_law_pick := _
    g_law_pick := PySem.W.mg_of X G a7
    k_law_pick := k7
    f_law_pick := h7
    b_law_pick := bindP_of h7 fun _ _ _ _ _ _ us hl => match us, hl with | [_, _], _ => rfl
    a_law_great := f8
    d_law_great := _
    g_law_great := PySem.W.mg_of X G a8
    k_law_great := k8
    f_law_great := h8
    b_law_great := bindP_of h8 fun _ _ _ _ _ _ us hl => match us, hl with | [_], _ => rfl
    a_law_steps := f9
    d_law_steps := _
    g_law_steps := PySem.W.mg_of X G a9
    k_law_steps := k9
    f_law_steps := h9
    b_law_steps := bindP_of h9 fun _ _ _ _ _ _ us hl => match us, hl with | [_, _], _ => rfl
    a_law_fault := f10
    d_law_fault := _
    g_law_fault := PySem.W.mg_of X G a10
    k_law_fault := k10
    f_law_fault := h10
    b_law_fault := bindP_of h10 fun _ _ _ _ _ _ us hl => match us, hl with | [_], _ => rfl
    a_law_parts := f11
    d_law_parts := _
    g_law_parts := PySem.W.mg_of X G a11
    k_law_parts := k11
    f_law_parts := h11
    b_law_parts := bindP_of h11 fun _ _ _ _ _ _ us hl => match us, hl with | [_], _ => rfl
    a_law_width := f12
    d_law_width := _
    g_law_width := PySem.W.mg_of X G a12
    k_law_width := k12
    f_law_width := h12
    b_law_width := bindP_of h12 fun _ _ _ _ _ _ us hl => match us, hl with | [_], _ => rfl
    a_law_row := f13
    d_law_row := _
    g_law_row := PySem.W.mg_of X G a13
    k_law_row := k13
    f_law_row := h13
    b_law_row := bindP_of h13 fun _ _ _ _ _ _ us hl => match us, hl with | [_, _], _ => rfl
    a_law_is_row_right := f14
    d_law_is_row_right := _
    g_law_is_row_right := PySem.W.mg_of X G a14
    k_law_is_row_right := k14
    f_law_is_row_right := h14
    b_law_is_row_right := bindP_of h14 fun _ _ _ _ _ _ us hl => match us, hl with | [_, _], _ => rfl
    a_law_total := f15
    d_law_total := _
    g_law_total := PySem.W.mg_of X G a15
    k_law_total := k15
    f_law_total := h15
    b_law_total := bindP_of h15 fun _ _ _ _ _ _ us hl => match us, hl with | [_, _], _ => rfl
    a_law_are_steps_right := f16
    d_law_are_steps_right := _
    g_law_are_steps_right := PySem.W.mg_of X G a16
    k_law_are_steps_right := k16
    f_law_are_steps_right := h16
    b_law_are_steps_right := bindP_of h16 fun _ _ _ _ _ _ us hl => match us, hl with | [_, _], _ => rfl
    a_law_are_counts_right := f17
    d_law_are_counts_right := _
    g_law_are_counts_right := PySem.W.mg_of X G a17
    k_law_are_counts_right := k17
    f_law_are_counts_right := h17
    b_law_are_counts_right := bindP_of h17 fun _ _ _ _ _ _ us hl => match us, hl with | [_, _], _ => rfl
    a_law := fa
    d_law := _
    g_law := PySem.W.mg_of X G a18
    k_law := k18
    f_law := h18
    b_law := bindP_of h18 fun _ _ _ _ _ _ us hl => match us, hl with | [_], _ => rfl
    n_abs := PySem.W.mg_none_of X G z_abs
    n_all := PySem.W.mg_none_of X G z_all
    n_enumerate := PySem.W.mg_none_of X G z_enumerate
    n_int := PySem.W.mg_none_of X G z_int
    n_len := PySem.W.mg_none_of X G z_len
    n_list := PySem.W.mg_none_of X G z_list
    n_max := PySem.W.mg_none_of X G z_max
    n_min := PySem.W.mg_none_of X G z_min
    n_range := PySem.W.mg_none_of X G z_range
    n_repr := PySem.W.mg_none_of X G z_repr
    n_reversed := PySem.W.mg_none_of X G z_reversed
    n_sum := PySem.W.mg_none_of X G z_sum
    n_tuple := PySem.W.mg_none_of X G z_tuple
    n_zip := PySem.W.mg_none_of X G z_zip
  }
  exact ⟨T.d_law, fun u => rfl, fun base _ _ => chain (base := base) T⟩
end K72
open PySem PySem.W PyProof.Rows
set_option maxHeartbeats 0 in
theorem PySem.Challenge.cw_comparenets_k72_whole_step_rows_told_holds : PySem.Challenge.rw_comparenets_k72_whole_step_rows_told.Holds := by
  w_on; o_law; k_head; (case hw => w_witness2)
  k_fill
  refine Vq.walkG (l := PySem.Challenge.rw_comparenets_k72_whole_step_rows_told) (n := 63) (k := 5) (x := "script") (F := K72.F_law) rfl (by decide) rfl ⟨rfl, by decide, by decide⟩ (fun w h Y => PySem.W.kIn_of Y) ?G (fun ns hl => K72.law_true ns hl)
  case G =>
    intro w mg fa h KX G hmg
    refine' K72.all_mk KX G hmg ?a0 ?l0 ?c0 ?k0 ?a1 ?l1 ?c1 ?k1 ?a2 ?l2 ?c2 ?k2 ?a3 ?l3 ?c3 ?k3 ?a4 ?l4 ?c4 ?k4 ?a5 ?l5 ?c5 ?k5 ?a6 ?l6 ?c6 ?k6 ?a7 ?l7 ?c7 ?k7 ?a8 ?l8 ?c8 ?k8 ?a9 ?l9 ?c9 ?k9 ?a10 ?l10 ?c10 ?k10 ?a11 ?l11 ?c11 ?k11 ?a12 ?l12 ?c12 ?k12 ?a13 ?l13 ?c13 ?k13 ?a14 ?l14 ?c14 ?k14 ?a15 ?l15 ?c15 ?k15 ?a16 ?l16 ?c16 ?k16 ?a17 ?l17 ?c17 ?k17 ?a18 ?l18 ?c18 ?k18 ?z_abs ?z_all ?z_enumerate ?z_int ?z_len ?z_list ?z_max ?z_min ?z_range ?z_repr ?z_reversed ?z_sum ?z_tuple ?z_zip
    (case a0 => k_is)
    (case l0 => k_is)
    (case c0 => k_is)
    (case k0 => k_is)
    (case a1 => k_is)
    (case l1 => k_is)
    (case c1 => k_is)
    (case k1 => k_is)
    (case a2 => k_is)
    (case l2 => k_is)
    (case c2 => k_is)
    (case k2 => k_is)
    (case a3 => k_is)
    (case l3 => k_is)
    (case c3 => k_is)
    (case k3 => k_is)
    (case a4 => k_is)
    (case l4 => k_is)
    (case c4 => k_is)
    (case k4 => k_is)
    (case a5 => k_is)
    (case l5 => k_is)
    (case c5 => k_is)
    (case k5 => k_is)
    (case a6 => k_is)
    (case l6 => k_is)
    (case c6 => k_is)
    (case k6 => k_is)
    (case a7 => k_is)
    (case l7 => k_is)
    (case c7 => k_is)
    (case k7 => k_is)
    (case a8 => k_is)
    (case l8 => k_is)
    (case c8 => k_is)
    (case k8 => k_is)
    (case a9 => k_is)
    (case l9 => k_is)
    (case c9 => k_is)
    (case k9 => k_is)
    (case a10 => k_is)
    (case l10 => k_is)
    (case c10 => k_is)
    (case k10 => k_is)
    (case a11 => k_is)
    (case l11 => k_is)
    (case c11 => k_is)
    (case k11 => k_is)
    (case a12 => k_is)
    (case l12 => k_is)
    (case c12 => k_is)
    (case k12 => k_is)
    (case a13 => k_is)
    (case l13 => k_is)
    (case c13 => k_is)
    (case k13 => k_is)
    (case a14 => k_is)
    (case l14 => k_is)
    (case c14 => k_is)
    (case k14 => k_is)
    (case a15 => k_is)
    (case l15 => k_is)
    (case c15 => k_is)
    (case k15 => k_is)
    (case a16 => k_is)
    (case l16 => k_is)
    (case c16 => k_is)
    (case k16 => k_is)
    (case a17 => k_is)
    (case l17 => k_is)
    (case c17 => k_is)
    (case k17 => k_is)
    (case a18 => k_is)
    (case l18 => k_is)
    (case c18 => k_is)
    (case k18 => k_is)
    (case z_abs => k_is)
    (case z_all => k_is)
    (case z_enumerate => k_is)
    (case z_int => k_is)
    (case z_len => k_is)
    (case z_list => k_is)
    (case z_max => k_is)
    (case z_min => k_is)
    (case z_range => k_is)
    (case z_repr => k_is)
    (case z_reversed => k_is)
    (case z_sum => k_is)
    (case z_tuple => k_is)
    (case z_zip => k_is)

