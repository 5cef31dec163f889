import PyProof.Rows.All
import Wide.All
import OpenK.AllK
import Wide.FinOn
import HandS.ForMost
import HandS.ForExc
import HandS.TupAny
import HandS.Wide
import HandS.WideBits
import HandS.Zip
import KE.GoesMore
import KE.GoesEnum
import KE.DataMinMax
import HandS.RevTup
import HandS.Rev
import HandS.TupMul
import HandS.Style
import HandS.Text
import HandS.SortInts
import HandS.SortRule
import HandS.Conv
import HandS.SetFor
import HandS.More
import PyProof.AutoSeq1
import HandS.IsInst
import HandS.Strs
import PySem.Challenge.RW_comparenets_k03_whole_standard_by_names
set_option linter.all false
set_option autoImplicit false
set_option maxRecDepth 100000
set_option maxHeartbeats 4000000
set_option Elab.async false
/-! Part 1: values, results, denotations, and how they lie in the abstract heap. -/
namespace Vq
open PySem L2

inductive D where
  | non
  | bl (b : Bool)
  | int (i : Int)
  | str (s : Str)
  | tup (l : List D)
  | ref (n : Nat)
  | ftup (l : List D)

inductive Cell where
  | lst (l : List D)
  | ro (l : List D)

abbrev VH := List Cell
abbrev VS := List (Option D)

structure Exn where
  cls : Str
  fs : List (Str × D)

inductive Res (α : Type) where
  | ok (a : α)
  | ex (x : Exn) (s : VS) (h : VH)
  | bad
instance {α : Type} : Inhabited (Res α) := ⟨.bad⟩

def Res.bind {α β : Type} (r : Res α) (f : α → Res β) : Res β :=
  match r with
  | .ok a => f a
  | .ex x s h => .ex x s h
  | .bad => .bad
@[simp] theorem Res.ok_bind {α β : Type} (a : α) (f : α → Res β) : (Res.ok a).bind f = f a := rfl
@[simp] theorem Res.ex_bind {α β : Type} (x : Exn) (s : VS) (h : VH) (f : α → Res β) : (Res.ex x s h : Res α).bind f = .ex x s h := rfl
@[simp] theorem Res.bad_bind {α β : Type} (f : α → Res β) : (Res.bad : Res α).bind f = .bad := rfl

inductive Out where
  | nx
  | rt (d : D)
  | bk
  | ct

abbrev VE := VS → VH → Res (D × VH)
abbrev VT := VS → VH → Res (Bool × VH)
abbrev VA := VS → VH → Res (List D × VH)
abbrev VSt := VS → VH → Res (Out × VS × VH)
abbrev VG := D → VS → VH → Res (VS × VH)
abbrev Fn := List D → VH → Res (D × VH)

/-! ### worlds -/
structure Wd where
  ι : Nat → Addr
  h : VH
  H : Hp

/-- a tuple whose object is known -/
def TpL (H : Hp) (a : Addr) (vs : List V) : Prop := ∃ ob, H a = some (.frz ob (.tup vs)) ∧ ob.cls = .type "tuple" ∧ ob.dict = none
theorem TpL.sq {K : PySem.W.Frag} {H : Hp} {a : Addr} {vs : List V} (h : TpL H a vs) : SqT K H a vs := h.elim fun ob h => .inl (.inr ⟨ob, h.1⟩)
mutual
inductive RepV (K : PySem.W.Frag) (ι : Nat → Addr) (n : Nat) (H : Hp) : D → V → Prop where
  | non : RepV K ι n H .non .non
  | bl (b : Bool) : RepV K ι n H (.bl b) (.bl b)
  | int (i : Int) : RepV K ι n H (.int i) (.int i)
  | str (s : Str) : RepV K ι n H (.str s) (.str s)
  | tup {a : Addr} {vs : List V} {ds : List D} (h : SqT K H a vs) (r : RepL K ι n H ds vs) : RepV K ι n H (.tup ds) (.ref a)
  | ref {k : Nat} (h : k < n) : RepV K ι n H (.ref k) (.ref (ι k))
  | ftup {a : Addr} {vs : List V} {ds : List D} (h : TpL H a vs) (r : RepL K ι n H ds vs) : RepV K ι n H (.ftup ds) (.ref a)
inductive RepL (K : PySem.W.Frag) (ι : Nat → Addr) (n : Nat) (H : Hp) : List D → List V → Prop where
  | nil : RepL K ι n H [] []
  | cons {d : D} {ds : List D} {v : V} {vs : List V} (h : RepV K ι n H d v) (r : RepL K ι n H ds vs) : RepL K ι n H (d :: ds) (v :: vs)
end

/-- a list that nobody writes to -/
def RoL (K : PySem.W.Frag) (H : Hp) (a : Addr) (vs : List V) : Prop :=
  (∃ ob, H a = some (.frz ob (.lst vs))) ∨
    ∃ (o : Obj) (its : Array Value) (n : Nat), K.lookup a = some o ∧ o.cls = .type "list" ∧ o.dict = none ∧ o.data = .seq its n ∧ its.size ≤ sizeLine ∧ Vals vs its.toList
theorem RoL.sq {K : PySem.W.Frag} {H : Hp} {a : Addr} {vs : List V} (h : RoL K H a vs) : SqL K H a vs := h.elim (fun q => .inl (.inr q)) .inr
def Cell.mut : Cell → Bool
  | .lst _ => true
  | .ro _ => false

def RepC (K : PySem.W.Frag) (ι : Nat → Addr) (n : Nat) (H : Hp) (c : Cell) (a : Addr) : Prop :=
  match c with
  | .lst ds => ∃ vs, H a = some (.lst vs) ∧ RepL K ι n H ds vs
  | .ro ds => ∃ vs, RoL K H a vs ∧ RepL K ι n H ds vs

abbrev Rp (K : PySem.W.Frag) (w : Wd) : D → V → Prop := RepV K w.ι w.h.length w.H
abbrev Rps (K : PySem.W.Frag) (w : Wd) : List D → List V → Prop := RepL K w.ι w.h.length w.H

structure Wd.Ok (K : PySem.W.Frag) (w : Wd) : Prop where
  cell : ∀ n c, w.h[n]? = some c → RepC K w.ι w.h.length w.H c (w.ι n)
  inj : ∀ n m c e, w.h[n]? = some c → w.h[m]? = some e → c.mut = true → e.mut = true → w.ι n = w.ι m → n = m

structure Wd.Ext (K : PySem.W.Frag) (w w' : Wd) : Prop where
  len : w.h.length ≤ w'.h.length
  ι : ∀ n, n < w.h.length → w'.ι n = w.ι n
  tup : ∀ a vs, SqT K w.H a vs → SqT K w'.H a vs
  tp : ∀ a vs, TpL w.H a vs → TpL w'.H a vs

theorem Wd.Ext.refl {K : PySem.W.Frag} (w : Wd) : Wd.Ext K w w := ⟨Nat.le_refl _, fun _ _ => rfl, fun _ _ h => h, fun _ _ h => h⟩
theorem Wd.Ext.trans {K : PySem.W.Frag} {a b c : Wd} (x : Wd.Ext K a b) (y : Wd.Ext K b c) : Wd.Ext K a c :=
  ⟨Nat.le_trans x.len y.len, fun n h => (y.ι n (Nat.lt_of_lt_of_le h x.len)).trans (x.ι n h), fun q vs h => y.tup q vs (x.tup q vs h), fun q vs h => y.tp q vs (x.tp q vs h)⟩

mutual
theorem RepV.ext {K : PySem.W.Frag} {ι ι' : Nat → Addr} {n n' : Nat} {H H' : Hp} (hn : n ≤ n') (hι : ∀ k, k < n → ι' k = ι k) (ht : ∀ a vs, SqT K H a vs → SqT K H' a vs) (hf : ∀ a vs, TpL H a vs → TpL H' a vs) :
    ∀ {d : D} {v : V}, RepV K ι n H d v → RepV K ι' n' H' d v
  | _, _, .non => .non
  | _, _, .bl b => .bl b
  | _, _, .int i => .int i
  | _, _, .str s => .str s
  | _, _, .tup h r => .tup (ht _ _ h) (RepL.ext hn hι ht hf r)
  | _, _, .ftup h r => .ftup (hf _ _ h) (RepL.ext hn hι ht hf r)
  | _, _, .ref h => by
    rw [← hι _ h]
    exact .ref (Nat.lt_of_lt_of_le h hn)
theorem RepL.ext {K : PySem.W.Frag} {ι ι' : Nat → Addr} {n n' : Nat} {H H' : Hp} (hn : n ≤ n') (hι : ∀ k, k < n → ι' k = ι k) (ht : ∀ a vs, SqT K H a vs → SqT K H' a vs) (hf : ∀ a vs, TpL H a vs → TpL H' a vs) :
    ∀ {d : List D} {v : List V}, RepL K ι n H d v → RepL K ι' n' H' d v
  | _, _, .nil => .nil
  | _, _, .cons h r => .cons (RepV.ext hn hι ht hf h) (RepL.ext hn hι ht hf r)
end
theorem Wd.Ext.rp {K : PySem.W.Frag} {w w' : Wd} (x : Wd.Ext K w w') {d : D} {v : V} (h : Rp K w d v) : Rp K w' d v := RepV.ext x.len x.ι x.tup x.tp h
theorem Wd.Ext.rps {K : PySem.W.Frag} {w w' : Wd} (x : Wd.Ext K w w') {d : List D} {v : List V} (h : Rps K w d v) : Rps K w' d v := RepL.ext x.len x.ι x.tup x.tp h

theorem RepL.length {K : PySem.W.Frag} {ι : Nat → Addr} {n : Nat} {H : Hp} : ∀ {ds : List D} {vs : List V}, RepL K ι n H ds vs → ds.length = vs.length
  | _, _, .nil => rfl
  | _, _, .cons _ r => congrArg (· + 1) r.length
theorem RepL.get {K : PySem.W.Frag} {ι : Nat → Addr} {n : Nat} {H : Hp} : ∀ {ds : List D} {vs : List V} {i : Nat} {d : D}, RepL K ι n H ds vs → ds[i]? = some d → ∃ v, vs[i]? = some v ∧ RepV K ι n H d v
  | _, _, i, _, .nil, h => by simp at h
  | _, _, 0, _, .cons r _, h => by
    simp at h
    subst h
    exact ⟨_, rfl, r⟩
  | _, _, i + 1, _, .cons _ r, h => by
    simp at h
    obtain ⟨v, e, q⟩ := r.get h
    exact ⟨v, by simpa using e, q⟩
theorem RepL.getv {K : PySem.W.Frag} {ι : Nat → Addr} {n : Nat} {H : Hp} : ∀ {ds : List D} {vs : List V} {i : Nat} {v : V}, RepL K ι n H ds vs → vs[i]? = some v → ∃ d, ds[i]? = some d ∧ RepV K ι n H d v
  | _, _, i, _, .nil, h => by simp at h
  | _, _, 0, _, .cons r _, h => by
    simp at h
    subst h
    exact ⟨_, rfl, r⟩
  | _, _, i + 1, _, .cons _ r, h => by
    simp at h
    obtain ⟨d, e, q⟩ := r.getv h
    exact ⟨d, by simpa using e, q⟩
theorem RepL.append {K : PySem.W.Frag} {ι : Nat → Addr} {n : Nat} {H : Hp} : ∀ {ds es : List D} {vs us : List V}, RepL K ι n H ds vs → RepL K ι n H es us → RepL K ι n H (ds ++ es) (vs ++ us)
  | _, _, _, _, .nil, r => r
  | _, _, _, _, .cons h t, r => .cons h (t.append r)
theorem RepL.set {K : PySem.W.Frag} {ι : Nat → Addr} {n : Nat} {H : Hp} {d : D} {v : V} (q : RepV K ι n H d v) : ∀ {ds : List D} {vs : List V} (i : Nat), RepL K ι n H ds vs → RepL K ι n H (ds.set i d) (vs.set i v)
  | _, _, _, .nil => .nil
  | _, _, 0, .cons _ t => .cons q t
  | _, _, i + 1, .cons h t => .cons h (t.set q i)
theorem RepL.take {K : PySem.W.Frag} {ι : Nat → Addr} {n : Nat} {H : Hp} : ∀ {ds : List D} {vs : List V} (i : Nat), RepL K ι n H ds vs → RepL K ι n H (ds.take i) (vs.take i)
  | _, _, _, .nil => by simp; exact .nil
  | _, _, 0, .cons _ t => .nil
  | _, _, i + 1, .cons h t => .cons h (t.take i)
theorem RepL.drop {K : PySem.W.Frag} {ι : Nat → Addr} {n : Nat} {H : Hp} : ∀ {ds : List D} {vs : List V} (i : Nat), RepL K ι n H ds vs → RepL K ι n H (ds.drop i) (vs.drop i)
  | _, _, _, .nil => by simp; exact .nil
  | _, _, 0, .cons h t => .cons h t
  | _, _, i + 1, .cons h t => t.drop i
theorem RepL.eraseIdx {K : PySem.W.Frag} {ι : Nat → Addr} {n : Nat} {H : Hp} : ∀ {ds : List D} {vs : List V} (i : Nat), RepL K ι n H ds vs → RepL K ι n H (ds.eraseIdx i) (vs.eraseIdx i)
  | _, _, _, .nil => .nil
  | _, _, 0, .cons h t => t
  | _, _, i + 1, .cons h t => .cons h (t.eraseIdx i)
theorem RepL.reverse {K : PySem.W.Frag} {ι : Nat → Addr} {n : Nat} {H : Hp} : ∀ {ds : List D} {vs : List V}, RepL K ι n H ds vs → RepL K ι n H ds.reverse vs.reverse
  | _, _, .nil => .nil
  | _, _, .cons h t => by
    simp only [List.reverse_cons]
    exact t.reverse.append (.cons h .nil)

/-! ### what a heap's step keeps -/
/-- a fresh object -/
theorem SqT.fresh {K : PySem.W.Frag} {H : Hp} {p a : Addr} {o : HO} {vs : List V} (hp : H p = none) (h : SqT K H a vs) : SqT K (upd H p o) a vs := by
  rcases h with h | h
  · refine .inl ?_
    have hne : a ≠ p := by
      rintro rfl
      rcases h with h | ⟨_, h⟩ <;> rw [hp] at h <;> cases h
    rcases h with h | ⟨ob, h⟩
    · exact .inl (by rw [upd_ne hne]; exact h)
    · exact .inr ⟨ob, by rw [upd_ne hne]; exact h⟩
  · exact .inr h
/-- a list's new items -/
theorem SqT.wrote {K : PySem.W.Frag} {H : Hp} {p a : Addr} {xs : List V} {o : HO} {vs : List V} (hp : H p = some (.lst xs)) (h : SqT K H a vs) : SqT K (upd H p o) a vs := by
  rcases h with h | h
  · refine .inl ?_
    have hne : a ≠ p := by
      rintro rfl
      rcases h with h | ⟨_, h⟩ <;> rw [hp] at h <;> cases h
    rcases h with h | ⟨ob, h⟩
    · exact .inl (by rw [upd_ne hne]; exact h)
    · exact .inr ⟨ob, by rw [upd_ne hne]; exact h⟩
  · exact .inr h
theorem RoL.fresh {K : PySem.W.Frag} {H : Hp} {p a : Addr} {o : HO} {vs : List V} (hp : H p = none) (h : RoL K H a vs) : RoL K (upd H p o) a vs := by
  rcases h with ⟨ob, h⟩ | h
  · have hne : a ≠ p := by
      rintro rfl
      rw [hp] at h
      cases h
    exact .inl ⟨ob, by rw [upd_ne hne]; exact h⟩
  · exact .inr h
theorem RoL.wrote {K : PySem.W.Frag} {H : Hp} {p a : Addr} {xs : List V} {o : HO} {vs : List V} (hp : H p = some (.lst xs)) (h : RoL K H a vs) : RoL K (upd H p o) a vs := by
  rcases h with ⟨ob, h⟩ | h
  · have hne : a ≠ p := by
      rintro rfl
      rw [hp] at h
      cases h
    exact .inl ⟨ob, by rw [upd_ne hne]; exact h⟩
  · exact .inr h

theorem TpL.fresh {H : Hp} {p a : Addr} {o : HO} {vs : List V} (hp : H p = none) (h : TpL H a vs) : TpL (upd H p o) a vs := by
  obtain ⟨ob, h, g⟩ := h
  have hne : a ≠ p := by
    rintro rfl
    rw [hp] at h
    cases h
  exact ⟨ob, by rw [upd_ne hne]; exact h, g⟩
theorem TpL.wrote {H : Hp} {p a : Addr} {xs : List V} {o : HO} {vs : List V} (hp : H p = some (.lst xs)) (h : TpL H a vs) : TpL (upd H p o) a vs := by
  obtain ⟨ob, h, g⟩ := h
  have hne : a ≠ p := by
    rintro rfl
    rw [hp] at h
    cases h
  exact ⟨ob, by rw [upd_ne hne]; exact h, g⟩

/-! ### worlds that step -/
/-- a new immutable object (a tuple) -/
def Wd.tupAt (w : Wd) (p : Addr) (o : HO) : Wd := ⟨w.ι, w.h, upd w.H p o⟩
theorem Wd.ext_tupAt {K : PySem.W.Frag} {w : Wd} {p : Addr} {o : HO} (hp : w.H p = none) : Wd.Ext K w (w.tupAt p o) :=
  ⟨Nat.le_refl _, fun _ _ => rfl, fun _ _ h => SqT.fresh hp h, fun _ _ h => TpL.fresh hp h⟩
theorem Wd.Ok.tupAt {K : PySem.W.Frag} {w : Wd} (ok : w.Ok K) {p : Addr} {o : HO} (hp : w.H p = none) : (w.tupAt p o).Ok K := by
  refine ⟨fun n c e => ?_, ok.inj⟩
  have q := ok.cell n c e
  have x : Wd.Ext K w (w.tupAt p o) := Wd.ext_tupAt hp
  cases c with
  | lst ds =>
    obtain ⟨vs, h1, h2⟩ := q
    refine ⟨vs, ?_, x.rps h2⟩
    show upd w.H p o (w.ι n) = _
    rw [upd_ne (by intro z; rw [z, hp] at h1; cases h1)]
    exact h1
  | ro ds =>
    obtain ⟨vs, h1, h2⟩ := q
    exact ⟨vs, h1.fresh hp, x.rps h2⟩

/-- a new list -/
def Wd.newL (w : Wd) (p : Addr) (ds : List D) (vs : List V) : Wd := ⟨fun k => if k = w.h.length then p else w.ι k, w.h ++ [.lst ds], upd w.H p (.lst vs)⟩
theorem Wd.ext_newL {K : PySem.W.Frag} {w : Wd} {p : Addr} {ds : List D} {vs : List V} (hp : w.H p = none) : Wd.Ext K w (w.newL p ds vs) :=
  ⟨by simp [Wd.newL], fun n h => by
    show (if n = w.h.length then p else w.ι n) = w.ι n
    rw [if_neg (Nat.ne_of_lt h)], fun _ _ h => SqT.fresh hp h, fun _ _ h => TpL.fresh hp h⟩
theorem Wd.Ok.newL {K : PySem.W.Frag} {w : Wd} (ok : w.Ok K) {p : Addr} {ds : List D} {vs : List V} (hp : w.H p = none) (r : Rps K w ds vs) : (w.newL p ds vs).Ok K := by
  have x : Wd.Ext K w (w.newL p ds vs) := Wd.ext_newL hp
  have at_ : ∀ n c, (w.newL p ds vs).h[n]? = some c → (n = w.h.length ∧ c = .lst ds) ∨ (n < w.h.length ∧ w.h[n]? = some c) := fun n c e => by
    have e' : (w.h ++ [Cell.lst ds])[n]? = some c := e
    by_cases hn : n < w.h.length
    · rw [List.getElem?_append_left hn] at e'
      exact .inr ⟨hn, e'⟩
    · rw [List.getElem?_append_right (by omega)] at e'
      have : n - w.h.length = 0 := by
        by_cases q : n - w.h.length = 0
        · exact q
        · rw [List.getElem?_eq_none (by simp; omega)] at e'
          cases e'
      rw [this] at e'
      exact .inl ⟨by omega, by simpa using e'.symm⟩
  have ι1 : ∀ n, n < w.h.length → (w.newL p ds vs).ι n = w.ι n := x.ι
  have ι2 : (w.newL p ds vs).ι w.h.length = p := if_pos rfl
  refine ⟨fun n c e => ?_, fun n m c e hn hm mc me q => ?_⟩
  · rcases at_ n c e with ⟨rfl, rfl⟩ | ⟨hn, e⟩
    · rw [ι2]
      exact ⟨vs, upd_same, x.rps r⟩
    · rw [ι1 n hn]
      have q := ok.cell n c e
      cases c with
      | lst es =>
        obtain ⟨us, h1, h2⟩ := q
        refine ⟨us, ?_, x.rps h2⟩
        show upd w.H p _ (w.ι n) = _
        rw [upd_ne (by intro z; rw [z, hp] at h1; cases h1)]
        exact h1
      | ro es =>
        obtain ⟨us, h1, h2⟩ := q
        exact ⟨us, h1.fresh hp, x.rps h2⟩
  · have there : ∀ n c, w.h[n]? = some c → c.mut = true → w.H (w.ι n) ≠ none := fun n c e mc => by
      have q := ok.cell n c e
      cases c with
      | lst es =>
        obtain ⟨us, h1, h2⟩ := q
        rw [h1]
        exact fun z => nomatch z
      | ro es => cases mc
    rcases at_ n c hn with ⟨rfl, rfl⟩ | ⟨hn', e1⟩
    · rcases at_ m e hm with ⟨rfl, rfl⟩ | ⟨hm', e2⟩
      · rfl
      · rw [ι2, ι1 m hm'] at q
        exact absurd (q ▸ hp) (there m e e2 me)
    · rcases at_ m e hm with ⟨rfl, rfl⟩ | ⟨hm', e2⟩
      · rw [ι2, ι1 n hn'] at q
        exact absurd (q ▸ hp) (there n c e1 mc)
      · rw [ι1 n hn', ι1 m hm'] at q
        exact ok.inj n m c e e1 e2 mc me q

/-- a list's new items -/
def Wd.putL (w : Wd) (n : Nat) (ds : List D) (vs : List V) : Wd := ⟨w.ι, w.h.set n (.lst ds), upd w.H (w.ι n) (.lst vs)⟩
theorem Wd.ext_putL {K : PySem.W.Frag} {w : Wd} {n : Nat} {xs : List V} {ds : List D} {vs : List V} (hp : w.H (w.ι n) = some (.lst xs)) : Wd.Ext K w (w.putL n ds vs) :=
  ⟨by simp [Wd.putL], fun _ _ => rfl, fun _ _ h => SqT.wrote hp h, fun _ _ h => TpL.wrote hp h⟩
theorem Wd.Ok.putL {K : PySem.W.Frag} {w : Wd} (ok : w.Ok K) {n : Nat} {es ds : List D} {vs : List V} (hn : w.h[n]? = some (.lst es)) (r : Rps K w ds vs) : (w.putL n ds vs).Ok K ∧ Wd.Ext K w (w.putL n ds vs) := by
  obtain ⟨xs, hp, _⟩ := ok.cell n _ hn
  have x : Wd.Ext K w (w.putL n ds vs) := Wd.ext_putL hp
  have hl : n < w.h.length := (List.getElem?_eq_some_iff.mp hn).1
  have at_ : ∀ m c, (w.putL n ds vs).h[m]? = some c → (m = n ∧ c = .lst ds) ∨ (m ≠ n ∧ w.h[m]? = some c) := fun m c e => by
    have e' : (w.h.set n (.lst ds))[m]? = some c := e
    by_cases hm : m = n
    · subst hm
      rw [List.getElem?_set_self hl] at e'
      exact .inl ⟨rfl, by simpa using e'.symm⟩
    · rw [List.getElem?_set_ne (fun z => hm z.symm)] at e'
      exact .inr ⟨hm, e'⟩
  refine ⟨⟨fun m c e => ?_, fun m k c e hm hk mc me q => ?_⟩, x⟩
  · rcases at_ m c e with ⟨rfl, rfl⟩ | ⟨hm, e⟩
    · exact ⟨vs, upd_same, x.rps r⟩
    · have q := ok.cell m c e
      cases c with
      | lst fs =>
        obtain ⟨us, h1, h2⟩ := q
        refine ⟨us, ?_, x.rps h2⟩
        show upd w.H (w.ι n) _ (w.ι m) = _
        rw [upd_ne (fun z => hm (ok.inj m n _ _ e hn rfl rfl z))]
        exact h1
      | ro fs =>
        obtain ⟨us, h1, h2⟩ := q
        exact ⟨us, h1.wrote hp, x.rps h2⟩
  · have old : ∀ m (c : Cell), (w.putL n ds vs).h[m]? = some c → c.mut = true → ∃ c' : Cell, w.h[m]? = some c' ∧ c'.mut = true := fun m c e mc => by
      rcases at_ m c e with ⟨rfl, rfl⟩ | ⟨hm, e⟩
      · exact ⟨_, hn, rfl⟩
      · exact ⟨c, e, mc⟩
    obtain ⟨c1, a1, b1⟩ := old m c hm mc
    obtain ⟨c2, a2, b2⟩ := old k e hk me
    exact ok.inj m k c1 c2 a1 a2 b1 b2 q
end Vq

/-! Part 2: the readings of denotations; rules for expressions. -/
namespace Vq
open PySem PySem.Spec PyProof.Rows L2

def Slots (K : PySem.W.Frag) (w : Wd) (s : VS) (σ : L2.St) : Prop :=
  s.length = σ.length ∧ ∀ (i : Nat) (d : D), s[i]? = some (some d) → ∃ v, σ[i]? = some (some v) ∧ Rp K w d v
theorem Slots.ext {K : PySem.W.Frag} {w w' : Wd} {s : VS} {σ : L2.St} (h : Slots K w s σ) (x : Wd.Ext K w w') : Slots K w' s σ :=
  ⟨h.1, fun i d e => let ⟨v, a, b⟩ := h.2 i d e; ⟨v, a, x.rp b⟩⟩
theorem Slots.set {K : PySem.W.Frag} {w : Wd} {s : VS} {σ : L2.St} (h : Slots K w s σ) (i : Nat) {d : D} {v : V} (r : Rp K w d v) : Slots K w (s.set i (some d)) (σ.set i (some v)) := by
  refine ⟨by simp [h.1], fun j e q => ?_⟩
  by_cases hj : i = j
  · subst hj
    by_cases hl : i < s.length
    · rw [List.getElem?_set_self hl] at q
      cases q
      exact ⟨v, List.getElem?_set_self (h.1 ▸ hl), r⟩
    · rw [List.getElem?_eq_none (by simp; omega)] at q
      cases q
  · rw [List.getElem?_set_ne hj] at q
    obtain ⟨u, a, b⟩ := h.2 j e q
    exact ⟨u, by rw [List.getElem?_set_ne hj]; exact a, b⟩

def RepX (K : PySem.W.Frag) (mg : Str → Option Value) (w : Wd) (x : Exn) (cls : Value) (d : Option Addr) : Prop :=
  mg x.cls = some cls ∧ ((x.fs = [] ∧ d = none) ∨
    ∃ a fs, d = some a ∧ x.fs ≠ [] ∧ w.H a = some (.xd fs) ∧ fs.map (·.1) = x.fs.map (·.1) ∧ Rps K w (x.fs.map (·.2)) (fs.map (·.2)))

section
variable (X : Cx) (W : WX)
def PstX (w0 : Wd) (x : Exn) (s : VS) (h : VH) : Prop := ∀ (w : Wd) (cls : Value) (d : Option Addr) (σ : L2.St), w.Ok X.K → w.h = h → Wd.Ext X.K w0 w → Slots X.K w s σ → RepX X.K X.mg w x cls d → W cls d σ w.H
def PstE (w : Wd) (r : Res (D × VH)) (Q : VK) : Prop :=
  match r with
  | .ok p => ∀ w' v, w'.Ok X.K → w'.h = p.2 → Wd.Ext X.K w w' → Rp X.K w' p.1 v → Q v w'.H
  | .ex x s h => PstX X W w x s h
  | .bad => False
def PstT (w : Wd) (r : Res (Bool × VH)) (Q : Bool → Hp → Prop) : Prop :=
  match r with
  | .ok p => ∀ w', w'.Ok X.K → w'.h = p.2 → Wd.Ext X.K w w' → Q p.1 w'.H
  | .ex x s h => PstX X W w x s h
  | .bad => False
def PstA (w : Wd) (r : Res (List D × VH)) (Q : List V → Hp → Prop) : Prop :=
  match r with
  | .ok p => ∀ w' vs, w'.Ok X.K → w'.h = p.2 → Wd.Ext X.K w w' → Rps X.K w' p.1 vs → Q vs w'.H
  | .ex x s h => PstX X W w x s h
  | .bad => False
def PstS (w : Wd) (r : Res (Out × VS × VH)) (E : Ends) : Prop :=
  match r with
  | .ok (.nx, s, h) => ∀ w' σ, w'.Ok X.K → w'.h = h → Wd.Ext X.K w w' → Slots X.K w' s σ → E.nx σ w'.H
  | .ok (.rt d, s, h) => ∀ w' v, w'.Ok X.K → w'.h = h → Wd.Ext X.K w w' → Rp X.K w' d v → E.rt v w'.H
  | .ok (.bk, s, h) => ∀ w' σ, w'.Ok X.K → w'.h = h → Wd.Ext X.K w w' → Slots X.K w' s σ → E.bk σ w'.H
  | .ok (.ct, s, h) => ∀ w' σ, w'.Ok X.K → w'.h = h → Wd.Ext X.K w w' → Slots X.K w' s σ → E.ct σ w'.H
  | .ex x s h => PstX X W w x s h
  | .bad => False
def PstG (w : Wd) (r : Res (VS × VH)) (Q : L2.St → Hp → Prop) : Prop :=
  match r with
  | .ok p => ∀ w' σ, w'.Ok X.K → w'.h = p.2 → Wd.Ext X.K w w' → Slots X.K w' p.1 σ → Q σ w'.H
  | .ex x s h => PstX X W w x s h
  | .bad => False

def gE (f : VE) : TE := fun σ H Q => ∃ w s, w.H = H ∧ w.Ok X.K ∧ Slots X.K w s σ ∧ PstE X W w (f s w.h) Q
def gT (f : VT) : TT := fun σ H Q => ∃ w s, w.H = H ∧ w.Ok X.K ∧ Slots X.K w s σ ∧ PstT X W w (f s w.h) Q
def gA (f : VA) : TA := fun σ H Q => ∃ w s, w.H = H ∧ w.Ok X.K ∧ Slots X.K w s σ ∧ PstA X W w (f s w.h) Q
def gS (f : VSt) : TS := fun E σ H => ∃ w s, w.H = H ∧ w.Ok X.K ∧ Slots X.K w s σ ∧ PstS X W w (f s w.h) E
def gG (f : VG) : TG := fun v σ H Q => ∃ w s d, w.H = H ∧ w.Ok X.K ∧ Slots X.K w s σ ∧ Rp X.K w d v ∧ PstG X W w (f d s w.h) Q

/-- a rule that has nothing to do with exceptions -/
def PstO (K : PySem.W.Frag) (w : Wd) (r : Option (D × VH)) (Q : VK) : Prop :=
  match r with
  | some p => ∀ w' v, w'.Ok K → w'.h = p.2 → Wd.Ext K w w' → Rp K w' p.1 v → Q v w'.H
  | none => False
end
def lift {α : Type} : Option α → Res α
  | some a => .ok a
  | none => .bad
@[simp] theorem lift_some {α : Type} (a : α) : lift (some a) = .ok a := rfl
@[simp] theorem lift_none {α : Type} : lift (none : Option α) = .bad := rfl

section
variable {X : Cx} {W : WX}
theorem PstE.lift {w : Wd} {r : Option (D × VH)} {Q : VK} (h : PstE X W w (lift r) Q) : PstO X.K w r Q := by
  cases r with
  | none => exact h
  | some p => exact h
theorem PstX.mono {w w1 : Wd} {x : Exn} {s : VS} {h : VH} (e : Wd.Ext X.K w w1) (p : PstX X W w x s h) : PstX X W w1 x s h :=
  fun w' cls d σ ok eh x' sl rx => p w' cls d σ ok eh (e.trans x') sl rx
theorem PstE.mono {w w1 : Wd} {r : Res (D × VH)} {Q : VK} (x : Wd.Ext X.K w w1) (h : PstE X W w r Q) : PstE X W w1 r Q := by
  cases r with
  | ok p => exact fun w' v ok e x' rp => h w' v ok e (x.trans x') rp
  | ex _ _ _ => exact PstX.mono x h
  | bad => exact h
theorem PstT.mono {w w1 : Wd} {r : Res (Bool × VH)} {Q : Bool → Hp → Prop} (x : Wd.Ext X.K w w1) (h : PstT X W w r Q) : PstT X W w1 r Q := by
  cases r with
  | ok p => exact fun w' ok e x' => h w' ok e (x.trans x')
  | ex _ _ _ => exact PstX.mono x h
  | bad => exact h
theorem PstA.mono {w w1 : Wd} {r : Res (List D × VH)} {Q : List V → Hp → Prop} (x : Wd.Ext X.K w w1) (h : PstA X W w r Q) : PstA X W w1 r Q := by
  cases r with
  | ok p => exact fun w' v ok e x' rp => h w' v ok e (x.trans x') rp
  | ex _ _ _ => exact PstX.mono x h
  | bad => exact h
theorem PstS.mono {w w1 : Wd} {r : Res (Out × VS × VH)} {Q : Ends} (x : Wd.Ext X.K w w1) (h : PstS X W w r Q) : PstS X W w1 r Q := by
  cases r with
  | ok p =>
    obtain ⟨o, s, hp⟩ := p
    cases o <;> exact fun w' v ok e x' rp => h w' v ok e (x.trans x') rp
  | ex _ _ _ => exact PstX.mono x h
  | bad => exact h
theorem PstG.mono {w w1 : Wd} {r : Res (VS × VH)} {Q : L2.St → Hp → Prop} (x : Wd.Ext X.K w w1) (h : PstG X W w r Q) : PstG X W w1 r Q := by
  cases r with
  | ok p => exact fun w' v ok e x' rp => h w' v ok e (x.trans x') rp
  | ex _ _ _ => exact PstX.mono x h
  | bad => exact h
theorem PstO.mono {K : PySem.W.Frag} {w w1 : Wd} {r : Option (D × VH)} {Q : VK} (x : Wd.Ext K w w1) (h : PstO K w r Q) : PstO K w1 r Q := by
  cases r with
  | some p => exact fun w' v ok e x' rp => h w' v ok e (x.trans x') rp
  | none => exact h

/-- what a continuation wants, whatever kind it is -/
structure Wants (X : Cx) (W : WX) (w : Wd) {β : Type} (P : Res β → Prop) : Prop where
  bad : ¬ P .bad
  ex : ∀ x s h, P (.ex x s h) → PstX X W w x s h
theorem Wants.mono {w w1 : Wd} {β : Type} {P : Res β → Prop} (a : Wants X W w P) (x : Wd.Ext X.K w w1) : Wants X W w1 P := ⟨a.bad, fun e s h q => (a.ex e s h q).mono x⟩
theorem wE (w : Wd) (Q : VK) : Wants X W w (fun r => PstE X W w r Q) := ⟨id, fun _ _ _ h => h⟩
theorem wT (w : Wd) (Q : Bool → Hp → Prop) : Wants X W w (fun r => PstT X W w r Q) := ⟨id, fun _ _ _ h => h⟩
theorem wA (w : Wd) (Q : List V → Hp → Prop) : Wants X W w (fun r => PstA X W w r Q) := ⟨id, fun _ _ _ h => h⟩
theorem wS (w : Wd) (Q : Ends) : Wants X W w (fun r => PstS X W w r Q) := ⟨id, fun _ _ _ h => h⟩
theorem wG (w : Wd) (Q : L2.St → Hp → Prop) : Wants X W w (fun r => PstG X W w r Q) := ⟨id, fun _ _ _ h => h⟩

theorem gE.seq {f : VE} {β : Type} {k : D × VH → Res β} {P : Res β → Prop} {w : Wd} {s : VS} {σ : L2.St} {Q : VK} (ok : w.Ok X.K) (sl : Slots X.K w s σ) (hP : Wants X W w P) (hp : P ((f s w.h).bind k))
    (hq : ∀ d w1 v, w1.Ok X.K → Wd.Ext X.K w w1 → Slots X.K w1 s σ → Rp X.K w1 d v → P (k (d, w1.h)) → Q v w1.H) : gE X W f σ w.H Q := by
  refine ⟨w, s, rfl, ok, sl, ?_⟩
  cases e : f s w.h with
  | ok p =>
    rw [e] at hp
    obtain ⟨p1, p2⟩ := p
    intro w' v ok' q x r
    refine hq p1 w' v ok' x (sl.ext x) r ?_
    rw [show w'.h = p2 from q]
    exact hp
  | ex x s h => rw [e] at hp; exact hP.ex _ _ _ hp
  | bad => rw [e] at hp; exact (hP.bad hp).elim
theorem gT.seq {f : VT} {β : Type} {k : Bool × VH → Res β} {P : Res β → Prop} {w : Wd} {s : VS} {σ : L2.St} {Q : Bool → Hp → Prop} (ok : w.Ok X.K) (sl : Slots X.K w s σ) (hP : Wants X W w P) (hp : P ((f s w.h).bind k))
    (hq : ∀ d w1, w1.Ok X.K → Wd.Ext X.K w w1 → Slots X.K w1 s σ → P (k (d, w1.h)) → Q d w1.H) : gT X W f σ w.H Q := by
  refine ⟨w, s, rfl, ok, sl, ?_⟩
  cases e : f s w.h with
  | ok p =>
    rw [e] at hp
    obtain ⟨p1, p2⟩ := p
    intro w' ok' q x
    refine hq p1 w' ok' x (sl.ext x) ?_
    rw [show w'.h = p2 from q]
    exact hp
  | ex x s h => rw [e] at hp; exact hP.ex _ _ _ hp
  | bad => rw [e] at hp; exact (hP.bad hp).elim
theorem gA.seq {f : VA} {β : Type} {k : List D × VH → Res β} {P : Res β → Prop} {w : Wd} {s : VS} {σ : L2.St} {Q : List V → Hp → Prop} (ok : w.Ok X.K) (sl : Slots X.K w s σ) (hP : Wants X W w P) (hp : P ((f s w.h).bind k))
    (hq : ∀ d w1 v, w1.Ok X.K → Wd.Ext X.K w w1 → Slots X.K w1 s σ → Rps X.K w1 d v → P (k (d, w1.h)) → Q v w1.H) : gA X W f σ w.H Q := by
  refine ⟨w, s, rfl, ok, sl, ?_⟩
  cases e : f s w.h with
  | ok p =>
    rw [e] at hp
    obtain ⟨p1, p2⟩ := p
    intro w' v ok' q x r
    refine hq p1 w' v ok' x (sl.ext x) r ?_
    rw [show w'.h = p2 from q]
    exact hp
  | ex x s h => rw [e] at hp; exact hP.ex _ _ _ hp
  | bad => rw [e] at hp; exact (hP.bad hp).elim

theorem PEw {e : Expr} {t t' : TE} (h : PE X e t) (i : ∀ σ H Q, t' σ H Q → t σ H Q) : PE X e t' := ⟨fun pins s σ H Q I q => h.run pins s σ H Q I (i σ H Q q)⟩
theorem PTw {e : Expr} {t t' : TT} (h : PT X e t) (i : ∀ σ H Q, t' σ H Q → t σ H Q) : PT X e t' := ⟨fun pins s σ H Q I q => h.run pins s σ H Q I (i σ H Q q)⟩
theorem PWw {e : Expr} {t t' : TT} (h : PW X e t) (i : ∀ σ H Q, t' σ H Q → t σ H Q) : PW X e t' := ⟨fun wh pins s σ H Q I q => h.run wh pins s σ H Q I (i σ H Q q)⟩
theorem PAw {e : List Expr} {t t' : TA} (h : PA X e t) (i : ∀ σ H Q, t' σ H Q → t σ H Q) : PA X e t' := ⟨fun pos pins s σ H Q I q => h.run pos pins s σ H Q I (i σ H Q q)⟩
theorem PSw {e : Stmt} {t t' : TS} (h : PS X e t) (i : ∀ D σ H, t' D σ H → t D σ H) : PS X e t' := ⟨fun pins s σ H D I q => h.run pins s σ H D I (i D σ H q)⟩
theorem PSsw {e : List Stmt} {t t' : TS} (h : PSs X e t) (i : ∀ D σ H, t' D σ H → t D σ H) : PSs X e t' := ⟨fun pins s σ H D I q => h.run pins s σ H D I (i D σ H q)⟩
theorem PGw {e : Expr} {t t' : TG} (h : PG X e t) (i : ∀ v σ H Q, t' v σ H Q → t v σ H Q) : PG X e t' := ⟨fun pins s σ H v u Q I r q => h.run pins s σ H v u Q I r (i v σ H Q q)⟩

/-! ### names and constants -/
def vVar (i : Nat) : VE := fun s h => match s[i]? with
  | some (some d) => .ok (d, h)
  | _ => .bad
def vC (d : D) : VE := fun _ h => .ok (d, h)
theorem qV {x : Str} {pos : Pos} {i : Nat} (hN : X.N[i]? = some x := by rfl) (hv : Vis X.env.scope x := by first | exact Or.inl rfl | exact Or.inr (Or.inl rfl) | exact Or.inr (Or.inr rfl))
    (hd : (x == ("__debug__" : Str)) = false := by decide) (hcd : (x == ("__classdict__" : Str)) = false := by decide) : PE X (.Name x pos) (gE X W (vVar i)) :=
  PEw (pe_var (i := i) hN hv hd hcd) fun σ H Q ⟨w, s, hH, ok, sl, hp⟩ => by
    subst hH
    unfold vVar at hp
    split at hp
    · rename_i d e
      obtain ⟨v, e', r⟩ := sl.2 i d e
      exact ⟨v, e', hp w v ok rfl (.refl w) r⟩
    · exact hp.elim
theorem qC {e : Expr} {d : D} {v : V} (h : PE X e (tC v)) (r : ∀ w : Wd, Rp X.K w d v) : PE X e (gE X W (vC d)) :=
  PEw h fun σ H Q ⟨w, s, hH, ok, sl, hp⟩ => by
    subst hH
    exact hp w v ok rfl (.refl w) (r w)
theorem qI {i : Int} {j} {pos : Pos} : PE X (.Constant (.int i) j pos) (gE X W (vC (.int i))) := qC pe_int fun _ => .int i
theorem qB {b : Bool} {j} {pos : Pos} : PE X (.Constant (.bool b) j pos) (gE X W (vC (.bl b))) := qC pe_bl fun _ => .bl b
theorem qN {j} {pos : Pos} : PE X (.Constant .none j pos) (gE X W (vC .non)) := qC pe_non fun _ => .non
theorem qS {x : Str} {j} {pos : Pos} : PE X (.Constant (.str x) j pos) (gE X W (vC (.str x))) := qC pe_str fun _ => .str x

/-! ### argument lists, displays -/
def vNil : VA := fun _ h => .ok ([], h)
def vCons (f : VE) (g : VA) : VA := fun s h => (f s h).bind fun p => (g s p.2).bind fun q => .ok (p.1 :: q.1, q.2)
theorem qa0 : PA X [] (gA X W vNil) := PAw pa_nil fun σ H Q ⟨w, s, hH, ok, sl, hp⟩ => by
  subst hH
  exact hp w [] ok rfl (.refl w) .nil
theorem qa {e : Expr} {es : List Expr} {f : VE} {g : VA} (ha : PE X e (gE X W f)) (hr : PA X es (gA X W g)) (hs : starEach (e :: es) X.env = (false, eval e X.env) :: starEach es X.env := by rfl) : PA X (e :: es) (gA X W (vCons f g)) :=
  PAw (pa_cons ha hr hs) fun σ H Q ⟨w, s, hH, ok, sl, hp⟩ => by
    subst hH
    refine gE.seq ok sl (wA w Q) hp fun d w1 v ok1 x1 sl1 r1 hp1 => ?_
    refine gA.seq ok1 sl1 ((wA w Q).mono x1) hp1 fun d2 w2 v2 ok2 x2 sl2 r2 hp2 => ?_
    exact hp2 w2 (v :: v2) ok2 rfl (x1.trans x2) (.cons (x2.rp r1) r2)
def vTup (g : VA) : VE := fun s h => (g s h).bind fun p => if p.1.length ≤ sizeLine then .ok (.tup p.1, p.2) else .bad
def vLst (g : VA) : VE := fun s h => (g s h).bind fun p => if p.1.length ≤ sizeLine then .ok (.ref p.2.length, p.2 ++ [.lst p.1]) else .bad
theorem at_newL {K : PySem.W.Frag} {w : Wd} {p : Addr} {ds : List D} {vs : List V} : Rp K (w.newL p ds vs) (.ref w.h.length) (.ref p) := by
  have q : RepV K (w.newL p ds vs).ι (w.newL p ds vs).h.length (w.newL p ds vs).H (.ref w.h.length) (.ref ((w.newL p ds vs).ι w.h.length)) := .ref (by simp [Wd.newL])
  have e : (w.newL p ds vs).ι w.h.length = p := if_pos rfl
  rw [e] at q
  exact q
theorem qTup {es : List Expr} {g : VA} {pos : Pos} {x1} (ha : PA X es (gA X W g)) : PE X (.Tuple es x1 pos) (gE X W (vTup g)) :=
  PEw (pe_tup ha) fun σ H Q ⟨w, s, hH, ok, sl, hp⟩ => by
    subst hH
    refine gA.seq ok sl (wE w Q) hp fun ds w1 vs ok1 x1 sl1 r1 hp1 => ?_
    simp only at hp1
    by_cases hl : ds.length ≤ sizeLine
    · rw [if_pos hl] at hp1
      refine ⟨by rw [← r1.length]; exact hl, fun p hn => ?_⟩
      exact hp1 (w1.tupAt p (.tup vs)) (.ref p) (ok1.tupAt hn) rfl (x1.trans (Wd.ext_tupAt hn)) (.tup (SqT.of upd_same) ((Wd.ext_tupAt hn).rps r1))
    · rw [if_neg hl] at hp1
      exact hp1.elim
theorem qLst {es : List Expr} {g : VA} {pos : Pos} (ha : PA X es (gA X W g)) : PE X (.List es pos) (gE X W (vLst g)) :=
  PEw (pe_lst ha) fun σ H Q ⟨w, s, hH, ok, sl, hp⟩ => by
    subst hH
    refine gA.seq ok sl (wE w Q) hp fun ds w1 vs ok1 x1 sl1 r1 hp1 => ?_
    simp only at hp1
    by_cases hl : ds.length ≤ sizeLine
    · rw [if_pos hl] at hp1
      refine ⟨by rw [← r1.length]; exact hl, fun p hn => ?_⟩
      exact hp1 (w1.newL p ds vs) (.ref p) (ok1.newL hn r1) rfl (x1.trans (Wd.ext_newL hn)) at_newL
    · rw [if_neg hl] at hp1
      exact hp1.elim

/-! ### operators by values -/
/-- what a two-place operation does upon values -/
def OpD (K : PySem.W.Frag) (r : R2) (f : D → D → VH → Option (D × VH)) : Prop :=
  ∀ (w : Wd) (x y : D) (vx vy : V) (Q : VK), w.Ok K → Rp K w x vx → Rp K w y vy → PstO K w (f x y w.h) Q → r vx vy w.H Q
def vOp (f : D → D → VH → Option (D × VH)) (a b : VE) : VE := fun s h => (a s h).bind fun p => (b s p.2).bind fun q => lift (f p.1 q.1 q.2)
theorem vop_red {r : R2} {f : D → D → VH → Option (D × VH)} {a b : VE} (hf : OpD X.K r f) {σ : L2.St} {H : Hp} {Q : VK} (h : gE X W (vOp f a b) σ H Q) : tOp r (gE X W a) (gE X W b) σ H Q := by
  obtain ⟨w, s, hH, ok, sl, hp⟩ := h
  subst hH
  refine gE.seq ok sl (wE w Q) hp fun d w1 v ok1 x1 sl1 r1 hp1 => ?_
  refine gE.seq ok1 sl1 ((wE w Q).mono x1) hp1 fun d2 w2 v2 ok2 x2 sl2 r2 hp2 => ?_
  exact hf w2 d d2 v v2 Q ok2 (x2.rp r1) r2 (hp2.lift.mono (x1.trans x2))
theorem qOp {op : Operator} {r : R2} {f : D → D → VH → Option (D × VH)} {a b : Expr} {fa fb : VE} {pos : Pos} (ho : OpR X (binaryOp op) r) (hf : OpD X.K r f) (ha : PE X a (gE X W fa)) (hb : PE X b (gE X W fb)) : PE X (.BinOp a op b pos) (gE X W (vOp f fa fb)) :=
  PEw (pe_op ho ha hb) fun _ _ _ h => vop_red hf h
theorem qCm {op : CmpOp} {r : R2} {f : D → D → VH → Option (D × VH)} {a b : Expr} {fa fb : VE} {pos : Pos} (ho : OpR X (compareOp op) r) (hf : OpD X.K r f) (ha : PE X a (gE X W fa)) (hb : PE X b (gE X W fb))
    (hm : behindInMarks op b = false := by first | exact nomark _ | rfl) : PE X (.Compare a [op] [b] pos) (gE X W (vOp f fa fb)) :=
  PEw (pe_cmpR ho ha hb hm) fun _ _ _ h => vop_red hf h
/-- tests: the truth of a value -/
def vTr (f : VE) : VT := fun s h => (f s h).bind fun p => match p.1 with
  | .bl b => .ok (b, p.2)
  | _ => .bad
theorem vtr_red {a : VE} {σ : L2.St} {H : Hp} {Q : Bool → Hp → Prop} (h : gT X W (vTr a) σ H Q) : tB (gE X W a) σ H Q := by
  obtain ⟨w, s, hH, ok, sl, hp⟩ := h
  subst hH
  refine gE.seq ok sl (wT w Q) hp fun d w1 v ok1 x1 sl1 r1 hp1 => ?_
  cases r1 with
  | bl b => exact ⟨b, rfl, hp1 w1 ok1 rfl x1⟩
  | _ => exact hp1.elim
theorem qCmT {op : CmpOp} {r : R2} {f : D → D → VH → Option (D × VH)} {a b : Expr} {fa fb : VE} {pos : Pos} (ho : OpR X (compareOp op) r) (hf : OpD X.K r f) (ha : PE X a (gE X W fa)) (hb : PE X b (gE X W fb))
    (hm : behindInMarks op b = false := by first | exact nomark _ | rfl) : PT X (.Compare a [op] [b] pos) (gT X W (vTr (vOp f fa fb))) :=
  PTw (pt_cmpR ho ha hb hm) fun _ _ _ h => by
    have q := vtr_red h
    obtain ⟨w, s, hH, ok, sl, hp⟩ := q
    exact vop_red hf ⟨w, s, hH, ok, sl, hp⟩
/-- a value as a test -/
theorem qT {e : Expr} {f : VE} (h : PE X e (gE X W f)) (he : ∀ whole, isTrue e X.env whole = (do let v ← whole; standAt e.pos; holding [v] (truthy v)) := by intro _; rfl) : PT X e (gT X W (vTr f)) :=
  PTw (pt_val h he) fun _ _ _ h => vtr_red h

/-! ### and, or, not, if else -/
def vNotT (f : VT) : VT := fun s h => (f s h).bind fun p => .ok (!p.1, p.2)
def vAndT (f g : VT) : VT := fun s h => (f s h).bind fun p => if p.1 = true then g s p.2 else .ok (false, p.2)
def vOrT (f g : VT) : VT := fun s h => (f s h).bind fun p => if p.1 = true then .ok (true, p.2) else g s p.2
theorem qNotT {a : Expr} {f : VT} {pos : Pos} (ha : PT X a (gT X W f)) : PT X (.UnaryOp .Not a pos) (gT X W (vNotT f)) :=
  PTw (pt_not ha) fun σ H Q ⟨w, s, hH, ok, sl, hp⟩ => by
    subst hH
    exact gT.seq ok sl (wT w Q) hp fun d w1 ok1 x1 sl1 hp1 => hp1 w1 ok1 rfl x1
theorem qAnd1 {a : Expr} {f : VT} {pos : Pos} (ha : PT X a (gT X W f)) : PW X (.BoolOp .And [a] pos) (gT X W f) := pw_and1 ha
theorem qOr1 {a : Expr} {f : VT} {pos : Pos} (ha : PT X a (gT X W f)) : PW X (.BoolOp .Or [a] pos) (gT X W f) := pw_or1 ha
theorem qAndT {a b : Expr} {rest : List Expr} {f g : VT} {pos : Pos} (ha : PT X a (gT X W f)) (hb : PW X (.BoolOp .And (b :: rest) pos) (gT X W g)) : PW X (.BoolOp .And (a :: b :: rest) pos) (gT X W (vAndT f g)) :=
  PWw (pw_and ha hb) fun σ H Q ⟨w, s, hH, ok, sl, hp⟩ => by
    subst hH
    refine gT.seq ok sl (wT w Q) hp fun d w1 ok1 x1 sl1 hp1 => ?_
    cases d with
    | true =>
      simp only [if_true] at hp1 ⊢
      exact ⟨w1, s, rfl, ok1, sl1, hp1.mono x1⟩
    | false =>
      simp only [Bool.false_eq_true, if_false] at hp1 ⊢
      exact hp1 w1 ok1 rfl x1
theorem qOrT {a b : Expr} {rest : List Expr} {f g : VT} {pos : Pos} (ha : PT X a (gT X W f)) (hb : PW X (.BoolOp .Or (b :: rest) pos) (gT X W g)) : PW X (.BoolOp .Or (a :: b :: rest) pos) (gT X W (vOrT f g)) :=
  PWw (pw_or ha hb) fun σ H Q ⟨w, s, hH, ok, sl, hp⟩ => by
    subst hH
    refine gT.seq ok sl (wT w Q) hp fun d w1 ok1 x1 sl1 hp1 => ?_
    cases d with
    | true =>
      simp only [if_true] at hp1 ⊢
      exact hp1 w1 ok1 rfl x1
    | false =>
      simp only [Bool.false_eq_true, if_false] at hp1 ⊢
      exact ⟨w1, s, rfl, ok1, sl1, hp1.mono x1⟩
/-- as values: all but the last True or False -/
def vAnd (f g : VE) : VE := fun s h => (f s h).bind fun p => match p.1 with
  | .bl true => g s p.2
  | .bl false => .ok (.bl false, p.2)
  | _ => .bad
def vOr (f g : VE) : VE := fun s h => (f s h).bind fun p => match p.1 with
  | .bl true => .ok (.bl true, p.2)
  | .bl false => g s p.2
  | _ => .bad
def vNot (f : VE) : VE := fun s h => (f s h).bind fun p => match p.1 with
  | .bl b => .ok (.bl (!b), p.2)
  | _ => .bad
theorem qOne {op : PySem.BoolOp} {a : Expr} {f : VE} {pos : Pos} (h : PE X a (gE X W f)) : PE X (.BoolOp op [a] pos) (gE X W f) := pe_one h
theorem qAnd {a b : Expr} {rest : List Expr} {f g : VE} {pos : Pos} (ha : PE X a (gE X W f)) (hb : PE X (.BoolOp .And (b :: rest) pos) (gE X W g)) : PE X (.BoolOp .And (a :: b :: rest) pos) (gE X W (vAnd f g)) :=
  PEw (pe_and ha hb) fun σ H Q ⟨w, s, hH, ok, sl, hp⟩ => by
    subst hH
    refine gE.seq ok sl (wE w Q) hp fun d w1 v ok1 x1 sl1 r1 hp1 => ?_
    cases r1 with
    | bl b =>
      refine ⟨b, rfl, ?_⟩
      cases b with
      | true =>
        simp only [if_true] at hp1 ⊢
        exact ⟨w1, s, rfl, ok1, sl1, hp1.mono x1⟩
      | false =>
        simp only [Bool.false_eq_true, if_false] at hp1 ⊢
        exact hp1 w1 _ ok1 rfl x1 (.bl _)
    | _ => exact hp1.elim
theorem qOr {a b : Expr} {rest : List Expr} {f g : VE} {pos : Pos} (ha : PE X a (gE X W f)) (hb : PE X (.BoolOp .Or (b :: rest) pos) (gE X W g)) : PE X (.BoolOp .Or (a :: b :: rest) pos) (gE X W (vOr f g)) :=
  PEw (pe_or ha hb) fun σ H Q ⟨w, s, hH, ok, sl, hp⟩ => by
    subst hH
    refine gE.seq ok sl (wE w Q) hp fun d w1 v ok1 x1 sl1 r1 hp1 => ?_
    cases r1 with
    | bl b =>
      refine ⟨b, rfl, ?_⟩
      cases b with
      | false =>
        simp only [Bool.false_eq_true, if_false] at hp1 ⊢
        exact ⟨w1, s, rfl, ok1, sl1, hp1.mono x1⟩
      | true =>
        simp only [if_true] at hp1 ⊢
        exact hp1 w1 _ ok1 rfl x1 (.bl _)
    | _ => exact hp1.elim
theorem qNot {a : Expr} {f : VE} {pos : Pos} (ha : PE X a (gE X W f)) : PE X (.UnaryOp .Not a pos) (gE X W (vNot f)) :=
  PEw (pe_not ha) fun σ H Q ⟨w, s, hH, ok, sl, hp⟩ => by
    subst hH
    refine gE.seq ok sl (wE w Q) hp fun d w1 v ok1 x1 sl1 r1 hp1 => ?_
    cases r1 with
    | bl b => exact ⟨b, rfl, hp1 w1 _ ok1 rfl x1 (.bl _)⟩
    | _ => exact hp1.elim
def vIf (c : VT) (f g : VE) : VE := fun s h => (c s h).bind fun p => if p.1 = true then f s p.2 else g s p.2
theorem qIf {c a b : Expr} {t : VT} {f g : VE} {pos : Pos} (hc : PT X c (gT X W t)) (ha : PE X a (gE X W f)) (hb : PE X b (gE X W g)) : PE X (.IfExp c a b pos) (gE X W (vIf t f g)) :=
  PEw (pe_ifExp hc ha hb) fun σ H Q ⟨w, s, hH, ok, sl, hp⟩ => by
    subst hH
    refine gT.seq ok sl (wE w Q) hp fun d w1 ok1 x1 sl1 hp1 => ?_
    cases d with
    | true =>
      simp only [if_true] at hp1 ⊢
      exact ⟨w1, s, rfl, ok1, sl1, hp1.mono x1⟩
    | false =>
      simp only [Bool.false_eq_true, if_false] at hp1 ⊢
      exact ⟨w1, s, rfl, ok1, sl1, hp1.mono x1⟩

/-! ### one-place operations; calls of built-ins by values -/
def UnD (K : PySem.W.Frag) (r : V → Hp → VK → Prop) (f : D → VH → Option (D × VH)) : Prop :=
  ∀ (w : Wd) (x : D) (vx : V) (Q : VK), w.Ok K → Rp K w x vx → PstO K w (f x w.h) Q → r vx w.H Q
def vUn (f : D → VH → Option (D × VH)) (a : VE) : VE := fun s h => (a s h).bind fun p => lift (f p.1 p.2)
theorem qUn {op : UnaryOp} {r : V → Hp → VK → Prop} {f : D → VH → Option (D × VH)} {a : Expr} {fa : VE} {pos : Pos} (ho : UnR X (unaryOp op) r) (hf : UnD X.K r f) (ha : PE X a (gE X W fa)) : PE X (.UnaryOp op a pos) (gE X W (vUn f fa)) :=
  PEw (pe_un ho ha) fun σ H Q ⟨w, s, hH, ok, sl, hp⟩ => by
    subst hH
    refine gE.seq ok sl (wE w Q) hp fun d w1 v ok1 x1 sl1 r1 hp1 => ?_
    exact hf w1 d v Q ok1 r1 (hp1.lift.mono x1)
def CallD (K : PySem.W.Frag) (r : List V → Hp → VK → Prop) (f : List D → VH → Option (D × VH)) : Prop :=
  ∀ (w : Wd) (xs : List D) (vs : List V) (Q : VK), w.Ok K → Rps K w xs vs → PstO K w (f xs w.h) Q → r vs w.H Q
def vBl (f : List D → VH → Option (D × VH)) (a : VA) : VE := fun s h => (a s h).bind fun p => lift (f p.1 p.2)
theorem vbl_red {r : List V → Hp → VK → Prop} {f : List D → VH → Option (D × VH)} {a : VA} (hf : CallD X.K r f) {σ : L2.St} {H : Hp} {Q : VK} (h : gE X W (vBl f a) σ H Q) : tCB r (gA X W a) σ H Q := by
  obtain ⟨w, s, hH, ok, sl, hp⟩ := h
  subst hH
  refine gA.seq ok sl (wE w Q) hp fun d w1 v ok1 x1 sl1 r1 hp1 => ?_
  exact hf w1 d v Q ok1 r1 (hp1.lift.mono x1)
theorem qBl {x : Str} {id : String} {p pos : Pos} {e : Expr} {es : List Expr} {g : VA} {r : List V → Hp → VK → Prop} {f : List D → VH → Option (D × VH)} (hc : CallR X (.builtin id) r) (hf : CallD X.K r f) (hm : X.mg x = none) (ha : PA X (e :: es) (gA X W g))
    (hg : Gl X x := by rfl) (hv : bootBuiltins x = some (.builtin id) := by decide +kernel) (hn : x ≠ "__name__" := by decide) (hdb : (x == ("__debug__" : Str)) = false := by decide)
    (he : starEach (e :: es) X.env = (false, eval e X.env) :: starEach es X.env := by rfl) (hpl : (backTo pos (starEach es X.env)).any (·.1) = false := by rfl) : PE X (.Call (.Name x p) (e :: es) [] pos) (gE X W (vBl f g)) :=
  PEw (pe_callB hc hg hm hv ha hn hdb he hpl) fun _ _ _ h => vbl_red hf h
theorem qTy {x : Str} {T : String} {p pos : Pos} {e : Expr} {es : List Expr} {g : VA} {r : List V → Hp → VK → Prop} {f : List D → VH → Option (D × VH)} (hc : CallR X (.type T) r) (hf : CallD X.K r f) (hm : X.mg x = none) (ha : PA X (e :: es) (gA X W g))
    (hg : Gl X x := by rfl) (hv : bootBuiltins x = some (.type T) := by decide +kernel) (hn : x ≠ "__name__" := by decide) (hdb : (x == ("__debug__" : Str)) = false := by decide)
    (he : starEach (e :: es) X.env = (false, eval e X.env) :: starEach es X.env := by rfl) (hpl : (backTo pos (starEach es X.env)).any (·.1) = false := by rfl) : PE X (.Call (.Name x p) (e :: es) [] pos) (gE X W (vBl f g)) :=
  PEw (pe_callTy hc hg hm hv ha hn hdb he hpl) fun _ _ _ h => vbl_red hf h

/-! ### subscripts and slices -/
theorem qIx {r : R2} {f : D → D → VH → Option (D × VH)} {a b : Expr} {fa fb : VE} {pos : Pos} (ho : IxR X r) (hf : OpD X.K r f) (ha : PE X a (gE X W fa)) (hb : PE X b (gE X W fb)) (hs : PlainIx b := by exact fun _ _ => rfl) : PE X (.Subscript a b pos) (gE X W (vOp f fa fb)) :=
  PEw (pe_ix ho ha hb hs) fun _ _ _ h => vop_red hf h
end
end Vq

/-! Part 3: statements, targets, loops, comprehensions. -/
namespace Vq
open PySem PySem.Spec PyProof.Rows L2

/-! ### blocks -/
def vSeq (f g : VSt) : VSt := fun s h => (f s h).bind fun p => match p with
  | (.nx, s', h') => g s' h'
  | q => .ok q
def vPass : VSt := fun s h => .ok (.nx, s, h)
def vBreak : VSt := fun s h => .ok (.bk, s, h)
def vCont : VSt := fun s h => .ok (.ct, s, h)
def vRet (f : VE) : VSt := fun s h => (f s h).bind fun p => .ok (.rt p.1, s, p.2)
def vRetN : VSt := fun s h => .ok (.rt .non, s, h)
def vDrop (f : VE) : VSt := fun s h => (f s h).bind fun p => .ok (.nx, s, p.2)
def vIfS (c : VT) (f g : VSt) : VSt := fun s h => (c s h).bind fun p => if p.1 = true then f s p.2 else g s p.2
def vAsg (f : VE) (g : VG) : VSt := fun s h => (f s h).bind fun p => (g p.1 s p.2).bind fun q => .ok (.nx, q.1, q.2)
def gName (i : Nat) : VG := fun d s h => .ok (s.set i (some d), h)
abbrev VGs := List D → VS → VH → Res (VS × VH)
def gsNil : VGs := fun l s h => match l with
  | [] => .ok (s, h)
  | _ => .bad
def gsCons (g : VG) (k : VGs) : VGs := fun l s h => match l with
  | d :: r => (g d s h).bind fun p => k r p.1 p.2
  | [] => .bad
def gTupl (n : Nat) (k : VGs) : VG := fun d s h => match d with
  | .tup l => if l.length = n then k l s h else .bad
  | _ => .bad
/-- a store at o[i] by values: new heap -/
def SetD (K : PySem.W.Frag) (t : TSet) (f : D → D → D → VH → Option VH) : Prop :=
  ∀ (w : Wd) (o i d : D) (vo vi vd : V) (Q : Hp → Prop), w.Ok K → Rp K w o vo → Rp K w i vi → Rp K w d vd → (match f o i d w.h with
    | some h => ∀ w', w'.Ok K → w'.h = h → Wd.Ext K w w' → Q w'.H
    | none => False) → t vo vi vd w.H Q
def gSubs (f : D → D → D → VH → Option VH) (o i : VE) : VG := fun d s h => (o s h).bind fun p => (i s p.2).bind fun q => (lift (f p.1 q.1 d q.2)).bind fun h' => .ok (s, h')

section
variable {X : Cx} {W : WX}
theorem qsNil : PSs X [] (gS X W vPass) := PSsw pss_nil fun D σ H ⟨w, s, hH, ok, sl, hp⟩ => by
  subst hH
  exact hp w σ ok rfl (.refl w) sl
theorem vseq_red {f g : VSt} {D : Ends} {σ : L2.St} {H : Hp} (h : gS X W (vSeq f g) D σ H) : gS X W f { D with nx := gS X W g D } σ H := by
  obtain ⟨w, s, hH, ok, sl, hp⟩ := h
  refine ⟨w, s, hH, ok, sl, ?_⟩
  unfold vSeq at hp
  cases e : f s w.h with
  | bad => rw [e] at hp; exact hp
  | ex x s' h' => rw [e] at hp; exact hp
  | ok p =>
    rw [e] at hp
    obtain ⟨o, s', h'⟩ := p
    cases o with
    | nx =>
      intro w' σ' ok' e' x' sl'
      refine ⟨w', s', rfl, ok', sl', ?_⟩
      rw [e']
      exact PstS.mono x' hp
    | rt d => exact hp
    | bk => exact hp
    | ct => exact hp
theorem qsCons {st : Stmt} {rest : List Stmt} {f g : VSt} (h1 : PS X st (gS X W f)) (h2 : PSs X rest (gS X W g)) : PSs X (st :: rest) (gS X W (vSeq f g)) :=
  PSsw (pss_cons h1 h2) fun _ _ _ h => vseq_red h
theorem qsOne {st : Stmt} {f : VSt} (h1 : PS X st (gS X W f)) : PSs X [st] (gS X W f) := pss_one h1
theorem qPass {pos : Pos} : PS X (.Pass pos) (gS X W vPass) := PSw ps_pass fun D σ H ⟨w, s, hH, ok, sl, hp⟩ => by
  subst hH
  exact hp w σ ok rfl (.refl w) sl
theorem qBreak {pos : Pos} : PS X (.Break pos) (gS X W vBreak) := PSw ps_break fun D σ H ⟨w, s, hH, ok, sl, hp⟩ => by
  subst hH
  exact hp w σ ok rfl (.refl w) sl
theorem qCont {pos : Pos} : PS X (.Continue pos) (gS X W vCont) := PSw ps_continue fun D σ H ⟨w, s, hH, ok, sl, hp⟩ => by
  subst hH
  exact hp w σ ok rfl (.refl w) sl
theorem qRet {e : Expr} {f : VE} {pos : Pos} (h : PE X e (gE X W f)) : PS X (.Return (some e) pos) (gS X W (vRet f)) := PSw (ps_ret h) fun D σ H ⟨w, s, hH, ok, sl, hp⟩ => by
  subst hH
  exact gE.seq ok sl (wS w D) hp fun d w1 v ok1 x1 sl1 r1 hp1 => hp1 w1 v ok1 rfl x1 r1
theorem qRetN {pos : Pos} : PS X (.Return none pos) (gS X W vRetN) := PSw ps_retN fun D σ H ⟨w, s, hH, ok, sl, hp⟩ => by
  subst hH
  exact hp w .non ok rfl (.refl w) .non
theorem qDrop {e : Expr} {f : VE} {pos : Pos} (h : PE X e (gE X W f)) (hs : swapsWith e none pos.line X.env = pure false := by rfl) : PS X (.Expr e pos) (gS X W (vDrop f)) := PSw (ps_expr h hs) fun D σ H ⟨w, s, hH, ok, sl, hp⟩ => by
  subst hH
  exact gE.seq ok sl (wS w D) hp fun d w1 v ok1 x1 sl1 r1 hp1 => hp1 w1 σ ok1 rfl x1 sl1
theorem qIfS {c : Expr} {a b : List Stmt} {t : VT} {f g : VSt} {pos : Pos} (hc : PT X c (gT X W t)) (ha : PSs X a (gS X W f)) (hb : PSs X b (gS X W g)) : PS X (.If c a b pos) (gS X W (vIfS t f g)) := PSw (ps_if hc ha hb) fun D σ H ⟨w, s, hH, ok, sl, hp⟩ => by
  subst hH
  refine gT.seq ok sl (wS w D) hp fun d w1 ok1 x1 sl1 hp1 => ?_
  cases d with
  | true =>
    simp only [if_true] at hp1 ⊢
    exact ⟨w1, s, rfl, ok1, sl1, hp1.mono x1⟩
  | false =>
    simp only [Bool.false_eq_true, if_false] at hp1 ⊢
    exact ⟨w1, s, rfl, ok1, sl1, hp1.mono x1⟩

/-! ### targets -/
theorem qgN {i : Nat} {x : Str} {pos : Pos} (hN : X.N.Nodup) (hi : X.N[i]? = some x := by rfl) (hx : Loc X.env.scope x := by first | exact Or.inl rfl | exact Or.inr rfl) (hf : X.fn x = true ∨ X.env.scope.names.lookup x = some .local := by first | exact .inl rfl | exact .inr rfl | assumption) :
    PG X (.Name x pos) (gG X W (gName i)) := PGw (pg_name hN hi hx hf) fun v σ H Q ⟨w, s, d, hH, ok, sl, r, hp⟩ => by
  subst hH
  exact hp w _ ok rfl (.refl w) (sl.set i r)
def gGs (X : Cx) (W : WX) (f : VGs) : TGs := fun vs σ H Q => ∃ w s ds, w.H = H ∧ w.Ok X.K ∧ Slots X.K w s σ ∧ Rps X.K w ds vs ∧ PstG X W w (f ds s w.h) Q
theorem PGsw {e : List Expr} {t t' : TGs} (h : PGs X e t) (i : ∀ v σ H Q, t' v σ H Q → t v σ H Q) : PGs X e t' := ⟨fun pins s σ H v u Q I r q => h.run pins s σ H v u Q I r (i v σ H Q q)⟩
theorem qgs0 : PGs X [] (gGs X W gsNil) := PGsw pgs_nil fun v σ H Q ⟨w, s, ds, hH, ok, sl, r, hp⟩ => by
  subst hH
  cases r with
  | nil => exact ⟨rfl, hp w σ ok rfl (.refl w) sl⟩
  | cons _ _ => exact hp.elim
theorem qgs {e : Expr} {es : List Expr} {g : VG} {k : VGs} (h1 : PG X e (gG X W g)) (h2 : PGs X es (gGs X W k)) (hs : (assignEach (e :: es) X.env).map (·.2) = assign e X.env :: (assignEach es X.env).map (·.2) := by rfl) : PGs X (e :: es) (gGs X W (gsCons g k)) :=
  PGsw (pgs_cons h1 h2 hs) fun v σ H Q ⟨w, s, ds, hH, ok, sl, r, hp⟩ => by
    subst hH
    cases r with
    | nil => exact hp.elim
    | @cons d ds v vs r rr =>
      refine ⟨_, _, rfl, w, s, _, rfl, ok, sl, r, ?_⟩
      unfold gsCons at hp
      cases e' : g d s w.h with
      | bad => simp only [e'] at hp; exact hp
      | ex _ _ _ => simp only [e'] at hp; exact hp
      | ok p =>
        simp only [e'] at hp
        intro w' σ' ok' eh x' sl'
        refine ⟨w', p.1, ds, rfl, ok', sl', x'.rps rr, ?_⟩
        rw [eh]
        exact PstG.mono x' hp
theorem qgT {es : List Expr} {k : VGs} {n m : Nat} {pos : Pos} (hc : X.calm = true) (h : PGs X es (gGs X W k)) (hn : (assignEach es X.env).length = n := by rfl) (hst : (assignEach es X.env).findIdx? (·.1) = none := by rfl) : PG X (.Tuple es m pos) (gG X W (gTupl n k)) :=
  PGw (pg_tup hc h hn hst) fun v σ H Q ⟨w, s, d, hH, ok, sl, r, hp⟩ => by
    subst hH
    cases r with
    | @tup a vs ds hq rr =>
      refine ⟨_, _, rfl, hq, ?_⟩
      unfold gTupl at hp
      simp only at hp
      by_cases hl : ds.length = n
      · rw [if_pos hl] at hp
        exact ⟨by rw [← rr.length]; exact hl, w, s, ds, rfl, ok, sl, rr, hp⟩
      · rw [if_neg hl] at hp
        exact hp.elim
    | _ => exact hp.elim
theorem qgS {o i : Expr} {fo fi : VE} {t : TSet} {f : D → D → D → VH → Option VH} {pos : Pos} (hs : PSet X t) (hf : SetD X.K t f) (ho : PE X o (gE X W fo)) (hi : PE X i (gE X W fi))
    (ha : ∀ v, assign (.Subscript o i pos) X.env v = (do
      let ov ← holding [v] (eval o X.env)
      let iv ← holding [v, ov] (eval i X.env)
      standAt pos
      holding [v, ov, iv] (setItem ov iv v)
      release [v, ov, iv] []) := by intro _; rfl) : PG X (.Subscript o i pos) (gG X W (gSubs f fo fi)) :=
  PGw (pg_sub ho hi hs ha) fun v σ H Q ⟨w, s, d, hH, ok, sl, r, hp⟩ => by
    subst hH
    refine gE.seq ok sl (wG w Q) hp fun d1 w1 v1 ok1 x1 sl1 r1 hp1 => ?_
    refine gE.seq ok1 sl1 ((wG w Q).mono x1) hp1 fun d2 w2 v2 ok2 x2 sl2 r2 hp2 => ?_
    refine hf w2 d1 d2 d v1 v2 v _ ok2 (x2.rp r1) r2 ((x1.trans x2).rp r) ?_
    revert hp2
    simp only
    cases f d1 d2 d w2.h with
    | none => exact fun z => z
    | some h' => exact fun z w' ok' e x' => z w' σ ok' e ((x1.trans x2).trans x') (sl2.ext x')
theorem qAsg {tg e : Expr} {f : VE} {g : VG} {pos : Pos} (he : PE X e (gE X W f)) (hg : PG X tg (gG X W g)) (hs : swapsWithSole [tg] e pos.line X.env = pure false := by rfl) (hw : swappedStores [tg] e X.env = pure none := by rfl)
    (h1 : (assignEach [tg] X.env).map (·.2) = [assign tg X.env] := by rfl) : PS X (.Assign [tg] e pos) (gS X W (vAsg f g)) :=
  PSw (ps_asg he hg hs hw h1) fun D σ H ⟨w, s, hH, ok, sl, hp⟩ => by
    subst hH
    refine gE.seq ok sl (wS w D) hp fun d w1 v ok1 x1 sl1 r1 hp1 => ?_
    refine ⟨w1, s, d, rfl, ok1, sl1, r1, ?_⟩
    revert hp1
    simp only
    cases g d s w1.h with
    | bad => exact fun z => z
    | ex _ _ _ => exact fun z => PstX.mono x1 z
    | ok p => exact fun z w' σ' ok' e x' sl' => z w' σ' ok' e (x1.trans x') sl'
theorem qSet {i : Nat} {x : Str} {e : Expr} {f : VE} {pos pos' : Pos} (hN : X.N.Nodup) (he : PE X e (gE X W f)) (hi : X.N[i]? = some x := by rfl) (hx : Loc X.env.scope x := by first | exact Or.inl rfl | exact Or.inr rfl) (hs : swapsWith e (some (.Name x pos')) pos.line X.env = pure false := by rfl)
    (hf : X.fn x = true ∨ X.env.scope.names.lookup x = some .local := by first | exact .inl rfl | exact .inr rfl | assumption) : PS X (.Assign [.Name x pos'] e pos) (gS X W (vAsg f (gName i))) :=
  PSw (ps_set hN hi hx he hs hf) fun D σ H ⟨w, s, hH, ok, sl, hp⟩ => by
    subst hH
    exact gE.seq ok sl (wS w D) hp fun d w1 v ok1 x1 sl1 r1 hp1 => hp1 w1 _ ok1 rfl x1 (sl1.set i r1)
/-- a, b = x, y with two plain names -/
def vPar (i j : Nat) (a : VA) : VSt := fun s h => (a s h).bind fun p => match p.1 with
  | [x, y] => .ok (.nx, (s.set i (some x)).set j (some y), p.2)
  | _ => .bad
theorem qPar {i j : Nat} {x y : Str} {a b : Expr} {f : VA} {px py pt : Pos} {kt k2 pt2} {pos : Pos} (hc : X.calm = true) (hN : X.N.Nodup) (hi : X.N[i]? = some x) (hj : X.N[j]? = some y) (hij : i ≠ j) (ha : PA X [a, b] (gA X W f))
    (h : ∀ t, PA X [a, b] t → PS X (.Assign [.Tuple [.Name x px, .Name y py] kt pt] (.Tuple [a, b] k2 pt2) pos) (tPar i j t)) : PS X (.Assign [.Tuple [.Name x px, .Name y py] kt pt] (.Tuple [a, b] k2 pt2) pos) (gS X W (vPar i j f)) :=
  PSw (h _ ha) fun D σ H ⟨w, s, hH, ok, sl, hp⟩ => by
    subst hH
    refine gA.seq ok sl (wS w D) hp fun d w1 v ok1 x1 sl1 r1 hp1 => ?_
    cases r1 with
    | nil => exact hp1.elim
    | cons r1 rr =>
      cases rr with
      | nil => exact hp1.elim
      | cons r2 rr =>
        cases rr with
        | cons _ _ => exact hp1.elim
        | nil => exact ⟨_, _, rfl, hp1 w1 _ ok1 rfl x1 ((sl1.set i r1).set j r2)⟩

/-! ### what is walked -/
/-- how the turns of J follow the items of src -/
def Walks (K : PySem.W.Frag) (w0 : Wd) (J : It) (src : VH → Option (List D)) : Prop :=
  ∀ (w : Wd) (i : Nat) (ys : List D), Wd.Ext K w0 w → w.Ok K → src w.h = some ys →
    (ys[i]? = none → J.stop i w.H) ∧ ∀ d, ys[i]? = some d → J.go i w.H ∧ ∀ x H', J.yld i w.H x H' → ∃ w', w'.H = H' ∧ w'.h = w.h ∧ w'.Ok K ∧ Wd.Ext K w w' ∧ Rp K w' d x
abbrev VI := VS → VH → Res ((VH → Option (List D)) × VH)
def PstI (X : Cx) (W : WX) (w : Wd) (r : Res ((VH → Option (List D)) × VH)) (R : It → Hp → Prop) : Prop :=
  match r with
  | .ok p => ∀ w' J, w'.Ok X.K → w'.h = p.2 → Wd.Ext X.K w w' → Walks X.K w' J p.1 → R J w'.H
  | .ex x s h => PstX X W w x s h
  | .bad => False
def gI (X : Cx) (W : WX) (f : VI) : TI := fun σ H R => ∃ w s, w.H = H ∧ w.Ok X.K ∧ Slots X.K w s σ ∧ PstI X W w (f s w.h) R
theorem wI (w : Wd) (R : It → Hp → Prop) : Wants X W w (fun r => PstI X W w r R) := ⟨id, fun _ _ _ h => h⟩
theorem PIw {tg e : Expr} {t t' : TI} (h : PI X tg e t) (i : ∀ σ H Q, t' σ H Q → t σ H Q) : PI X tg e t' := ⟨fun pins s σ H Q I q => h.run pins s σ H Q I (i σ H Q q)⟩

/-! ### for -/
def loopF (src : VH → Option (List D)) (g : VG) (body : VSt) : Nat → Nat → VS → VH → Res (Out × VS × VH)
  | 0, i, s, h => match src h with
    | some ys => if ys.length ≤ i then .ok (.nx, s, h) else .bad
    | none => .bad
  | n + 1, i, s, h => match src h with
    | none => .bad
    | some ys => match ys[i]? with
      | none => .ok (.nx, s, h)
      | some d => (g d s h).bind fun q => (body q.1 q.2).bind fun r => match r with
        | (.nx, s', h') => loopF src g body n (i + 1) s' h'
        | (.ct, s', h') => loopF src g body n (i + 1) s' h'
        | (.bk, s', h') => .ok (.nx, s', h')
        | (.rt d, s', h') => .ok (.rt d, s', h')
def vFor (it : VI) (g : VG) (body : VSt) : VSt := fun s h => (it s h).bind fun p => match p.1 p.2 with
  | some ys => loopF p.1 g body ys.length 0 s p.2
  | none => .bad
theorem qFor {tg iter : Expr} {body : List Stmt} {it : VI} {g : VG} {b : VSt} {pos : Pos} (hp : PassesOwn (model X.prog X.w) X.A X.env X.xe) (hc : X.calm = true) (hi : PI X tg iter (gI X W it)) (hg : PG X tg (gG X W g)) (hb : PSs X body (gS X W b))
    (hs : ∀ x, foldedSetIterable iter X.env x = pure x := by intro _; rfl) : PS X (.For tg iter body [] pos) (gS X W (vFor it g b)) :=
  PSw (ps_for hp hc hi hg hb hs) fun E σ H ⟨w, s, hH, ok, sl, hq⟩ => by
    subst hH
    refine ⟨w, s, rfl, ok, sl, ?_⟩
    unfold vFor at hq
    cases e : it s w.h with
    | bad => rw [e] at hq; exact hq
    | ex _ _ _ => rw [e] at hq; exact hq
    | ok p =>
      rw [e] at hq
      obtain ⟨src, h0⟩ := p
      intro w0 J ok0 eh x0 wk
      simp only [Res.ok_bind] at hq
      cases e0 : src h0 with
      | none => rw [e0] at hq; exact hq.elim
      | some ys =>
        rw [e0] at hq
        simp only at hq
        have eh : w0.h = h0 := eh
        subst eh
        refine ⟨fun i m σ H => ∃ w s, w.H = H ∧ w.Ok X.K ∧ Wd.Ext X.K w0 w ∧ Slots X.K w s σ ∧ PstS X W w (loopF src g b m i s w.h) E, ⟨ys.length, w0, s, rfl, ok0, .refl w0, sl.ext x0, hq.mono x0⟩, ?_⟩
        rintro i m σ H ⟨w, s, rfl, ok, x, sl, hq⟩
        cases es : src w.h with
        | none => cases m <;> (unfold loopF at hq; rw [es] at hq; exact hq.elim)
        | some zs =>
          obtain ⟨k1, k2⟩ := wk w i zs x ok es
          cases ei : zs[i]? with
          | none =>
            refine .inl ⟨k1 ei, ?_⟩
            cases m with
            | zero =>
              unfold loopF at hq
              rw [es] at hq
              simp only at hq
              rw [if_pos (List.getElem?_eq_none_iff.mp ei)] at hq
              exact hq w σ ok rfl (.refl w) sl
            | succ m =>
              unfold loopF at hq
              simp only [es, ei] at hq
              exact hq w σ ok rfl (.refl w) sl
          | some d =>
            obtain ⟨go, yl⟩ := k2 d ei
            cases m with
            | zero =>
              unfold loopF at hq
              rw [es] at hq
              simp only at hq
              rw [if_neg (by have := (List.getElem?_eq_some_iff.mp ei).1; omega)] at hq
              exact hq.elim
            | succ m =>
              unfold loopF at hq
              simp only [es, ei] at hq
              refine .inr ⟨go, fun σ' H' => ∃ w s, w.H = H' ∧ w.Ok X.K ∧ Wd.Ext X.K w0 w ∧ Slots X.K w s σ' ∧ PstS X W w (loopF src g b m (i + 1) s w.h) E, fun σ' H' z => ⟨m, Nat.lt_succ_self m, z⟩, fun v H' y => ?_⟩
              obtain ⟨w', rfl, eh', ok', x', r'⟩ := yl v H' y
              refine ⟨w', s, d, rfl, ok', sl.ext x', r', ?_⟩
              rw [eh']
              cases eg : g d s w.h with
              | bad => rw [eg] at hq; exact hq.elim
              | ex _ _ _ => rw [eg] at hq; exact PstX.mono x' hq
              | ok q =>
                rw [eg] at hq
                obtain ⟨s2, h2⟩ := q
                intro w2 σ2 ok2 eh2 x2 sl2
                refine ⟨w2, s2, rfl, ok2, sl2, ?_⟩
                rw [show w2.h = h2 from eh2]
                simp only [Res.ok_bind] at hq
                have X2 : Wd.Ext X.K w w2 := x'.trans x2
                cases eb : b s2 h2 with
                | bad => rw [eb] at hq; exact hq.elim
                | ex _ _ _ => rw [eb] at hq; exact PstX.mono X2 hq
                | ok r =>
                  rw [eb] at hq
                  obtain ⟨o, s3, h3⟩ := r
                  cases o with
                  | nx => exact fun w3 σ3 ok3 e3 x3 sl3 => ⟨w3, s3, rfl, ok3, (x.trans X2).trans x3, sl3, by rw [e3]; exact PstS.mono (X2.trans x3) hq⟩
                  | ct => exact fun w3 σ3 ok3 e3 x3 sl3 => ⟨w3, s3, rfl, ok3, (x.trans X2).trans x3, sl3, by rw [e3]; exact PstS.mono (X2.trans x3) hq⟩
                  | bk => exact fun w3 σ3 ok3 e3 x3 sl3 => hq w3 σ3 ok3 e3 (X2.trans x3) sl3
                  | rt d => exact fun w3 v3 ok3 e3 x3 r3 => hq w3 v3 ok3 e3 (X2.trans x3) r3

/-! ### while -/
def whileF (c : VT) (body : VSt) : Nat → VS → VH → Res (Out × VS × VH)
  | 0, _, _ => .bad
  | n + 1, s, h => (c s h).bind fun p => if p.1 = true then (body s p.2).bind fun r => match r with
      | (.nx, s', h') => whileF c body n s' h'
      | (.ct, s', h') => whileF c body n s' h'
      | (.bk, s', h') => .ok (.nx, s', h')
      | (.rt d, s', h') => .ok (.rt d, s', h')
    else .ok (.nx, s, p.2)
/-- so many turns are let -/
def vWhile (n : Nat) (c : VT) (body : VSt) : VSt := fun s h => whileF c body n s h
theorem qWhile {c : Expr} {body : List Stmt} {t : VT} {b : VSt} {pos : Pos} (n : Nat) (hp : PassesOwn (model X.prog X.w) X.A X.env X.xe) (hc : PT X c (gT X W t)) (hb : PSs X body (gS X W b)) : PS X (.While c body [] pos) (gS X W (vWhile n t b)) :=
  PSw (ps_while hp hc hb) fun E σ H ⟨w, s, hH, ok, sl, hq⟩ => by
    refine ⟨fun m σ H => ∃ w s, w.H = H ∧ w.Ok X.K ∧ Slots X.K w s σ ∧ PstS X W w (whileF t b m s w.h) E, ⟨n, w, s, hH, ok, sl, hq⟩, ?_⟩
    rintro m σ H ⟨w, s, rfl, ok, sl, hq⟩
    cases m with
    | zero => exact hq.elim
    | succ m =>
      unfold whileF at hq
      refine gT.seq ok sl (wS w E) hq fun d w1 ok1 x1 sl1 hq1 => ?_
      cases d with
      | false =>
        simp only [Bool.false_eq_true, if_false] at hq1 ⊢
        exact hq1 w1 σ ok1 rfl x1 sl1
      | true =>
        simp only [if_true] at hq1 ⊢
        refine ⟨fun σ' H' => ∃ w s, w.H = H' ∧ w.Ok X.K ∧ Slots X.K w s σ' ∧ PstS X W w (whileF t b m s w.h) E, fun σ' H' z => ⟨m, Nat.lt_succ_self m, z⟩, w1, s, rfl, ok1, sl1, ?_⟩
        cases eb : b s w1.h with
        | bad => rw [eb] at hq1; exact hq1.elim
        | ex _ _ _ => rw [eb] at hq1; exact PstX.mono x1 hq1
        | ok r =>
          rw [eb] at hq1
          obtain ⟨o, s3, h3⟩ := r
          cases o with
          | nx => exact fun w3 σ3 ok3 e3 x3 sl3 => ⟨w3, s3, rfl, ok3, sl3, by rw [e3]; exact PstS.mono (x1.trans x3) hq1⟩
          | ct => exact fun w3 σ3 ok3 e3 x3 sl3 => ⟨w3, s3, rfl, ok3, sl3, by rw [e3]; exact PstS.mono (x1.trans x3) hq1⟩
          | bk => exact fun w3 σ3 ok3 e3 x3 sl3 => hq1 w3 σ3 ok3 e3 (x1.trans x3) sl3
          | rt d => exact fun w3 v3 ok3 e3 x3 r3 => hq1 w3 v3 ok3 e3 (x1.trans x3) r3

/-! ### comprehensions -/
def vwipe (s : VS) : List Nat → VS
  | [] => s
  | v :: vs => (vwipe s vs).set v none
theorem Slots.wipe {K : PySem.W.Frag} {w : Wd} {s : VS} {σ : L2.St} (h : Slots K w s σ) : ∀ vs : List Nat, Slots K w (vwipe s vs) (wipe σ vs)
  | [] => h
  | v :: vs => by
    have q := Slots.wipe h vs
    refine ⟨by show (List.set _ _ _).length = (List.set _ _ _).length; rw [List.length_set, List.length_set]; exact q.1, fun j e z => ?_⟩
    have z : ((vwipe s vs).set v none)[j]? = some (some e) := z
    by_cases hj : v = j
    · subst hj
      by_cases hl : v < (vwipe s vs).length
      · rw [List.getElem?_set_self hl] at z
        cases z
      · rw [List.getElem?_eq_none (by rw [List.length_set]; omega)] at z
        cases z
    · rw [List.getElem?_set_ne hj] at z
      obtain ⟨u, a, b⟩ := q.2 j e z
      exact ⟨u, by show ((L2.wipe σ vs).set v none)[j]? = _; rw [List.getElem?_set_ne hj]; exact a, b⟩
/-- a comprehension's target: names of its own -/
abbrev VP := D → VS → Option VS
abbrev VPs := List D → VS → Option VS
def pN (i : Nat) : VP := fun d s => some (s.set i (some d))
def psNil : VPs := fun l s => match l with
  | [] => some s
  | _ => none
def psCons (g : VP) (k : VPs) : VPs := fun l s => match l with
  | d :: r => (g d s).bind fun s' => k r s'
  | [] => none
def pTup (n : Nat) (k : VPs) : VP := fun d s => match d with
  | .tup l => if l.length = n then k l s else none
  | _ => none
def TgD (K : PySem.W.Frag) (vs : List Nat) (g : TG) (f : VP) : Prop :=
  ∀ (w : Wd) (s s' : VS) (σ : L2.St) (d : D) (v : V) (Q : L2.St → Hp → Prop), w.Ok K → Slots K w s σ → Rp K w d v → f d s = some s' →
    (∀ σ2, Slots K w s' σ2 → wipe σ2 vs = wipe σ vs → Q σ2 w.H) → g v σ w.H Q
def TgsD (K : PySem.W.Frag) (vs : List Nat) (g : TGs) (f : VPs) : Prop :=
  ∀ (w : Wd) (s s' : VS) (σ : L2.St) (d : List D) (v : List V) (Q : L2.St → Hp → Prop), w.Ok K → Slots K w s σ → Rps K w d v → f d s = some s' →
    (∀ σ2, Slots K w s' σ2 → wipe σ2 vs = wipe σ vs → Q σ2 w.H) → g v σ w.H Q
theorem wipe_set {vs : List Nat} {i : Nat} (h : i ∈ vs) (σ : L2.St) (x : Option V) : wipe (σ.set i x) vs = wipe σ vs := by
  have comm : ∀ (vs : List Nat) (σ : L2.St) (i : Nat) (x : Option V), i ∉ vs → wipe (σ.set i x) vs = (wipe σ vs).set i x := by
    intro vs
    induction vs with
    | nil => intros; rfl
    | cons v vs ih =>
      intro σ i x hi
      have h1 : i ≠ v := fun z => hi (by rw [z]; exact List.mem_cons_self)
      have h2 : i ∉ vs := fun z => hi (List.mem_cons_of_mem _ z)
      show (wipe (σ.set i x) vs).set v none = ((wipe σ vs).set v none).set i x
      rw [ih σ i x h2, List.set_comm _ _ h1]
  induction vs with
  | nil => cases h
  | cons v vs ih =>
    show (wipe (σ.set i x) vs).set v none = (wipe σ vs).set v none
    by_cases hi : i ∈ vs
    · rw [ih hi]
    · have e : i = v := by
        rcases List.mem_cons.mp h with q | q
        · exact q
        · exact absurd q hi
      subst e
      rw [comm vs σ i x hi, List.set_set]
theorem wipe_wipe (vs : List Nat) (σ : L2.St) : wipe (wipe σ vs) vs = wipe σ vs := by
  have gen : ∀ us : List Nat, (∀ u ∈ us, u ∈ vs) → wipe (wipe σ us) vs = wipe σ vs := by
    intro us
    induction us with
    | nil => intro _; rfl
    | cons u us ih =>
      intro h
      show wipe ((wipe σ us).set u none) vs = _
      rw [wipe_set (h u List.mem_cons_self)]
      exact ih fun v hv => h v (List.mem_cons_of_mem _ hv)
  exact gen vs fun _ h => h
theorem tgd_name {K : PySem.W.Frag} {vs : List Nat} {i : Nat} (hi : i ∈ vs) : TgD K vs (L2.gName i) (pN i) := fun w s s' σ d v Q ok sl r e h => by
  cases e
  exact h _ (sl.set i r) (wipe_set hi σ _)
theorem tgsd_nil {K : PySem.W.Frag} {vs : List Nat} : TgsD K vs gNil psNil := fun w s s' σ d v Q ok sl r e h => by
  cases r with
  | nil => cases e; exact ⟨rfl, h σ sl rfl⟩
  | cons _ _ => cases e
theorem tgsd_cons {K : PySem.W.Frag} {vs : List Nat} {g : TG} {f : VP} {k : TGs} {m : VPs} (a : TgD K vs g f) (b : TgsD K vs k m) : TgsD K vs (gCons g k) (psCons f m) := fun w s s' σ d v Q ok sl r e h => by
  cases r with
  | nil => cases e
  | @cons d ds v vs' r rr =>
    unfold psCons at e
    simp only at e
    cases e1 : f d s with
    | none => rw [e1] at e; cases e
    | some s1 =>
      rw [e1] at e
      exact ⟨_, _, rfl, a w s s1 σ d v _ ok sl r e1 fun σ2 sl2 w2 => b w s1 s' σ2 ds vs' _ ok sl2 rr e fun σ3 sl3 w3 => h σ3 sl3 (w3.trans w2)⟩
theorem tgd_tup {K : PySem.W.Frag} {vs : List Nat} {n : Nat} {k : TGs} {m : VPs} (a : TgsD K vs k m) : TgD K vs (L2.gTup K n k) (pTup n m) := fun w s s' σ d v Q ok sl r e h => by
  cases r with
  | @tup a' us ds hq rr =>
    unfold pTup at e
    simp only at e
    by_cases hl : ds.length = n
    · rw [if_pos hl] at e
      exact ⟨_, _, rfl, hq, by rw [← rr.length]; exact hl, a w s s' σ ds us Q ok sl rr e h⟩
    · rw [if_neg hl] at e
      cases e
  | _ => cases e
/-- the same as the target of a for -/
def gP (p : VP) : VG := fun d s h => match p d s with
  | some s' => .ok (s', h)
  | none => .bad
theorem qgP {vs : List Nat} {tg : Expr} {g : TG} {p : VP} (h : PG X tg g) (hp : TgD X.K vs g p) : PG X tg (gG X W (gP p)) :=
  PGw h fun v σ H Q ⟨w, s, d, hH, ok, sl, r, q⟩ => by
    subst hH
    unfold gP at q
    cases e : p d s with
    | none => rw [e] at q; exact q.elim
    | some s' =>
      rw [e] at q
      exact hp w s s' σ d v Q ok sl r e fun σ2 sl2 _ => q w σ2 ok rfl (.refl w) sl2

/-- what cannot be said within a comprehension: an error that leaves it -/
def noex {α : Type} : Res α → Res α
  | .ok a => .ok a
  | _ => .bad
@[simp] theorem noex_ok {α : Type} (a : α) : noex (.ok a) = .ok a := rfl
@[simp] theorem noex_bad {α : Type} : noex (.bad : Res α) = .bad := rfl
@[simp] theorem noex_ex {α : Type} (x : Exn) (s : VS) (h : VH) : noex (.ex x s h : Res α) = .bad := rfl
abbrev W0 : WX := fun _ _ _ _ => False
def putAt (n : Nat) (d : D) (h : VH) : Res VH := match h[n]? with
  | some (.lst acc) => if acc.length < sizeLine then .ok (h.set n (.lst (acc ++ [d]))) else .bad
  | _ => .bad
def lcF (src : VH → Option (List D)) (vs : List Nat) (g : VP) (t : VT) (e : VE) (n : Nat) (s : VS) : Nat → Nat → VH → Res VH
  | 0, i, h => match src h with
    | some ys => if ys.length ≤ i then .ok h else .bad
    | none => .bad
  | k + 1, i, h => match src h with
    | none => .bad
    | some ys => match ys[i]? with
      | none => .ok h
      | some d => match g d (vwipe s vs) with
        | none => .bad
        | some s' => (noex (t s' h)).bind fun c => if c.1 = true then (noex (e s' c.2)).bind fun y => (putAt n y.1 y.2).bind fun h' => lcF src vs g t e n s k (i + 1) h'
          else lcF src vs g t e n s k (i + 1) c.2
def vLc (it : VI) (vs : List Nat) (g : VP) (t : VT) (e : VE) : VE := fun s h => (it s h).bind fun p => match p.1 (p.2 ++ [.lst []]) with
  | some ys => (lcF p.1 vs g t e p.2.length s ys.length 0 (p.2 ++ [.lst []])).bind fun h' => .ok (.ref p.2.length, h')
  | none => .bad
def vYes : VT := fun _ h => .ok (true, h)
theorem qYes (X : Cx) (W : WX) : PTs X [] (gT X W vYes) := ⟨fun pins s σ H Q I h => pts_nil.run pins s σ H Q I (by
  obtain ⟨w, s', hH, ok, sl, hp⟩ := h
  subst hH
  exact hp w ok rfl (.refl w))⟩
theorem lc_red {wi : VI} {g : TG} {p : VP} {t : VT} {e : VE} {vs : List Nat} (hg : TgD X.K vs g p) {σ : L2.St} {H : Hp} {Q : VK} (h : gE X W (vLc wi vs p t e) σ H Q) : tLc (gI X W wi) g (gT X W0 t) (gE X W0 e) vs σ H Q := by
  obtain ⟨w, s, hH, ok, sl, hq⟩ := h
  subst hH
  refine ⟨w, s, rfl, ok, sl, ?_⟩
  unfold vLc at hq
  cases ew : wi s w.h with
  | bad => rw [ew] at hq; exact hq
  | ex _ _ _ => rw [ew] at hq; exact hq
  | ok pr =>
    rw [ew] at hq
    obtain ⟨src, h0⟩ := pr
    intro w0 J ok0 eh x0 wk D hD
    have eh : w0.h = h0 := eh
    subst eh
    simp only [Res.ok_bind] at hq
    cases e0 : src (w0.h ++ [.lst []]) with
    | none => rw [e0] at hq; exact hq.elim
    | some ys =>
      rw [e0] at hq
      simp only at hq
      have x1 : Wd.Ext X.K w0 (w0.newL D [] []) := Wd.ext_newL hD
      have ok1 : (w0.newL D [] []).Ok X.K := ok0.newL hD .nil
      have ιD : (w0.newL D [] []).ι w0.h.length = D := if_pos rfl
      refine ⟨fun i m H => ∃ w, w.H = H ∧ w.Ok X.K ∧ Wd.Ext X.K (w0.newL D [] []) w ∧ PstE X W w ((lcF src vs p t e w0.h.length s m i w.h).bind fun h' => .ok (.ref w0.h.length, h')) Q,
        ⟨ys.length, w0.newL D [] [], rfl, ok1, .refl _, hq.mono (x0.trans x1)⟩, ?_⟩
      rintro i m H ⟨w, rfl, ok, x, hq⟩
      have lenD : w0.h.length < w.h.length := by
        have := x.len
        simp [Wd.newL] at this
        omega
      have ιw : w.ι w0.h.length = D := (x.ι _ (by simp [Wd.newL])).trans ιD
      have refD : ∀ w' : Wd, Wd.Ext X.K w w' → Rp X.K w' (.ref w0.h.length) (.ref D) := fun w' x' => by
        have q : Rp X.K w' (.ref w0.h.length) (.ref (w'.ι w0.h.length)) := .ref (Nat.lt_of_lt_of_le lenD x'.len)
        rw [x'.ι _ lenD, ιw] at q
        exact q
      cases es : src w.h with
      | none => cases m <;> (unfold lcF at hq; rw [es] at hq; exact hq.elim)
      | some zs =>
        obtain ⟨k1, k2⟩ := wk w i zs (x1.trans x) ok es
        cases ei : zs[i]? with
        | none =>
          refine .inl ⟨k1 ei, ?_⟩
          cases m with
          | zero =>
            unfold lcF at hq
            rw [es] at hq
            simp only at hq
            rw [if_pos (List.getElem?_eq_none_iff.mp ei)] at hq
            exact hq w _ ok rfl (.refl w) (refD w (.refl w))
          | succ m =>
            unfold lcF at hq
            simp only [es, ei] at hq
            exact hq w _ ok rfl (.refl w) (refD w (.refl w))
        | some d =>
          obtain ⟨go, yl⟩ := k2 d ei
          cases m with
          | zero =>
            unfold lcF at hq
            rw [es] at hq
            simp only at hq
            rw [if_neg (by have := (List.getElem?_eq_some_iff.mp ei).1; omega)] at hq
            exact hq.elim
          | succ m =>
            unfold lcF at hq
            simp only [es, ei] at hq
            refine .inr ⟨go, fun H' => ∃ w, w.H = H' ∧ w.Ok X.K ∧ Wd.Ext X.K (w0.newL D [] []) w ∧ PstE X W w ((lcF src vs p t e w0.h.length s m (i + 1) w.h).bind fun h' => .ok (.ref w0.h.length, h')) Q, fun H' z => ⟨m, Nat.lt_succ_self m, z⟩, fun v H' y => ?_⟩
            obtain ⟨w', rfl, eh', ok', x', r'⟩ := yl v H' y
            cases eg : p d (vwipe s vs) with
            | none => rw [eg] at hq; exact hq.elim
            | some s2 =>
              rw [eg] at hq
              simp only at hq
              have X0 : Wd.Ext X.K w (w') := x'
              have sl' : Slots X.K w' s σ := sl.ext (((x0.trans x1).trans x).trans x')
              refine hg w' (vwipe s vs) s2 (wipe σ vs) d v _ ok' (sl'.wipe vs) r' eg fun σ2 sl2 hw2 => ⟨hw2.trans (wipe_wipe vs σ), w', s2, rfl, ok', sl2, ?_⟩
              rw [eh']
              cases et : t s2 w.h with
              | bad => rw [et] at hq; exact hq.elim
              | ex _ _ _ => rw [et] at hq; exact hq.elim
              | ok c =>
                obtain ⟨b, hc⟩ := c
                rw [et] at hq
                simp only [noex_ok, Res.ok_bind] at hq
                intro w2 ok2 eh2 x2
                have eh2 : w2.h = hc := eh2
                subst eh2
                have X2 : Wd.Ext X.K w w2 := x'.trans x2
                cases b with
                | false =>
                  simp only [Bool.false_eq_true, if_false] at hq ⊢
                  exact ⟨w2, rfl, ok2, x.trans X2, hq.mono X2⟩
                | true =>
                  simp only [if_true] at hq ⊢
                  refine ⟨w2, s2, rfl, ok2, sl2.ext x2, ?_⟩
                  cases ee : e s2 w2.h with
                  | bad => rw [ee] at hq; exact hq.elim
                  | ex _ _ _ => rw [ee] at hq; exact hq.elim
                  | ok yv =>
                    obtain ⟨y1, y2⟩ := yv
                    rw [ee] at hq
                    simp only [noex_ok, Res.ok_bind] at hq
                    intro w3 v3 ok3 eh3 x3 r3
                    have eh3 : w3.h = y2 := eh3
                    subst eh3
                    have X3 : Wd.Ext X.K w w3 := X2.trans x3
                    unfold putAt at hq
                    cases en : w3.h[w0.h.length]? with
                    | none => rw [en] at hq; exact hq.elim
                    | some c =>
                      rw [en] at hq
                      cases c with
                      | ro _ => exact hq.elim
                      | lst acc =>
                        simp only at hq
                        by_cases hl : acc.length < sizeLine
                        · rw [if_pos hl] at hq
                          obtain ⟨us, hu, ru⟩ := ok3.cell _ _ en
                          have ι3 : w3.ι w0.h.length = D := (X3.ι _ lenD).trans ιw
                          rw [ι3] at hu
                          obtain ⟨ok4, x4⟩ := ok3.putL (ds := acc ++ [y1]) (vs := us ++ [v3]) en (ru.append (.cons r3 .nil))
                          refine ⟨us, hu, by rw [← ru.length]; exact hl, w3.putL w0.h.length (acc ++ [y1]) (us ++ [v3]), ?_, ok4, (x.trans X3).trans x4, ?_⟩
                          · show upd w3.H (w3.ι w0.h.length) _ = _
                            rw [ι3]
                          · exact PstE.mono (X3.trans x4) hq
                        · rw [if_neg hl] at hq
                          exact hq.elim
theorem qLc {elt tg iter : Expr} {ifs : List Expr} {scope : Scope} {own : List (Str × Nat)} {pos : Pos} {it : VI} {g : TG} {p : VP} {t : VT} {e : VE} (hc : X.calm = true) (hN : X.N.Nodup) (hi : PI X tg iter (gI X W it)) (ok : BlkOk X.N X.env.scope scope own)
    (hgd : TgD X.K (own.map (·.2)) g p)
    (hg : ∀ (s : Shared) (H : Hp) (C : Addr) (cl : List (Str × Addr)) (fp : List Addr), PG (X.blk s H scope (compEnvC scope cl C X.env) fp) tg g) (ht : ∀ (s : Shared) (H : Hp) (C : Addr) (cl : List (Str × Addr)) (fp : List Addr), PTs (X.blk s H scope (compEnvC scope cl C X.env) fp) ifs (gT (X.blk s H scope (compEnvC scope cl C X.env) fp) W0 t))
    (he : ∀ (s : Shared) (H : Hp) (C : Addr) (cl : List (Str × Addr)) (fp : List Addr), PE (X.blk s H scope (compEnvC scope cl C X.env) fp) elt (gE (X.blk s H scope (compEnvC scope cl C X.env) fp) W0 e)) (hs : ∀ x, foldedSetIterable iter X.env x = pure x := by intro _; rfl) :
    PE X (.ListComp elt [⟨tg, iter, ifs, 0⟩] scope pos) (gE X W (vLc it (own.map (·.2)) p t e)) :=
  PEw (pe_lc (tt := gT X W0 t) (te := gE X W0 e) hc hN hi ok hg (fun a b c d f => ht a b c d f) (fun a b c d f => he a b c d f) hs) fun _ _ _ h => lc_red hgd h
theorem qSetLc {i : Nat} {y : Str} {py : Pos} {elt tg iter : Expr} {ifs : List Expr} {scope : Scope} {own : List (Str × Nat)} {pos spos : Pos} {it : VI} {g : TG} {p : VP} {t : VT} {e : VE} (hc : X.calm = true) (hN : X.N.Nodup) (hy : X.N[i]? = some y) (hyl : X.env.scope.names.lookup y = some .local)
    (hsw : swapsWith (.ListComp elt [⟨tg, iter, ifs, 0⟩] scope pos) (some (.Name y py)) spos.line X.env = pure true) (hi : PI X tg iter (gI X W it)) (ok : BlkOk X.N X.env.scope scope own)
    (hgd : TgD X.K (own.map (·.2)) g p)
    (hg : ∀ (s : Shared) (H : Hp) (C : Addr) (cl : List (Str × Addr)) (fp : List Addr), PG (X.blk s H scope (compEnvC scope cl C X.env) fp) tg g) (ht : ∀ (s : Shared) (H : Hp) (C : Addr) (cl : List (Str × Addr)) (fp : List Addr), PTs (X.blk s H scope (compEnvC scope cl C X.env) fp) ifs (gT (X.blk s H scope (compEnvC scope cl C X.env) fp) W0 t))
    (he : ∀ (s : Shared) (H : Hp) (C : Addr) (cl : List (Str × Addr)) (fp : List Addr), PE (X.blk s H scope (compEnvC scope cl C X.env) fp) elt (gE (X.blk s H scope (compEnvC scope cl C X.env) fp) W0 e)) (hs : ∀ x, foldedSetIterable iter X.env x = pure x := by intro _; rfl) :
    PS X (.Assign [.Name y py] (.ListComp elt [⟨tg, iter, ifs, 0⟩] scope pos) spos) (gS X W (vAsg (vLc it (own.map (·.2)) p t e) (gName i))) :=
  PSw (ps_setLc (tt := gT X W0 t) (te := gE X W0 e) hc hN hy hyl hsw hi ok hg (fun a b c d f => ht a b c d f) (fun a b c d f => he a b c d f) hs) fun D σ H ⟨w, s, hH, ok, sl, hp⟩ => by
    subst hH
    show tLc _ _ _ _ _ σ w.H fun x H1 => L2.gName i x σ H1 D.nx
    refine lc_red (W := W) hgd ?_
    exact gE.seq ok sl (wS w D) hp fun d w1 v ok1 x1 sl1 r1 hp1 => hp1 w1 _ ok1 rfl x1 (sl1.set i r1)
end
end Vq

/-! Part 4: defs: what they are worth, how they are called, where the law begins. No repr is under way (guards). -/
namespace Vq
open PySem PySem.Spec PyProof.Rows L2

/-- a body as a function of arguments and heap; N: how many names -/
def mF (N : Nat) (f : VSt) : Fn := fun ds h => match f (ds.map some ++ List.replicate (N - ds.length) none) h with
  | .ok (.rt d, _, h') => .ok (d, h')
  | .ok (.nx, _, h') => .ok (.non, h')
  | .ok (.bk, _, _) => .bad
  | .ok (.ct, _, _) => .bad
  | .ex x _ h' => .ex x [] h'
  | .bad => .bad

def PstF (K : PySem.W.Frag) (mg : Str → Option Value) (w : Wd) (r : Res (D × VH)) (Q : VK) (E : XK) : Prop :=
  match r with
  | .ok p => ∀ w' v, w'.Ok K → w'.h = p.2 → Wd.Ext K w w' → Rp K w' p.1 v → Q v w'.H
  | .ex x _ h => ∀ (w' : Wd) (cls : Value) (d : Option Addr), w'.Ok K → w'.h = h → Wd.Ext K w w' → RepX K mg w' x cls d → E cls d w'.H
  | .bad => False

/-- the def at f is worth F, at level k -/
structure FnG (P : Program) (w : World) (K : PySem.W.Frag) (mg : Str → Option Value) (base : Heap) (k : Nat) (f : Addr) (fd : FuncData) (ps : List Str) (F : Fn) : Prop where
  run : ∀ (A : Around) (outer : List Env) (s : Shared) (args : Args) (us : List Value) (vs : List V) (ds : List D) (wd : Wd) (Q : VK) (E : XK),
    A.guards = some [] → Room k A → Env0 P w K mg base A outer s wd.H → ds.length = ps.length → BindsTo s fd args (ps.zip us) → Vals vs us → wd.Ok K → Rps K wd ds vs →
      PstF K mg wd (F ds wd.h) Q E → codeAny (model P w) A (.call (.ref f) args) (CR (L2.CX P w) outer P w wd.H s Q E) s
theorem FnG.mono {P : Program} {w : World} {K : PySem.W.Frag} {mg : Str → Option Value} {base : Heap} {j k : Nat} {f : Addr} {fd : FuncData} {ps : List Str} {F : Fn} (x : FnG P w K mg base j f fd ps F) (h : j ≤ k) : FnG P w K mg base k f fd ps F :=
  ⟨fun A outer s args us vs ds wd Q E hg hr => x.run A outer s args us vs ds wd Q E hg (hr.mono h)⟩

/-- all a step needs of where it stands -/
structure At (X : Cx) (W : WX) (k : Nat) : Prop where
  room : Room k X.A
  gd : X.A.guards = some []
  tk : Takes X W
  ps : PassesOwn (model X.prog X.w) X.A X.env X.xe
theorem At.mono {X : Cx} {W : WX} {j k : Nat} (a : At X W k) (h : j ≤ k) : At X W j := ⟨a.room.mono h, a.gd, a.tk, a.ps⟩

/-- X, the context of a def's body -/
abbrev cxG (P : Program) (w : World) (K : PySem.W.Frag) (mg : Str → Option Value) (base : Heap) (N : List Str) (qual : Str) (sc : Scope) (f : Addr) (cdv : Value) (A : Around) (outer : List Env) (s : Shared) (H : Hp) (E : XK) : Cx :=
  cxOf (L2.CX P w) P w K mg base N qual sc f cdv A outer s H E

theorem slots_start {K : PySem.W.Frag} {wd : Wd} {ds : List D} {vs : List V} (N : List Str) (r : Rps K wd ds vs) : Slots K wd (ds.map some ++ List.replicate (N.length - ds.length) none) (L2.start N vs) := by
  refine ⟨by simp [L2.start, r.length], fun i d e => ?_⟩
  by_cases hi : i < ds.length
  · rw [List.getElem?_append_left (by simpa using hi), List.getElem?_map] at e
    cases ed : ds[i]? with
    | none => rw [ed] at e; cases e
    | some d' =>
      rw [ed] at e
      cases e
      obtain ⟨v, ev, rv⟩ := r.get ed
      refine ⟨v, ?_, rv⟩
      unfold L2.start
      rw [List.getElem?_append_left (by rw [List.length_map, ← r.length]; exact hi), List.getElem?_map, ev]
      rfl
  · rw [List.getElem?_append_right (by simpa using Nat.le_of_not_lt hi), List.getElem?_replicate] at e
    split at e <;> cases e

theorem guards_deeper (A : Around) (env : Env) : (A.deeper env).guards = A.guards := by
  first
    | rfl
    | simp [Around.deeper]

theorem fnG_of {P : Program} {w : World} {K : PySem.W.Frag} {mg : Str → Option Value} {base : Heap} {k : Nat} {f : Addr} {fd : FuncData} {x qual : Str} {st : Stmt} {N ps : List Str} {b : VSt}
    (F : Fun K x qual st f fd) (S : FnScope N ps (defScope st))
    (hb : ∀ (cdv : Value) (A : Around) (outer : List Env) (s : Shared) (H : Hp) (E : XK), At (cxG P w K mg base N qual (defScope st) f cdv A outer s H E) (fun c d _ H => E c d H) k →
      PSs (cxG P w K mg base N qual (defScope st) f cdv A outer s H E) (defBody st) (gS (cxG P w K mg base N qual (defScope st) f cdv A outer s H E) (fun c d _ H => E c d H) b)) :
    FnG P w K mg base (k + 1) f fd ps (mF N.length b) := by
  obtain ⟨oc, od, kV, doc, pm, an, cdv, ct, osl, rfl, lk, hcd⟩ := F.ex
  refine ⟨fun A outer s args us vs ds wd Q E hg hr e0 hl bt rv ok rd hp => ?_⟩
  have hl' : vs.length = ps.length := by
    rw [← RepL.length rd]
    exact hl
  have inK : K.In s.heap := e0.mod.kin.keeps fun b o e => (e0.bs b o e).1
  have lim : s.heap.NoLimit :=
    e0.mod.nolimit.keeps fun b o e => (e0.bs b o e).1
  have kinds : ∀ y ∈ ps.zip us, (defScope st).names.lookup y.1 = some .local ∨
      ((defScope st).names.lookup y.1 = some .cell ∧ ((cellsFrom (s.heap.objs.size + 1) (defScope st).names []).lookup y.1).isSome = true) := by
    rintro ⟨n, v⟩ hy
    exact (S.par n (List.of_mem_zip hy).1).imp id fun q => ⟨q, PySem.W.cellsFrom_some _ _ _ (.inl q)⟩
  refine codeAny_call_function hr.depth (inK _ _ lk) rfl S.co S.gen rfl (PySem.W.codeRec_of inK hcd) (bt _ _ _ _ ?_)
  refine wpAny_newFunctionEnv_cells S.kind kinds fun env he s1 ic => ?_
  subst he
  refine ⟨lim.keeps ic.toInCall.keep, codeAny_func ?_⟩
  have here : At (cxG P w K mg base N qual (defScope st) f cdv A outer s wd.H E) (fun c d _ H => E c d H) k :=
    ⟨hr.deeper _, (guards_deeper A _).trans hg, takes_of rfl rfl rfl rfl, passes_of rfl⟩
  have I := inv_start (CX := L2.CX P w) (E := E) S hr.hd e0 hl' rv ic
  have body := hb cdv A outer s wd.H E here
  have post : gS (cxG P w K mg base N qual (defScope st) f cdv A outer s wd.H E) (fun c d _ H => E c d H) b { nx := fun _ H' => Q .non H', rt := Q } (L2.start N vs) wd.H := by
    refine ⟨wd, ds.map some ++ List.replicate (N.length - ds.length) none, rfl, ok, slots_start N rd, ?_⟩
    unfold mF at hp
    revert hp
    cases b (ds.map some ++ List.replicate (N.length - ds.length) none) wd.h with
    | bad => exact fun z => z
    | ex x s' h' => exact fun z w' cls d σ ok' e' x' sl' rx => z w' cls d ok' e' x' rx
    | ok p =>
      obtain ⟨o, s', h'⟩ := p
      cases o with
      | nx => exact fun z w' σ ok' e' x' sl' => z w' .non ok' e' x' .non
      | rt d => exact fun z w' v ok' e' x' r' => z w' v ok' e' x' r'
      | bk => exact fun z => z.elim
      | ct => exact fun z => z.elim
  refine wpAny_mono (body.run [] s1 (L2.start N vs) wd.H _ I post) (fun fl s' hs => ?_) fun e s' hs => hs
  have done : ∀ {σ' : L2.St} {H' : Hp} {v : V} {u : Value}, Inv (cxG P w K mg base N qual (defScope st) f cdv A outer s wd.H E) [] σ' H' s' → RelV v u → Q v H' → CE outer P w wd.H s Q u s' :=
    fun {σ' H' v u} J r q => ⟨v, H', J.os, J.bare, J.base, J.hok, r, q⟩
  cases fl with
  | next => obtain ⟨σ', H', J, q⟩ := hs; exact done (v := V.non) (u := Value.none) J rfl q
  | ret u => obtain ⟨v, σ', H', J, r, q⟩ := hs; exact done J r q
  | brk => obtain ⟨_, _, _, q⟩ := hs; exact q.elim
  | cont => obtain ⟨_, _, _, q⟩ := hs; exact q.elim
end Vq

/-! Part 5: calls of defs; what a def is worth may be said more plainly; the law's own call. -/
namespace Vq
open PySem PySem.Spec PyProof.Rows L2

/-! ### calls -/
/-- a call within a frame: an error keeps the frame's slots -/
def callR (s : VS) (r : Res (D × VH)) : Res (D × VH) := match r with
  | .ok p => .ok p
  | .ex x _ h => .ex x s h
  | .bad => .bad
@[simp] theorem callR_ok (s : VS) (p : D × VH) : callR s (.ok p) = .ok p := rfl
@[simp] theorem callR_bad (s : VS) : callR s .bad = .bad := rfl
@[simp] theorem callR_ex (s s' : VS) (x : Exn) (h : VH) : callR s (.ex x s' h) = .ex x s h := rfl
def vCall (n : Nat) (F : Fn) (a : VA) : VE := fun s h => (a s h).bind fun p => if p.1.length = n then callR s (F p.1 p.2) else .bad
/-- keywords: place tells where the values stand (positional ones first, then the keywords' in their order) -/
def vCallK (n : Nat) (F : Fn) (pl : List D → List D → List D) (a k : VA) : VE := fun s h => (a s h).bind fun p => (k s p.2).bind fun q => if (pl p.1 q.1).length = n then callR s (F (pl p.1 q.1) q.2) else .bad

section
variable {X : Cx} {W : WX} {P : Program} {k : Nat} {f : Addr} {fd : FuncData} {ps : List Str} {F : Fn}
theorem run_fnG {pins : List (Addr × Obj)} {σ : L2.St} {s : Shared} {Q : VK} {us : List Value} {vs : List V} {ds : List D} {wd : Wd} {sv : VS} {args : Args} (G : FnG X.prog X.w X.K X.mg X.base k f fd ps F) (a : At X W k)
    (hb : BindsTo s fd args (ps.zip us)) (I : Inv X pins σ wd.H s) (rv : Vals vs us) (ok : wd.Ok X.K) (sl : Slots X.K wd sv σ) (rd : Rps X.K wd ds vs) (hl : ds.length = ps.length) (h : PstE X W wd (callR sv (F ds wd.h)) Q) :
    codeAny (model X.prog X.w) X.A (.call (.ref f) args) (fun r s' => match r with | .ok (.ret u) => EP X pins σ Q u s' | .ok _ => False | .error e => X.xe e s') s := by
  refine codeAny_mono (G.run X.A X.stack s args us vs ds wd Q (fun cls d H' => W cls d σ H') a.gd a.room I.env0 hl hb rv ok rd ?_) fun r s' hq => ?_
  · revert h
    cases F ds wd.h with
    | bad => exact fun z => z
    | ok p => exact fun z => z
    | ex x s' h' => exact fun z w' cls d ok' e x' rx => z w' cls d σ ok' e x' (sl.ext x') rx
  · cases r with
    | error e => exact a.tk e s' (XE.of_call (W := W) (E := fun cls d H' => W cls d σ H') I (fun _ _ _ z => z) hq)
    | ok fl =>
      cases fl with
      | ret u => exact I.after hq
      | next => exact hq.elim
      | brk => exact hq.elim
      | cont => exact hq.elim
theorem call_of {pins : List (Addr × Obj)} {σ : L2.St} {s : Shared} {Q : VK} {f : Value} {us : List Value} {kw : List (Str × Value)}
    (h : codeAny (model X.prog X.w) X.A (.call f ⟨us, kw⟩) (fun r s' => match r with | .ok (.ret u) => EP X pins σ Q u s' | .ok _ => False | .error e => X.xe e s') s) : wpAny (model X.prog X.w) X.A (call f us kw) (EP X pins σ Q) X.xe s :=
  wpAny_call (codeAny_mono h fun r s' hq => by
    cases r with
    | error e => exact hq
    | ok fl =>
      cases fl with
      | ret u => exact hq
      | next => exact hq.elim
      | brk => exact hq.elim
      | cont => exact hq.elim)

/-- how a def binds what is given by place -/
def BindP (K : PySem.W.Frag) (fd : FuncData) (ps : List Str) : Prop := ∀ us : List Value, us.length = ps.length → bindArgs fd ⟨us, []⟩ = pure (ps.zip us)
/-- .. by names ks behind so many by place: pl puts them in the parameters' order -/
structure BindK (fd : FuncData) (ps ks : List Str) (n : Nat) (pl : {α : Type} → List α → List α → List α) : Prop where
  to : ∀ us ws : List Value, us.length = n → ws.length = ks.length → bindArgs fd ⟨us, ks.zip ws⟩ = pure (ps.zip (pl us ws))
  reps : ∀ (K : PySem.W.Frag) (w : Wd) (ds es : List D) (vs zs : List V), Rps K w ds vs → Rps K w es zs → Rps K w (pl ds es) (pl vs zs)
  vals : ∀ (vs zs : List V) (us ws : List Value), Vals vs us → Vals zs ws → Vals (pl vs zs) (pl us ws)

variable {x : Str} {p pos : Pos} {e : Expr} {es : List Expr} {g : VA}
theorem qCall (G : FnG X.prog X.w X.K X.mg X.base k f fd ps F) (a : At X W k) (hm : X.mg x = some (.ref f)) (hk : PySem.W.keepIn X.K (.ref f) = true) (hb : BindP X.K fd ps) (ha : PA X (e :: es) (gA X W g)) (hg : Gl X x := by rfl)
    (hdb : (x == ("__debug__" : Str)) = false := by decide) (he : starEach (e :: es) X.env = (false, eval e X.env) :: starEach es X.env := by rfl) (hpl : (backTo pos (starEach es X.env)).any (·.1) = false := by rfl) :
    PE X (.Call (.Name x p) (e :: es) [] pos) (gE X W (vCall ps.length F g)) := by
  refine ⟨fun pins s σ H Q I ⟨wd, sv, hH, ok, sl, hp⟩ => ?_⟩
  subst hH
  refine wpAny_Call_Name_kw (ld_glob I hg hm ?_ hdb)
  refine PySem.W.callWith_K (h₀ := X.base) I.ok.mod.kin hk ?_ he hpl
  have q : gA X W g σ wd.H fun vs H1 => ∃ w1 ds, w1.H = H1 ∧ w1.Ok X.K ∧ Slots X.K w1 sv σ ∧ Rps X.K w1 ds vs ∧ ds.length = ps.length ∧ PstE X W w1 (callR sv (F ds w1.h)) Q := by
    refine gA.seq ok sl (wE wd Q) hp fun ds w1 vs ok1 x1 sl1 r1 hp1 => ?_
    by_cases hl : ds.length = ps.length
    · simp only [if_pos hl] at hp1
      exact ⟨w1, ds, rfl, ok1, sl1, r1, hl, hp1.mono x1⟩
    · simp only [if_neg hl] at hp1
      exact hp1.elim
  refine thn (ha.run pos pins s σ wd.H _ I q) fun us s1 ⟨vs, H1, I1, rv, w1, ds, hH1, ok1, sl1, r1, hl, hp1⟩ => ⟨I1.kIn, ?_⟩
  subst hH1
  refine call_of (kw := []) (run_fnG (vs := vs) (us := us) G a (.of_eq (hb us ?_)) I1 rv ok1 sl1 r1 hl hp1)
  rw [← rv.length, ← RepL.length r1]
  exact hl
theorem qCall0 (G : FnG X.prog X.w X.K X.mg X.base k f fd [] F) (a : At X W k) (hm : X.mg x = some (.ref f)) (hk : PySem.W.keepIn X.K (.ref f) = true) (hb : BindP X.K fd []) (hg : Gl X x := by rfl)
    (hdb : (x == ("__debug__" : Str)) = false := by decide) : PE X (.Call (.Name x p) [] [] pos) (gE X W (vCall 0 F vNil)) := by
  refine ⟨fun pins s σ H Q I ⟨wd, sv, hH, ok, sl, hp⟩ => ?_⟩
  subst hH
  refine wpAny_Call_Name_kw (ld_glob I hg hm ?_ hdb)
  exact PySem.W.callWith_K0 I.kIn hk (call_of (us := []) (kw := []) (run_fnG (vs := []) (us := []) (ds := []) G a (.of_eq (hb [] rfl)) I .nil ok sl .nil rfl hp))

def gK (X : Cx) (W : WX) (f : VA) : TA := gA X W f
theorem qk0 : PK X [] (gA X W vNil) := ⟨fun pos pins s σ H Q I ⟨w, sv, hH, ok, sl, hp⟩ => pk_nil.run pos pins s σ H Q I (by
  subst hH
  exact hp w [] ok rfl (.refl w) .nil)⟩
theorem qk {nm : Option Str} {kpos : Pos} {kws : List Keyword} {fe : VE} {fk : VA} (ha : PE X e (gE X W fe)) (hr : PK X kws (gA X W fk)) : PK X (⟨nm, e, kpos⟩ :: kws) (gA X W (vCons fe fk)) :=
  ⟨fun pos pins s σ H Q I ⟨w, sv, hH, ok, sl, hp⟩ => (pk_cons ha hr).run pos pins s σ H Q I (by
    subst hH
    refine gE.seq ok sl (wA w Q) hp fun d w1 v ok1 x1 sl1 r1 hp1 => ?_
    refine gA.seq ok1 sl1 ((wA w Q).mono x1) hp1 fun d2 w2 v2 ok2 x2 sl2 r2 hp2 => ?_
    exact hp2 w2 (v :: v2) ok2 rfl (x1.trans x2) (.cons (x2.rp r1) r2))⟩
variable {kws : List Keyword} {ks : List Str} {n : Nat} {pl : {α : Type} → List α → List α → List α} {gk : VA}
theorem qCallK (G : FnG X.prog X.w X.K X.mg X.base k f fd ps F) (a : At X W k) (hm : X.mg x = some (.ref f)) (hk : PySem.W.keepIn X.K (.ref f) = true) (hb : BindK fd ps ks n pl) (ha : PA X (e :: es) (gA X W g)) (hkw : PK X kws (gA X W gk))
    (hn : (e :: es).length = n := by rfl) (hg : Gl X x := by rfl) (hall : (backToKw pos (keywordEach kws X.env)).all (·.1.isSome) = true := by rfl) (hks : (backToKw pos (keywordEach kws X.env)).filterMap (·.1) = ks := by rfl)
    (hdb : (x == ("__debug__" : Str)) = false := by decide) (he : starEach (e :: es) X.env = (false, eval e X.env) :: starEach es X.env := by rfl)
    (hpl : ((backTo pos (starEach (e :: es) X.env)).any (·.1) || (backToKw pos (keywordEach kws X.env)).any (·.1.isNone)) = false := by rfl) :
    PE X (.Call (.Name x p) (e :: es) kws pos) (gE X W (vCallK ps.length F (fun a b => if a.length = n ∧ b.length = ks.length then pl a b else List.replicate (ps.length + 1) .non) g gk)) := by
  refine ⟨fun pins s σ H Q I ⟨wd, sv, hH, ok, sl, hp⟩ => ?_⟩
  subst hH
  refine wpAny_Call_Name_kw (ld_glob I hg hm ?_ hdb)
  refine PySem.W.callWith_KW (h₀ := X.base) I.ok.mod.kin hk hall ?_ hpl he
  have q : gA X W g σ wd.H fun vs H1 => gA X W gk σ H1 fun zs H2 => ∃ w2 ds es, w2.H = H2 ∧ w2.Ok X.K ∧ Slots X.K w2 sv σ ∧ Rps X.K w2 ds vs ∧ Rps X.K w2 es zs ∧ ds.length = n ∧ es.length = ks.length ∧ (pl ds es).length = ps.length ∧ PstE X W w2 (callR sv (F (pl ds es) w2.h)) Q := by
    refine gA.seq ok sl (wE wd Q) hp fun ds w1 vs ok1 x1 sl1 r1 hp1 => ?_
    refine gA.seq ok1 sl1 ((wE wd Q).mono x1) hp1 fun es w2 zs ok2 x2 sl2 r2 hp2 => ?_
    simp only at hp2
    by_cases hn : ds.length = n ∧ es.length = ks.length
    · rw [if_pos hn] at hp2
      by_cases hl : (pl ds es).length = ps.length
      · rw [if_pos hl] at hp2
        exact ⟨w2, ds, es, rfl, ok2, sl2, x2.rps r1, r2, hn.1, hn.2, hl, hp2.mono (x1.trans x2)⟩
      · rw [if_neg hl] at hp2
        exact hp2.elim
    · rw [if_neg hn] at hp2
      rw [if_neg (by simp)] at hp2
      exact hp2.elim
  refine thn (ha.run pos pins s σ wd.H _ I q) fun us s1 ⟨vs, H1, I1, rv, q1⟩ => ?_
  refine thn (hkw.run pos pins s1 σ H1 _ I1 q1) fun ws s2 ⟨zs, H2, I2, rz, w2, ds, es, hH2, ok2, sl2, r1, r2, n1, n2, hl, hp2⟩ => ⟨I2.kIn, ?_⟩
  subst hH2
  rw [hks]
  have e1 : us.length = n := by rw [← rv.length, ← RepL.length r1]; exact n1
  have e2 : ws.length = ks.length := by rw [← rz.length, ← RepL.length r2]; exact n2
  exact call_of (run_fnG (ds := pl ds es) (vs := pl vs zs) (us := pl us ws) G a (.of_eq (hb.to us ws e1 e2)) I2 (hb.vals vs zs us ws rv rz) ok2 sl2 (hb.reps _ _ ds es vs zs r1 r2) hl hp2)
theorem qCallK0 (G : FnG X.prog X.w X.K X.mg X.base k f fd ps F) (a : At X W k) (hm : X.mg x = some (.ref f)) (hk : PySem.W.keepIn X.K (.ref f) = true) (hb : BindK fd ps ks 0 pl) (hkw : PK X kws (gA X W gk))
    (hg : Gl X x := by rfl) (hall : (backToKw pos (keywordEach kws X.env)).all (·.1.isSome) = true := by rfl) (hks : (backToKw pos (keywordEach kws X.env)).filterMap (·.1) = ks := by rfl)
    (hdb : (x == ("__debug__" : Str)) = false := by decide)
    (hpl : ((backTo pos (starEach [] X.env)).any (·.1) || (backToKw pos (keywordEach kws X.env)).any (·.1.isNone)) = false := by rfl) :
    PE X (.Call (.Name x p) [] kws pos) (gE X W (vCallK ps.length F (fun a b => if a.length = 0 ∧ b.length = ks.length then pl a b else List.replicate (ps.length + 1) .non) vNil gk)) := by
  refine ⟨fun pins s σ H Q I ⟨wd, sv, hH, ok, sl, hp⟩ => ?_⟩
  subst hH
  refine wpAny_Call_Name_kw (ld_glob I hg hm ?_ hdb)
  refine PySem.W.callWith_KW0 (h₀ := X.base) I.ok.mod.kin hk hall ?_ hpl
  have q : gA X W gk σ wd.H fun zs H2 => ∃ w2 es, w2.H = H2 ∧ w2.Ok X.K ∧ Slots X.K w2 sv σ ∧ Rps X.K w2 es zs ∧ es.length = ks.length ∧ (pl [] es).length = ps.length ∧ PstE X W w2 (callR sv (F (pl [] es) w2.h)) Q := by
    refine gA.seq (f := gk) ok sl (wE wd Q) hp fun es w2 zs ok2 x2 sl2 r2 hp2 => ?_
    simp only at hp2
    by_cases hn : ([] : List D).length = 0 ∧ es.length = ks.length
    · rw [if_pos hn] at hp2
      by_cases hl : (pl [] es).length = ps.length
      · rw [if_pos hl] at hp2
        exact ⟨w2, es, rfl, ok2, sl2, r2, hn.2, hl, hp2.mono x2⟩
      · rw [if_neg hl] at hp2
        exact hp2.elim
    · rw [if_neg hn] at hp2
      rw [if_neg (by simp)] at hp2
      exact hp2.elim
  refine thn (hkw.run pos pins s σ wd.H _ I q) fun ws s2 ⟨zs, H2, I2, rz, w2, es, hH2, ok2, sl2, r2, n2, hl, hp2⟩ => ⟨I2.kIn, ?_⟩
  subst hH2
  rw [hks]
  have e2 : ws.length = ks.length := by rw [← rz.length, ← RepL.length r2]; exact n2
  exact call_of (run_fnG (ds := pl [] es) (vs := pl [] zs) (us := pl [] ws) G a (.of_eq (hb.to [] ws rfl e2)) I2 (hb.vals [] zs [] ws .nil rz) ok2 sl2 (hb.reps _ _ [] es [] zs .nil r2) hl hp2)
end

/-! ### saying it more plainly -/
mutual
def D.lt (n : Nat) : D → Bool
  | .tup l => D.ltAll n l
  | .ftup l => D.ltAll n l
  | .ref k => decide (k < n)
  | .non => true
  | .bl _ => true
  | .int _ => true
  | .str _ => true
def D.ltAll (n : Nat) : List D → Bool
  | [] => true
  | d :: r => D.lt n d && D.ltAll n r
end
def Cell.lt (n : Nat) : Cell → Bool
  | .lst l => D.ltAll n l
  | .ro l => D.ltAll n l
/-- no address leads out of the heap -/
def closed (h : VH) : Prop := ∀ c ∈ h, Cell.lt h.length c = true

mutual
theorem RepV.cut {K : PySem.W.Frag} {ι : Nat → Addr} {n m : Nat} {H : Hp} : ∀ {d : D} {v : V}, RepV K ι n H d v → D.lt m d = true → RepV K ι m H d v
  | _, _, .non, _ => .non
  | _, _, .bl b, _ => .bl b
  | _, _, .int i, _ => .int i
  | _, _, .str s, _ => .str s
  | _, _, .tup h r, e => .tup h (r.cut (by simpa [D.lt] using e))
  | _, _, .ftup h r, e => .ftup h (r.cut (by simpa [D.lt] using e))
  | _, _, .ref h, e => .ref (by simpa [D.lt] using e)
theorem RepL.cut {K : PySem.W.Frag} {ι : Nat → Addr} {n m : Nat} {H : Hp} : ∀ {d : List D} {v : List V}, RepL K ι n H d v → D.ltAll m d = true → RepL K ι m H d v
  | _, _, .nil, _ => .nil
  | _, _, .cons h r, e => by
    simp only [D.ltAll, Bool.and_eq_true] at e
    exact .cons (h.cut e.1) (r.cut e.2)
end
mutual
theorem RepV.in {K : PySem.W.Frag} {ι : Nat → Addr} {n : Nat} {H : Hp} : ∀ {d : D} {v : V}, RepV K ι n H d v → D.lt n d = true
  | _, _, .non => by simp [D.lt]
  | _, _, .bl b => by simp [D.lt]
  | _, _, .int i => by simp [D.lt]
  | _, _, .str s => by simp [D.lt]
  | _, _, .tup h r => by simp only [D.lt]; exact r.in
  | _, _, .ftup h r => by simp only [D.lt]; exact r.in
  | _, _, .ref h => by simpa [D.lt] using h
theorem RepL.in {K : PySem.W.Frag} {ι : Nat → Addr} {n : Nat} {H : Hp} : ∀ {d : List D} {v : List V}, RepL K ι n H d v → D.ltAll n d = true
  | _, _, .nil => by simp [D.ltAll]
  | _, _, .cons h r => by simp only [D.ltAll, Bool.and_eq_true]; exact ⟨h.in, r.in⟩
end
theorem Wd.Ok.closed {K : PySem.W.Frag} {w : Wd} (ok : w.Ok K) : closed w.h := fun c hc => by
  obtain ⟨n, hn, rfl⟩ := List.mem_iff_getElem.mp hc
  have q := ok.cell n _ (List.getElem?_eq_getElem hn)
  revert q
  cases w.h[n] with
  | lst l => rintro ⟨vs, _, r⟩; exact r.in
  | ro l => rintro ⟨vs, _, r⟩; exact r.in
/-- the first part of a heap -/
def Wd.cut (w : Wd) (h : VH) : Wd := ⟨w.ι, h, w.H⟩
theorem Wd.Ok.cut {K : PySem.W.Frag} {w : Wd} {h g : VH} (ok : w.Ok K) (e : w.h = h ++ g) (c : Vq.closed h) : (w.cut h).Ok K := by
  have at_ : ∀ n c, h[n]? = some c → w.h[n]? = some c := fun n c q => by
    rw [e, List.getElem?_append_left (List.getElem?_eq_some_iff.mp q).1]
    exact q
  refine ⟨fun n d q => ?_, fun n m a b ha hb => ok.inj n m a b (at_ n a ha) (at_ m b hb)⟩
  have z := ok.cell n d (at_ n d q)
  have hd := c d (List.mem_of_getElem? q)
  cases d with
  | lst l =>
    obtain ⟨vs, h1, h2⟩ := z
    exact ⟨vs, h1, h2.cut hd⟩
  | ro l =>
    obtain ⟨vs, h1, h2⟩ := z
    exact ⟨vs, h1, h2.cut hd⟩

/-- F' says the same as F, but for what F leaves behind at the heap's end -/
def Says (F' F : Fn) : Prop :=
  ∀ (ds : List D) (h : VH), closed h → D.ltAll h.length ds = true → match F' ds h with
    | .ok (d, h') => (∃ g, F ds h = .ok (d, h' ++ g)) ∧ h.length ≤ h'.length ∧ closed h' ∧ D.lt h'.length d = true
    | .ex x _ h' => (∃ s g, F ds h = .ex x s (h' ++ g)) ∧ h.length ≤ h'.length ∧ closed h' ∧ D.ltAll h'.length (x.fs.map (·.2)) = true
    | .bad => True
theorem FnG.says {P : Program} {w : World} {K : PySem.W.Frag} {mg : Str → Option Value} {base : Heap} {k : Nat} {f : Addr} {fd : FuncData} {ps : List Str} {F F' : Fn} (G : FnG P w K mg base k f fd ps F) (h : Says F' F) : FnG P w K mg base k f fd ps F' := by
  refine ⟨fun A outer s args us vs ds wd Q E hg hr e0 hl bt rv ok rd hp => G.run A outer s args us vs ds wd Q E hg hr e0 hl bt rv ok rd ?_⟩
  have z := h ds wd.h ok.closed rd.in
  revert z hp
  cases F' ds wd.h with
  | bad => exact fun q => q.elim
  | ok p =>
    obtain ⟨d, h'⟩ := p
    rintro hp ⟨⟨g, e⟩, hl, hc, hd⟩
    rw [e]
    intro w' v ok' e' x' r'
    have e' : w'.h = h' ++ g := e'
    exact hp (w'.cut h') v (ok'.cut e' hc) rfl ⟨hl, x'.ι, x'.tup, x'.tp⟩ (r'.cut hd)
  | ex x s h' =>
    rintro hp ⟨⟨s2, g, e⟩, hl, hc, hd⟩
    rw [e]
    intro w' cls d ok' e' x' rx
    have e' : w'.h = h' ++ g := e'
    refine hp (w'.cut h') cls d (ok'.cut e' hc) rfl ⟨hl, x'.ι, x'.tup, x'.tp⟩ ⟨rx.1, rx.2.imp id fun ⟨a, fs, h1, h2, h3, h4, h5⟩ => ⟨a, fs, h1, h2, h3, h4, h5.cut hd⟩⟩
end Vq

/-! Part 6: the law's own call, at the heap that the top leaves. The script is the first cell, a list that nobody writes to. -/
namespace Vq
open PySem PySem.Spec PyProof.Rows L2

/-- the script as a heap of one cell -/
def scriptH (ns : List Int) : VH := [.ro (ns.map D.int)]
theorem reps_ints (K : PySem.W.Frag) (ι : Nat → Addr) (n : Nat) (H : Hp) : ∀ ns : List Int, RepL K ι n H (ns.map D.int) (ns.map V.int)
  | [] => .nil
  | i :: r => .cons (.int i) (reps_ints K ι n H r)
theorem ro_of {K : PySem.W.Frag} {H : Hp} {a : Addr} {xs : List V} (hO : Only H) (h : SqL K H a xs) : RoL K H a xs := by
  rcases h with (h | ⟨ob, h⟩) | h
  · rcases hO a with z | ⟨o, ys, z⟩ <;> rw [h] at z <;> cases z
  · exact .inl ⟨ob, h⟩
  · exact .inr h
theorem script_ok {K : PySem.W.Frag} {H : Hp} {a : Addr} {ns : List Int} (h : RoL K H a (ns.map V.int)) : (Wd.mk (fun _ => a) (scriptH ns) H).Ok K := by
  refine ⟨fun n c e => ?_, fun n m c d h1 h2 m1 m2 _ => ?_⟩
  · match n, e with
    | 0, e =>
      cases e
      exact ⟨_, h, reps_ints K _ _ _ ns⟩
    | n + 1, e => cases e
  · match n, m, h1, h2 with
    | 0, 0, _, _ => rfl
    | n + 1, _, h1, _ => cases h1
    | _, m + 1, _, h2 => cases h2

theorem lawG {P : Program} {w : World} {K : PySem.W.Frag} {mg mb : Str → Option Value} {k : Nat} {fa a : Addr} {fd : FuncData} {x : Str} {F : Fn} {s : Shared} {vs : List Value} {ns : List Int}
    (KX : K.In s.heap) (hns : s.heap.Ns mainGlobals mg) (hb : s.heap.Ns builtinsNs mb) (hbb : ∀ x : Str, x ≠ "__name__" → mb x = bootBuiltins x) (hlim : s.heap.NoLimit)
    (hg : s.gens = #[]) (ha : s.heap.get? a = some { cls := .type "list", data := .seq vs.toArray }) (hi : IntsAre vs ns) (hl : ns.length ≤ sizeLine) (hr : Room k callerA)
    (G : ∀ base : Heap, K.In base → base.Ns mainGlobals mg → FnG P w K mg base k fa fd [x] F) (hbind : ∀ u : Value, bindArgs fd ⟨[u], []⟩ = pure [(x, u)])
    (hF : ∃ h', F [.ref 0] (scriptH ns) = .ok (.bl true, h')) :
    codeAny (model P w) callerA (.call (.ref fa) ⟨[.ref a], []⟩) (fun r s' => r = .ok (.ret (.bool true)) ∧ OldK s.heap s'.heap ∧ s'.os = s.os ∧ AllBare s'.gens) s := by
  have rv := vals_ints hi
  have go : ∀ H : Hp, Only H → SqL K H a (ns.map V.int) → HOk P w H s.heap → (∀ b, H b ≠ none → b = a) → (H a ≠ none → K.lookup a = none) →
      codeAny (model P w) callerA (.call (.ref fa) ⟨[.ref a], []⟩) (fun r s' => r = .ok (.ret (.bool true)) ∧ OldK s.heap s'.heap ∧ s'.os = s.os ∧ AllBare s'.gens) s := by
    intro H hO hS hok hA hK
    have free : ∀ {b : Addr} {o : Obj} {es : Array DictEntry} {ep : Nat}, s.heap.get? b = some o → o.data = .dict es ep → H b = none := by
      intro b o es ep e d
      cases q : H b with
      | none => rfl
      | some u =>
        have e' : b = a := hA b (by rw [q]; exact fun z => nomatch z)
        subst e'
        rw [ha] at e
        cases e
        have d' : Data.seq vs.toArray _ = Data.dict es ep := d
        cases d'
    have ns1 : ∀ {b : Addr} {m : Str → Option Value}, s.heap.Ns b m → (hidT s.heap H).Ns b m := by
      rintro b m ⟨o, es, ep, e, d, r⟩
      exact ⟨o, es, ep, hidT_get e (free e d), d, r⟩
    have inB : K.In (hidT s.heap H) := by
      intro b o e
      refine hidT_get (KX b o e) ?_
      cases q : H b with
      | none => rfl
      | some u =>
        have e' : b = a := hA b (by rw [q]; exact fun z => nomatch z)
        subst e'
        rw [hK (by rw [q]; exact fun z => nomatch z)] at e
        cases e
    have hM : Mod K mg (hidT s.heap H) := ⟨inB, ns1 hns, ⟨mb, ns1 hb, hbb⟩, by
      obtain ⟨mc, h1, h2⟩ := hlim
      exact ⟨mc, ns1 h1, h2⟩⟩
    have e0 : Env0 P w K mg (hidT s.heap H) callerA [] s H :=
      ⟨rfl, hM, fun b o e => of_hidT e, Nat.le_of_eq (hidT_size _ _), trivial, fun b hb => absurd (show b ∈ ([] : List Addr) from hb) List.not_mem_nil, hok, .of_eq hg⟩
    obtain ⟨h', hF⟩ := hF
    have run := (G _ inB (ns1 hns)).run callerA [] s ⟨[.ref a], []⟩ [.ref a] [.ref a] [.ref 0] (Wd.mk (fun _ => a) (scriptH ns) H) (fun v _ => v = .bl true) (fun _ _ _ => False) rfl hr e0 rfl
      (.of_eq (hbind (.ref a))) (.cons rfl .nil) (script_ok (ro_of hO hS)) (.cons (.ref (k := 0) (Nat.zero_lt_one)) .nil) (by
        rw [hF]
        intro w' v _ _ _ r
        have r' : RepV K w'.ι w'.h.length w'.H (.bl true) v := r
        cases r'
        rfl)
    refine codeAny_mono run fun r s' h => ?_
    cases r with
    | error e =>
      obtain ⟨_, _, _, _, _, _, _, _, _, _, _, _, z⟩ := h
      exact z.elim
    | ok fl =>
      cases fl with
      | next => exact h.elim
      | brk => exact h.elim
      | cont => exact h.elim
      | ret u =>
        obtain ⟨v, H', os, bare, un, hok', r', q⟩ := h
        have q' : v = .bl true := q
        subst q'
        obtain rfl : u = Value.bool true := r'
        refine ⟨rfl, OldK.of_keep fun b o e => ?_, os, bare⟩
        cases q : H b with
        | none => exact un.keep b o e q (fun z => absurd (show b ∈ ([] : List Addr) from z) List.not_mem_nil) List.not_mem_nil
        | some u =>
          rcases hO b with z | ⟨ob, xs, z⟩
          · rw [q] at z
            cases z
          · obtain ⟨e1, _⟩ := hok b _ z
            obtain ⟨e2, _⟩ := hok' b _ (un.frzs b ob _ z)
            rw [e] at e1
            cases e1
            exact e2
  have lenV := hi.length
  cases hk : K.lookup a with
  | some o =>
    have e := KX a o hk
    rw [ha] at e
    cases e
    refine go (fun _ => none) (fun _ => .inl rfl) (.inr ⟨_, vs.toArray, _, hk, rfl, rfl, rfl, by rw [List.size_toArray, lenV]; exact hl, by simpa using rv⟩) (fun b u z => by
      have z' : (none : Option HO) = some u := z
      cases z') (fun b z => absurd rfl z) fun z => absurd rfl z
  | none =>
    refine go (fun b => if b = a then some (.frz { cls := .type "list", data := .seq vs.toArray } (.lst (ns.map V.int))) else none) (fun b => ?_) (.inl (.inr ⟨{ cls := .type "list", data := .seq vs.toArray }, if_pos rfl⟩))
      (fun b u z => ?_) (fun b z => ?_) fun _ => hk
    · by_cases hb : b = a
      · exact .inr ⟨_, _, if_pos hb⟩
      · exact .inl (if_neg hb)
    · by_cases hb : b = a
      · have z' := (if_pos hb).symm.trans z
        cases z'
        subst hb
        exact ⟨ha, by rw [List.length_map]; exact hl, vs, _, rv, ha⟩
      · have z' := (if_neg hb).symm.trans z
        cases z'
    · by_cases hb : b = a
      · exact hb
      · exact absurd (if_neg hb) z

/-- what k_head leaves -/
theorem walkG {l : PySem.W.OpenLaw} {n k : Nat} {q : Program} {loose : List Str} {XP : (Str → Option Value) → Heap → Prop} {YP : World → Heap → Prop} {d : DefRec} {K : Params → PySem.W.Frag} {F : Fn} {x : Str}
    (hn : l.most = some n) (hn2 : n ≤ sizeLine) (hdf : d.params.defaults = []) (hr : Room k callerA) (hY : ∀ (w : World) (h : Heap), YP w h → (K w.params).In h)
    (G : ∀ (w : World) (mg : Str → Option Value) (fa : Addr) (h : Heap), (K w.params).In h → h.Ns mainGlobals mg → mg d.name = some (.ref fa) →
      ∃ fd : FuncData, (∀ u : Value, bindArgs fd ⟨[u], []⟩ = pure [(x, u)]) ∧ ∀ base : Heap, (K w.params).In base → base.Ns mainGlobals mg → FnG l.prog w (K w.params) mg base k fa fd [x] F)
    (hF : ∀ ns : List Int, ns.length ≤ n → ∃ h', F [.ref 0] (scriptH ns) = .ok (.bl true, h')) : PySem.W.WalkO q loose XP YP l.row.toRowW d [] (fun f vs => PySem.call f vs) := by
  refine Att.attach_call hn hdf fun w s₀ s₁ mg mb fa o pm cd doc a vs ns Gr Y ho hd hcd hmg hobj hints hlen hg => ?_
  obtain ⟨fd, hb, hG⟩ := G w mg fa _ (hY w _ Y) Gr.T.g hmg
  exact lawG (hY w _ Y) Gr.T.g Gr.T.b Gr.T.builtins Gr.T.nolimit hg hobj hints (Nat.le_trans hlen hn2) hr hG hb (hF ns hlen)
end Vq

/-! Part 7: what operators and built-ins do upon values. -/
namespace Vq
open PySem PySem.Spec PyProof.Rows L2

/-! ### a list's items -/
def lk (h : VH) (n : Nat) : Option (List D) := match h[n]? with
  | some (.lst l) => some l
  | some (.ro l) => some l
  | none => none
theorem lk_sq {K : PySem.W.Frag} {w : Wd} {n : Nat} {ds : List D} (ok : w.Ok K) (e : lk w.h n = some ds) : ∃ vs, SqL K w.H (w.ι n) vs ∧ Rps K w ds vs := by
  unfold lk at e
  cases q : w.h[n]? with
  | none => rw [q] at e; cases e
  | some c =>
    have z := ok.cell n c q
    rw [q] at e
    cases c with
    | lst l =>
      cases e
      obtain ⟨vs, h1, h2⟩ := z
      exact ⟨vs, SqL.of h1, h2⟩
    | ro l =>
      cases e
      obtain ⟨vs, h1, h2⟩ := z
      exact ⟨vs, h1.sq, h2⟩
def seqOf (h : VH) : D → Option (List D)
  | .tup l => some l
  | .ref n => lk h n
  | .ftup l => some l
  | _ => none
theorem seqOf_sq {K : PySem.W.Frag} {w : Wd} {d : D} {v : V} {ds : List D} (ok : w.Ok K) (r : Rp K w d v) (e : seqOf w.h d = some ds) : ∃ a vs, v = .ref a ∧ (SqL K w.H a vs ∨ SqT K w.H a vs) ∧ Rps K w ds vs := by
  cases r with
  | tup hq rr => cases e; exact ⟨_, _, rfl, .inr hq, rr⟩
  | ftup hq rr => cases e; exact ⟨_, _, rfl, .inr hq.sq, rr⟩
  | ref hk =>
    obtain ⟨vs, h1, h2⟩ := lk_sq ok e
    exact ⟨_, vs, rfl, .inl h1, h2⟩
  | _ => cases e

/-! ### plain data, as the library says it -/
mutual
def pyD (f : Nat → Option PyData) : D → Option PyData
  | .non => some .none
  | .bl b => some (.bool b)
  | .int i => some (.int i)
  | .str s => some (.str s)
  | .tup l => (pyL f l).map .tuple
  | .ftup l => (pyL f l).map .tuple
  | .ref n => f n
def pyL (f : Nat → Option PyData) : List D → Option (List PyData)
  | [] => some []
  | d :: r => (pyD f d).bind fun a => (pyL f r).map fun b => a :: b
end
def refPy (h : VH) : Nat → Nat → Option PyData
  | 0, _ => none
  | k + 1, n => (lk h n).bind fun l => (pyL (refPy h k) l).map .list
def py (h : VH) (d : D) : Option PyData := pyD (refPy h 6) d

mutual
theorem pyD_dp {K : PySem.W.Frag} {w : Wd} {f : Nat → Option PyData} (hf : ∀ n p, f n = some p → Dp K w.H (.ref (w.ι n)) p) : ∀ {d : D} {v : V} {p : PyData}, Rp K w d v → pyD f d = some p → Dp K w.H v p
  | _, _, _, .non, e => by simp only [pyD] at e; cases e; exact .non
  | _, _, _, .bl b, e => by simp only [pyD] at e; cases e; exact .bl b
  | _, _, _, .int i, e => by simp only [pyD] at e; cases e; exact .int i
  | _, _, _, .str s, e => by simp only [pyD] at e; cases e; exact .str s
  | _, _, _, .tup h r, e => by
    simp only [pyD] at e
    obtain ⟨ps, e1, rfl⟩ := Option.map_eq_some_iff.mp e
    exact .tup h (pyL_dp hf r e1)
  | _, _, _, .ftup h r, e => by
    simp only [pyD] at e
    obtain ⟨ps, e1, rfl⟩ := Option.map_eq_some_iff.mp e
    exact .tup h.sq (pyL_dp hf r e1)
  | _, _, _, .ref _, e => by simp only [pyD] at e; exact hf _ _ e
theorem pyL_dp {K : PySem.W.Frag} {w : Wd} {f : Nat → Option PyData} (hf : ∀ n p, f n = some p → Dp K w.H (.ref (w.ι n)) p) : ∀ {d : List D} {v : List V} {p : List PyData}, Rps K w d v → pyL f d = some p → DpAll K w.H v p
  | _, _, _, .nil, e => by simp only [pyL] at e; cases e; exact .nil
  | _, _, _, .cons h r, e => by
    simp only [pyL] at e
    obtain ⟨a, ea, e⟩ := Option.bind_eq_some_iff.mp e
    obtain ⟨b, eb, rfl⟩ := Option.map_eq_some_iff.mp e
    exact .cons (pyD_dp hf h ea) (pyL_dp hf r eb)
end
theorem refPy_dp {K : PySem.W.Frag} {w : Wd} (ok : w.Ok K) : ∀ (k n : Nat) (p : PyData), refPy w.h k n = some p → Dp K w.H (.ref (w.ι n)) p
  | 0, _, _, e => by cases e
  | k + 1, n, p, e => by
    simp only [refPy] at e
    obtain ⟨l, el, e⟩ := Option.bind_eq_some_iff.mp e
    obtain ⟨ps, ep, rfl⟩ := Option.map_eq_some_iff.mp e
    obtain ⟨vs, h1, h2⟩ := lk_sq ok el
    exact .lst h1 (pyL_dp (refPy_dp ok k) h2 ep)
theorem py_dp {K : PySem.W.Frag} {w : Wd} {d : D} {v : V} {p : PyData} (ok : w.Ok K) (r : Rp K w d v) (e : py w.h d = some p) : Dp K w.H v p := pyD_dp (refPy_dp ok 6) r e

def eqWith (neg : Bool) (x y : D) (h : VH) : Option (D × VH) := match py h x, py h y with
  | some a, some b => if SeqAt.shaped a && SeqAt.shaped b then some (.bl (if neg then !PyData.eqv a b else PyData.eqv a b), h) else none
  | _, _ => none
/-! ### ints -/
def ii (f : Int → Int → Option D) (x y : D) (h : VH) : Option (D × VH) := match x, y with
  | .int i, .int j => (f i j).map fun d => (d, h)
  | _, _ => none
theorem opd_ii {K : PySem.W.Frag} {r : R2} {f : Int → Int → Option D} (hr : ∀ (i j : Int) (d : D) (H : Hp) (Q : VK), f i j = some d → (∀ v, (∀ w : Wd, Rp K w d v) → Q v H) → r (.int i) (.int j) H Q) : OpD K r (ii f) := fun w x y vx vy Q ok rx ry h => by
  cases rx with
  | int i =>
    cases ry with
    | int j =>
      unfold ii at h
      simp only at h
      cases e : f i j with
      | none => rw [e] at h; exact h.elim
      | some d =>
        rw [e] at h
        exact hr i j d w.H Q e fun v hv => h w v ok rfl (.refl w) (hv w)
    | _ => exact h.elim
  | _ => cases ry <;> exact h.elim
theorem opd_or {K : PySem.W.Frag} {r r' : R2} {f f' g : D → D → VH → Option (D × VH)} (a : OpD K r f) (b : OpD K r' f') (h : ∀ x y hp, (g x y hp = f x y hp) ∨ (g x y hp = f' x y hp)) : OpD K (fun x y H Q => r x y H Q ∨ r' x y H Q) g := fun w x y vx vy Q ok rx ry hp => by
  rcases h x y w.h with e | e
  · rw [e] at hp; exact .inl (a w x y vx vy Q ok rx ry hp)
  · rw [e] at hp; exact .inr (b w x y vx vy Q ok rx ry hp)
/-- two operations side by side: the second where the first is not said -/
def orD (f g : D → D → VH → Option (D × VH)) : D → D → VH → Option (D × VH) := fun x y h => match f x y h with
  | some p => some p
  | none => g x y h
theorem opd_orD {K : PySem.W.Frag} {r r' : R2} {f f' : D → D → VH → Option (D × VH)} (a : OpD K r f) (b : OpD K r' f') : OpD K (fun x y H Q => r x y H Q ∨ r' x y H Q) (orD f f') :=
  opd_or a b fun x y hp => by
    unfold orD
    cases e : f x y hp with
    | none => exact .inr rfl
    | some p => exact .inl rfl

theorem eqd_opd (K : PySem.W.Frag) : OpD K (rEqD K) (eqWith false) := fun w x y vx vy Q ok rx ry h => by
  unfold eqWith at h
  cases ea : py w.h x with
  | none => rw [ea] at h; exact h.elim
  | some a =>
    cases eb : py w.h y with
    | none => rw [ea, eb] at h; exact h.elim
    | some b =>
      simp only [ea, eb] at h
      by_cases hs : (SeqAt.shaped a && SeqAt.shaped b) = true
      · rw [if_pos hs] at h
        rw [Bool.and_eq_true] at hs
        exact ⟨a, b, py_dp ok rx ea, py_dp ok ry eb, hs.1, hs.2, h w _ ok rfl (.refl w) (.bl _)⟩
      · rw [if_neg hs] at h
        exact h.elim
theorem ned_opd (K : PySem.W.Frag) : OpD K (rNeD K) (eqWith true) := fun w x y vx vy Q ok rx ry h => by
  unfold eqWith at h
  cases ea : py w.h x with
  | none => rw [ea] at h; exact h.elim
  | some a =>
    cases eb : py w.h y with
    | none => rw [ea, eb] at h; exact h.elim
    | some b =>
      simp only [ea, eb] at h
      by_cases hs : (SeqAt.shaped a && SeqAt.shaped b) = true
      · rw [if_pos hs] at h
        rw [Bool.and_eq_true] at hs
        exact ⟨a, b, py_dp ok rx ea, py_dp ok ry eb, hs.1, hs.2, h w _ ok rfl (.refl w) (.bl _)⟩
      · rw [if_neg hs] at h
        exact h.elim

/-- two texts -/
def eqStr (neg : Bool) (x y : D) (h : VH) : Option (D × VH) := match x, y with
  | .str a, .str b => some (.bl (if neg then !decide (a = b) else decide (a = b)), h)
  | _, _ => none
theorem eqs_opd (K : PySem.W.Frag) : OpD K rEq (eqStr false) := fun w x y vx vy Q ok rx ry h => by
  cases rx with
  | str a =>
    cases ry with
    | str b =>
      have e : decide (V.str a = V.str b) = decide (a = b) := by simp
      exact ⟨rfl, by rw [e]; exact h w _ ok rfl (.refl w) (.bl _)⟩
    | _ => exact h.elim
  | _ => cases ry <;> exact h.elim
theorem nes_opd (K : PySem.W.Frag) : OpD K rNe (eqStr true) := fun w x y vx vy Q ok rx ry h => by
  cases rx with
  | str a =>
    cases ry with
    | str b =>
      have e : decide (V.str a = V.str b) = decide (a = b) := by simp
      exact ⟨rfl, by rw [e]; exact h w _ ok rfl (.refl w) (.bl _)⟩
    | _ => exact h.elim
  | _ => cases ry <;> exact h.elim
def dEq : D → D → VH → Option (D × VH) := orD (eqStr false) (eqWith false)
def dNe : D → D → VH → Option (D × VH) := orD (eqStr true) (eqWith true)
def rEqA (K : PySem.W.Frag) : R2 := fun x y H Q => rEq x y H Q ∨ rEqD K x y H Q
def rNeA (K : PySem.W.Frag) : R2 := fun x y H Q => rNe x y H Q ∨ rNeD K x y H Q
theorem eq_opd (K : PySem.W.Frag) : OpD K (rEqA K) dEq := opd_orD (eqs_opd K) (eqd_opd K)
theorem ne_opd (K : PySem.W.Frag) : OpD K (rNeA K) dNe := opd_orD (nes_opd K) (ned_opd K)
theorem eq_opr {X : Cx} (hu : X.A.units + 64 < cLine) : OpR X (compareOp .Eq) (rEqA X.K) := OpR.or op_eq (op_eqD hu)
theorem ne_opr {X : Cx} (hu : X.A.units + 64 < cLine) : OpR X (compareOp .NotEq) (rNeA X.K) := OpR.or op_ne (op_neD hu)

def aAdd := ii fun i j => some (.int (i + j))
def aSub := ii fun i j => some (.int (i - j))
theorem add_ii (K : PySem.W.Frag) : OpD K (rI0 fun i j => .int (i + j)) aAdd := opd_ii fun i j d H Q e q => by
  cases e
  exact ⟨i, j, rfl, rfl, q _ fun _ => .int _⟩
theorem sub_ii (K : PySem.W.Frag) : OpD K (rI0 fun i j => .int (i - j)) aSub := opd_ii fun i j d H Q e q => by
  cases e
  exact ⟨i, j, rfl, rfl, q _ fun _ => .int _⟩
/-- a product's size: one side small, or both bounded -/
def mulOk (i j : Int) : Bool := decide (-(2 ^ 64) < i ∧ i < 2 ^ 64) || decide (-(2 ^ 64) < j ∧ j < 2 ^ 64) || decide (i.natAbs.log2 + j.natAbs.log2 < 1000000)
def aMul := ii fun i j => if mulOk i j then some (.int (i * j)) else none
theorem mul_ii (K : PySem.W.Frag) : OpD K (fun x y H Q => rI CMul (fun i j => .int (i * j)) x y H Q ∨ rI CMulW (fun i j => .int (i * j)) x y H Q) aMul := opd_ii fun i j d H Q e q => by
  by_cases h : mulOk i j = true
  · rw [if_pos h] at e
    cases e
    unfold mulOk at h
    simp only [Bool.or_eq_true, decide_eq_true_eq] at h
    rcases h with (h | h) | h
    · exact .inl ⟨i, j, rfl, rfl, .inl h, q _ fun _ => .int _⟩
    · exact .inl ⟨i, j, rfl, rfl, .inr h, q _ fun _ => .int _⟩
    · exact .inr ⟨i, j, rfl, rfl, h, q _ fun _ => .int _⟩
  · rw [if_neg h] at e
    cases e
def divOk (j : Int) : Bool := (j != 0 && decide (j.natAbs < 1073741824)) || (decide (0 < j) && decide (j.natAbs.log2 < 9000))
def aFdv := ii fun i j => if divOk j then some (.int (i.fdiv j)) else none
theorem fdv_ii (K : PySem.W.Frag) : OpD K (fun x y H Q => rI CDivN (fun i j => .int (i.fdiv j)) x y H Q ∨ rI CDivW (fun i j => .int (i / j)) x y H Q) aFdv := opd_ii fun i j d H Q e q => by
  by_cases h : divOk j = true
  · rw [if_pos h] at e
    cases e
    unfold divOk at h
    simp only [Bool.or_eq_true, Bool.and_eq_true, decide_eq_true_eq, bne_iff_ne] at h
    rcases h with h | h
    · exact .inl ⟨i, j, rfl, rfl, h, q _ fun _ => .int _⟩
    · refine .inr ⟨i, j, rfl, rfl, h, ?_⟩
      have e : i.fdiv j = i / j := Int.fdiv_eq_ediv_of_nonneg i (Int.le_of_lt h.1)
      show Q (.int (i / j)) H
      rw [← e]
      exact q _ fun _ => .int _
  · rw [if_neg h] at e
    cases e
def aMod := ii fun i j => if j = 0 then none else some (.int (i.fmod j))
theorem mod_ii (K : PySem.W.Frag) : OpD K (rI (fun _ j => j ≠ 0) fun i j => .int (i.fmod j)) aMod := opd_ii fun i j d H Q e q => by
  by_cases h : j = 0
  · rw [if_pos h] at e
    cases e
  · rw [if_neg h] at e
    cases e
    exact ⟨i, j, rfl, rfl, h, q _ fun _ => .int _⟩
def powOk (i j : Int) : Bool := decide (0 ≤ j) && decide ((Builtin.Int.intBits i : Int) * j ≤ 2 ^ 27)
def aPow := ii fun i j => if powOk i j then some (.int (i ^ j.toNat)) else none
theorem op_powB {X : Cx} : OpR X (binaryOp .Pow) (rI (fun i j => powOk i j = true) fun i j => .int (i ^ j.toNat)) := by
  rintro pins s σ H x y v u Q I rx ry ⟨i, j, rfl, rfl, c, q⟩
  obtain ⟨t, rfl⟩ := rx
  obtain ⟨t', rfl⟩ := ry
  unfold powOk at c
  simp only [Bool.and_eq_true, decide_eq_true_eq] at c
  exact pow_int c.1 c.2 ⟨.int _, H, I.tok _, ⟨_, rfl⟩, q⟩
theorem pow_ii (K : PySem.W.Frag) : OpD K (rI (fun i j => powOk i j = true) fun i j => .int (i ^ j.toNat)) aPow := opd_ii fun i j d H Q e q => by
  by_cases h : powOk i j = true
  · rw [if_pos h] at e
    cases e
    exact ⟨i, j, rfl, rfl, h, q _ fun _ => .int _⟩
  · rw [if_neg h] at e
    cases e
def aLt := ii fun i j => some (.bl (decide (i < j)))
def aLe := ii fun i j => some (.bl (decide (i ≤ j)))
def aGt := ii fun i j => some (.bl (decide (j < i)))
def aGe := ii fun i j => some (.bl (decide (j ≤ i)))
theorem lt_ii (K : PySem.W.Frag) : OpD K (rI0 fun i j => .bl (decide (i < j))) aLt := opd_ii fun i j d H Q e q => by
  cases e
  exact ⟨i, j, rfl, rfl, q _ fun _ => .bl _⟩
theorem le_ii (K : PySem.W.Frag) : OpD K (rI0 fun i j => .bl (decide (i ≤ j))) aLe := opd_ii fun i j d H Q e q => by
  cases e
  exact ⟨i, j, rfl, rfl, q _ fun _ => .bl _⟩
theorem gt_ii (K : PySem.W.Frag) : OpD K (rI0 fun i j => .bl (decide (j < i))) aGt := opd_ii fun i j d H Q e q => by
  cases e
  exact ⟨i, j, rfl, rfl, q _ fun _ => .bl _⟩
theorem ge_ii (K : PySem.W.Frag) : OpD K (rI0 fun i j => .bl (decide (j ≤ i))) aGe := opd_ii fun i j d H Q e q => by
  cases e
  exact ⟨i, j, rfl, rfl, q _ fun _ => .bl _⟩
def uNeg (x : D) (h : VH) : Option (D × VH) := match x with
  | .int i => some (.int (-i), h)
  | _ => none
theorem neg_un (K : PySem.W.Frag) : UnD K (rU fun i => .int (-i)) uNeg := fun w x vx Q ok rx h => by
  cases rx with
  | int i => exact ⟨i, rfl, h w _ ok rfl (.refl w) (.int _)⟩
  | _ => exact h.elim

/-! ### tuples, lists, texts -/
def tAddT : D → D → VH → Option (D × VH) := fun x y h => match x, y with
  | .tup a, .tup b => if a.length + b.length ≤ sizeLine then some (.tup (a ++ b), h) else none
  | _, _ => none
theorem addT_opd (K : PySem.W.Frag) : OpD K (rCatA K) tAddT := fun w x y vx vy Q ok rx ry h => by
  cases rx with
  | tup hx rx =>
    cases ry with
    | tup hy ry =>
      unfold tAddT at h
      simp only at h
      rename_i a vs ds b us es
      by_cases hl : ds.length + es.length ≤ sizeLine
      · rw [if_pos hl] at h
        refine ⟨_, _, _, _, rfl, rfl, hx, hy, by rw [← rx.length, ← ry.length]; exact hl, fun e => ?_, fun e1 e2 => ?_, fun e1 e2 p hp => ?_⟩
        · subst e
          cases rx
          exact h w _ ok rfl (.refl w) (.tup hy ry)
        · subst e2
          cases ry
          rw [List.append_nil] at h
          exact h w _ ok rfl (.refl w) (.tup hx rx)
        · exact h (w.tupAt p (.tup (vs ++ us))) _ (ok.tupAt hp) rfl (Wd.ext_tupAt hp) (.tup (SqT.of upd_same) ((Wd.ext_tupAt hp).rps (rx.append ry)))
      · rw [if_neg hl] at h
        exact h.elim
    | _ => exact h.elim
  | _ => cases ry <;> exact h.elim
def tAddL : D → D → VH → Option (D × VH) := fun x y h => match x, y with
  | .ref m, .ref n => match h[m]?, h[n]? with
    | some (.lst a), some (.lst b) => if a.length + b.length ≤ sizeLine then some (.ref h.length, h ++ [.lst (a ++ b)]) else none
    | _, _ => none
  | _, _ => none
theorem addL_opd (K : PySem.W.Frag) : OpD K rCat tAddL := fun w x y vx vy Q ok rx ry h => by
  cases rx with
  | ref hm =>
    rename_i m
    cases ry with
    | ref hn =>
      rename_i n
      unfold tAddL at h
      simp only at h
      cases e1 : w.h[m]? with
      | none => rw [e1] at h; exact h.elim
      | some c1 =>
        cases e2 : w.h[n]? with
        | none => cases c1 <;> (simp only [e1, e2] at h; exact h.elim)
        | some c2 =>
          cases c1 with
          | ro _ => simp only [e1, e2] at h; exact h.elim
          | lst a =>
            cases c2 with
            | ro _ => simp only [e1, e2] at h; exact h.elim
            | lst b =>
              simp only [e1, e2] at h
              by_cases hl : a.length + b.length ≤ sizeLine
              · rw [if_pos hl] at h
                obtain ⟨us, h1, r1⟩ := ok.cell m _ e1
                obtain ⟨vs, h2, r2⟩ := ok.cell n _ e2
                refine ⟨_, _, us, vs, rfl, rfl, h1, h2, by rw [← r1.length, ← r2.length]; exact hl, fun p hp => ?_⟩
                exact h (w.newL p (a ++ b) (us ++ vs)) _ (ok.newL hp (r1.append r2)) rfl (Wd.ext_newL hp) at_newL
              · rw [if_neg hl] at h
                exact h.elim
    | _ => exact h.elim
  | _ => cases ry <;> exact h.elim
def tAddS : D → D → VH → Option (D × VH) := fun x y h => match x, y with
  | .str a, .str b => if a.length + b.length ≤ sizeLine then some (.str (a ++ b), h) else none
  | _, _ => none
theorem addS_opd (K : PySem.W.Frag) : OpD K (fun x y H Q => ∃ i j, x = .str i ∧ y = .str j ∧ i.length + j.length ≤ sizeLine ∧ Q (.str (i ++ j)) H) tAddS := fun w x y vx vy Q ok rx ry h => by
  cases rx with
  | str a =>
    cases ry with
    | str b =>
      unfold tAddS at h
      simp only at h
      by_cases hl : a.length + b.length ≤ sizeLine
      · rw [if_pos hl] at h
        exact ⟨a, b, rfl, rfl, hl, h w _ ok rfl (.refl w) (.str _)⟩
      · rw [if_neg hl] at h
        exact h.elim
    | _ => exact h.elim
  | _ => cases ry <;> exact h.elim
/-- +: ints, tuples, lists, texts -/
def dAdd : D → D → VH → Option (D × VH) := orD aAdd (orD tAddT (orD tAddL tAddS))
def orR (a b : R2) : R2 := fun x y H Q => a x y H Q ∨ b x y H Q
def rStrCat : R2 := fun x y H Q => ∃ i j, x = .str i ∧ y = .str j ∧ i.length + j.length ≤ sizeLine ∧ Q (.str (i ++ j)) H
def rAdd (K : PySem.W.Frag) : R2 := orR (rI0 fun i j => .int (i + j)) (orR (rCatA K) (orR rCat rStrCat))
theorem add_opd (K : PySem.W.Frag) : OpD K (rAdd K) dAdd := opd_orD (add_ii K) (opd_orD (addT_opd K) (opd_orD (addL_opd K) (addS_opd K)))
theorem add_opr {X : Cx} : OpR X (binaryOp .Add) (rAdd X.K) := OpR.or (op_add (X := X)) (OpR.or (op_catA (X := X)) (OpR.or (op_cat (X := X)) (op_add_str (X := X))))

/-! ### in, not in (flat things) -/
def flatD : D → Bool
  | .tup _ => false
  | .ftup _ => false
  | .ref _ => false
  | _ => true
def inWith (neg : Bool) (x y : D) (h : VH) : Option (D × VH) := match py h x, (seqOf h y).bind (pyL fun _ => none) with
  | some a, some l => if flatD x && ((seqOf h y).getD []).all flatD then some (.bl (if neg then !(l.any fun b => PyData.eqv b a) else l.any fun b => PyData.eqv b a), h) else none
  | _, _ => none

/-! ### subscripts -/
def dIx (x y : D) (h : VH) : Option (D × VH) := match y with
  | .int i => (seqOf h x).bind fun l => (atI l i).map fun d => (d, h)
  | _ => none
theorem atI_rep {K : PySem.W.Frag} {w : Wd} {ds : List D} {vs : List V} {i : Int} {d : D} (r : Rps K w ds vs) (e : atI ds i = some d) : ∃ v, atI vs i = some v ∧ Rp K w d v := by
  unfold atI at e ⊢
  rw [← RepL.length r]
  cases q : ixN ds.length i with
  | none => rw [q] at e; cases e
  | some j =>
    rw [q] at e
    obtain ⟨v, ev, rv⟩ := RepL.get r (i := j) e
    exact ⟨v, ev, rv⟩
theorem ix_opd (K : PySem.W.Frag) : OpD K (rIx K) dIx := fun w x y vx vy Q ok rx ry h => by
  cases ry with
  | int i =>
    unfold dIx at h
    simp only at h
    cases es : seqOf w.h x with
    | none => rw [es] at h; exact h.elim
    | some l =>
      rw [es] at h
      simp only [Option.bind_some] at h
      cases ea : atI l i with
      | none => rw [ea] at h; exact h.elim
      | some d =>
        rw [ea] at h
        obtain ⟨a, vs, rfl, hq, rr⟩ := seqOf_sq ok rx es
        obtain ⟨v, ev, rv⟩ := atI_rep rr ea
        have q := h w v ok rfl (.refl w) rv
        rcases hq with hq | hq
        · exact .inl ⟨a, vs, i, v, rfl, rfl, hq, ev, q⟩
        · exact .inr (.inl ⟨a, vs, i, v, rfl, rfl, hq, ev, q⟩)
  | _ => exact h.elim
end Vq

/-! Part 8: walks over tuples by enumerate; what built-ins do upon tuples; repr. -/
namespace Vq
open PySem PySem.Spec PyProof.Rows L2

/-! ### enumerate over what begins somehow -/
set_option maxHeartbeats 1000000 in
theorem meets_enum1 {v : Value} {o : Obj} {H : Heap → Prop} (B : Begins v o H) :
    Meets (Builtin.«enumerate.__new__» ⟨[.type "enumerate", v], []⟩) (fun _ R s => H s.heap ∧
      R (.ok (.ret (.ref (s.heap.push o).objs.size))) { s with heap := (s.heap.push o).push { cls := .type "enumerate", data := .fields #[.none, .bool false, .ref s.heap.objs.size, rawInt 0, .none, .none] } }) := by
  refine .of_wp fun prog w A R s h => ?_
  obtain ⟨hp, g, d, tk, os⟩ := s
  obtain ⟨h1, h⟩ := h
  have hsub := sub_enumerate
  have q1 : ∀ {A' : Around} {E : Value → Shared → Prop} {Q : Value → Shared → Prop}, Q (.ref hp.objs.size) ⟨hp.push o, g, d, tk, os⟩ →
      wpAny (model prog w) A' (pyIter v) Q E ⟨hp, g, d, tk, os⟩ := fun q => B.iter prog w _ _ ⟨hp, g, d, tk, os⟩ _ h1 q
  wp_walk using q1
  refine wpAny_stack_any fun st => wpAny_pure ?_
  split
  · rename_i c _ _ _ _ _
    cases (c == Value.type "enumerate") <;>
      (wp_walk using q1
       exact ⟨_, rfl, h⟩)
  · wp_walk using q1
    exact ⟨_, rfl, h⟩
section
variable {prog : Program} {w : World} {A : Around} {E : Value → Shared → Prop} {s : Shared}
theorem enum1_begins {v : Value} {o : Obj} {H : Heap → Prop} {Q : Value → Shared → Prop} (B : Begins v o H) (h1 : H s.heap)
    (h : ∀ h', IsEnum h' (s.heap.objs.size + 1) s.heap.objs.size 0 .none → h'.get? s.heap.objs.size = some o →
      (∀ b o, s.heap.get? b = some o → h'.get? b = some o) → Q (.ref (s.heap.objs.size + 1)) { s with heap := h' }) :
    wpAny (model prog w) A (call (.type "enumerate") [v]) Q E s := by
  refine callType_new F.called_enumerate (by decide) (F.typeCall_enumerate_1 _) (F.newCall_enumerate_1 _) (fun obj => F.args_object_init_2 obj _) F.entry_enumerate_new (meets_enum1 B) ⟨h1, ?_⟩
  have hz : (s.heap.push o).objs.size = s.heap.objs.size + 1 := Heap.size_push ..
  show _ ∧ _
  rw [hz]
  have he : IsEnum ((s.heap.push o).push { cls := .type "enumerate", data := .fields #[.none, .bool false, .ref s.heap.objs.size, rawInt 0, .none, .none] })
      (s.heap.objs.size + 1) s.heap.objs.size 0 .none := by
    have q := Heap.get?_push_size (s.heap.push o) (o := { cls := .type "enumerate", data := .fields #[.none, .bool false, .ref s.heap.objs.size, rawInt 0, .none, .none] }) rfl
    rw [hz] at q
    exact q
  exact ⟨⟨_, he, rfl⟩, h _ he (Heap.get?_push_of_some _ (Heap.get?_push_size _ B.free)) fun b o x => Heap.get?_push_of_some _ (Heap.get?_push_of_some _ x)⟩
end

/-- the tuple at a, of n items, numbered, in new pairs -/
def IteT (K : PySem.W.Frag) (a : Addr) (n : Nat) : It :=
  ⟨fun i H => ∃ xs x, SqT K H a xs ∧ xs.length = n ∧ xs[i]? = some x,
   fun i H v H' => ∃ T x, v = .ref T ∧ H T = none ∧ H' = upd H T (.tup [.int (i : Nat), x]) ∧ ∀ xs, SqT K H a xs → xs[i]? = some x,
   fun i H => ∃ xs, SqT K H a xs ∧ xs.length = n ∧ n ≤ i⟩
theorem tup_inj {X : Cx} {pins : List (Addr × Obj)} {σ : L2.St} {H : Hp} {s : Shared} {a : Addr} {xs ys : List V} (I : Inv X pins σ H s) (h : SqT X.K H a xs) (h' : SqT X.K H a ys) : xs = ys := by
  obtain ⟨its, r, ⟨o, e, _, n, d⟩, _⟩ := I.tuple h
  obtain ⟨its', r', ⟨o', e', _, n', d'⟩, _⟩ := I.tuple h'
  rw [e] at e'
  cases e'
  rw [d] at d'
  injection d' with d1 _
  have z : its = its' := by simpa using congrArg Array.toList d1
  subst z
  exact r.inj r'
theorem turn_enumT {P : Program} {w : World} {K : PySem.W.Frag} {elts : List Expr} {kk n : Nat} {tpos : Pos} (a e it : Addr) :
    Turn P w K (.Tuple elts kk tpos) (IteT K a n) [e, it] e (fun i h => (∃ old, IsEnum h e it ((i : Nat) : Int) old) ∧ h.IsTupleIter it a i ∧ e ≠ it ∧ i ≤ n) where
  mem := by simp
  obj := fun i h st b hb => by
    obtain ⟨⟨old, he⟩, ⟨o, ho, hc, hd⟩, _⟩ := st
    have e' : b = e ∨ b = it := by simpa using hb
    rcases e' with z | z
    · rw [z]
      exact ⟨_, he, fun v q => nomatch q⟩
    · rw [z]
      exact ⟨o, ho, fun v q => by rw [hd] at q; cases q⟩
  keep := fun i h h' st k => by
    obtain ⟨⟨old, he⟩, hi, hne, hn⟩ := st
    exact ⟨⟨old, k e (by simp) _ he⟩, hi.at fun o q => k it (by simp) o q, hne, hn⟩
  item := by
    intro X hP hw hK hc i pins s σ H E I hf st hg
    subst hP hw hK
    obtain ⟨⟨old, he⟩, hit, hne, hn⟩ := st
    obtain ⟨xs, x, hq, hlen, hx⟩ := hg
    obtain ⟨its, rv, p, hz⟩ := I.tuple hq
    obtain ⟨u, hu, ru⟩ := rv.get hx
    have hel : e < s.heap.objs.size := Heap.lt_size he
    have hil : it < s.heap.objs.size := by
      obtain ⟨_, q, _⟩ := hit
      exact Heap.lt_size q
    have pT : s.heap.IsTuple a its.toArray := p
    have hae : e ≠ a := by
      rintro rfl
      obtain ⟨o, eo, co, _⟩ := pT
      rw [show s.heap.get? e = _ from he] at eo
      cases eo
      injection co with z
      exact absurd z (by decide)
    have hai : a ≠ it := by
      rintro rfl
      obtain ⟨o, eo, co, _⟩ := pT
      obtain ⟨o2, e2, c2, _⟩ := hit
      rw [eo] at e2
      cases e2
      rw [co] at c2
      injection c2 with z
      exact absurd z (by decide)
    have hlt : i < its.toArray.size := by
      have := rv.length
      have := (List.getElem?_eq_some_iff.mp hx).1
      simp
      omega
    refine wpAny_pyNext_enum_itemD (Draws.tuple (show X.A.in1.handled = none from I.ok.hd hc) it a hai its.toArray) he ⟨hit, pT⟩ hlt hne (by simp [hne, hae]) fun x' h' tk hx' ho st' hT hsz hk => ?_
    have ex : x' = u := by
      have : its[i]? = some x' := by simpa using hx'
      rw [hu] at this
      exact (Option.some.inj this).symm
    subst ex
    refine ⟨_, rfl, wpAny_letOwnedTupleGo_enum (s := { s with heap := h', toks := tk + 1 }) ho fun h'' he' sb => ?_⟩
    have hT2 : h''.get? s.heap.objs.size = some { cls := .type "tuple", data := .seq #[.int i tk, x'] } := (sb.2 _ (Nat.ne_of_gt hel)).trans hT
    have new : ObjOk X.prog X.w (upd H s.heap.objs.size (.tup [.int (i : Nat), x])) h'' s.heap.objs.size (.tup [.int (i : Nat), x]) :=
      ⟨by show 2 ≤ sizeLine; decide, [.int i tk, x'], .cons ⟨_, rfl⟩ (.cons ru .nil), ⟨_, hT2, rfl, _, rfl⟩⟩
    have I1 : Inv X pins σ (upd H s.heap.objs.size (.tup [.int (i : Nat), x])) { s with heap := h'', toks := tk + 1 } :=
      I.turnedNew (ch := [e, it]) (fun b ob hb q => (sb.2 b (fun z => hb (by simp [z]))).trans (hk b ob (fun z => hb (by simp [z])) (fun z => hb (by simp [z])) q)) hf (Nat.le_refl _) new
    refine ⟨.ref s.heap.objs.size, _, I1, rfl, ⟨_, x, rfl, I.hok.fresh (Nat.le_refl _), rfl, fun ys hy => by rw [tup_inj I hy hq]; exact hx⟩, ⟨⟨x', ?_⟩, st'.1.at fun o q => (sb.2 it (Ne.symm hne)).trans q, hne, ?_⟩, fun b hb => ?_⟩
    · have e1 : ((i + 1 : Nat) : Int) = (i : Int) + 1 := by omega
      rw [e1]
      exact he'
    · have := (List.getElem?_eq_some_iff.mp hx).1
      omega
    · have hb' : b < s.heap.objs.size := by
        have e' : b = e ∨ b = it := by simpa using hb
        rcases e' with z | z
        · rw [z]; exact hel
        · rw [z]; exact hil
      rw [upd_ne (Nat.ne_of_lt hb')]
      exact (hf b hb).1
  done := by
    intro X hP hw hK hc i pins s σ H E I hf st hg
    subst hP hw hK
    obtain ⟨⟨old, he⟩, hit, hne, hn⟩ := st
    obtain ⟨xs, hq, hlen, hx⟩ := hg
    obtain ⟨its, rv, p, hz⟩ := I.tuple hq
    have pT : s.heap.IsTuple a its.toArray := p
    have hai : a ≠ it := by
      rintro rfl
      obtain ⟨o, eo, co, _⟩ := pT
      obtain ⟨o2, e2, c2, _⟩ := hit
      rw [eo] at e2
      cases e2
      rw [co] at c2
      injection c2 with z
      exact absurd z (by decide)
    have hi : its.toArray.size = i := by
      have := rv.length
      simp
      omega
    obtain ⟨f0, f1, f2, f3, f4, f5⟩ := hf it (by simp)
    exact wpAny_pyNext_enum_endD (Draws.tuple (show X.A.in1.handled = none from I.ok.hd hc) it a hai its.toArray) he (by rw [hi]; exact ⟨hit, pT⟩) fun h' eb => ⟨rfl, I.turned (t' := s.toks) (fun b o hb q => eb b o hb q) f0 f1 f3 f4 f5⟩
  self := fun A i s Q E st h => let ⟨⟨_, he⟩, _⟩ := st; wpAny_pyIter_enum he h
def iEnumT (K : PySem.W.Frag) (ta : TA) : TI := fun σ H R => ta σ H fun vs H1 => ∃ a xs, vs = [.ref a] ∧ SqT K H1 a xs ∧ R (IteT K a xs.length) H1
theorem pi_enumA {X : Cx} {e : Expr} {ta : TA} {p pos tpos : Pos} {elts : List Expr} {kk : Nat} (hg : Gl X "enumerate") (hm : X.mg "enumerate" = none) (ha : PA X [e] ta) (hs : starEach [e] X.env = [(false, eval e X.env)] := by rfl) :
    PI X (.Tuple elts kk tpos) (.Call (.Name "enumerate" p) [e] [] pos) (fun σ H R => ta σ H fun vs H1 => (∃ a xs, vs = [.ref a] ∧ SqL X.K H1 a xs ∧ R (Ite X.K a) H1) ∨ ∃ a xs, vs = [.ref a] ∧ SqT X.K H1 a xs ∧ R (IteT X.K a xs.length) H1) := by
  refine ⟨fun pins s σ H R I h => ?_⟩
  refine Call_ (ld_blt I hg hm boot_enumerate (PyProof.Rows.callWith_type1 (thn (ha.run pos pins s σ H _ I h) fun us s1 ⟨vs, H1, I1, r1, q1⟩ => ?_) hs rfl))
  rcases q1 with ⟨a, xs, ex, hq, q⟩ | ⟨a, xs, ex, hq, q⟩
  · subst ex
    cases r1 with
    | cons r rr =>
      cases rr
      cases r
      obtain ⟨its, rv, p', hz⟩ := I1.list hq
      refine call_enumerate_list p'.isList fun h' he hit hsz hk => wpAny_pyIter_enum he ?_
      have I2 : Inv X pins σ H1 { s1 with heap := h' } := I1.kept (t' := s1.toks) hk
      refine ⟨s1.heap.objs.size + 1, [s1.heap.objs.size + 1, s1.heap.objs.size], _, _, H1, rfl, I2, turn_enum a (s1.heap.objs.size + 1) s1.heap.objs.size, ⟨⟨.none, he⟩, hit, Nat.succ_ne_self _⟩, fun b hb => ?_, q⟩
      have hle : s1.heap.objs.size ≤ b := by
        rcases (show b = s1.heap.objs.size + 1 ∨ b = s1.heap.objs.size by simpa using hb) with z | z <;> rw [z]
        · exact Nat.le_add_right _ _
        · exact Nat.le_refl _
      exact I1.fpOk hle (I1.hok.fresh hle)
  · subst ex
    cases r1 with
    | cons r rr =>
      cases rr
      cases r
      obtain ⟨its, rv, p', hz⟩ := I1.tuple hq
      refine enum1_begins (begins_tuple a its.toArray) p' fun h' he hit hk => wpAny_pyIter_enum he ?_
      have I2 : Inv X pins σ H1 { s1 with heap := h' } := I1.kept (t' := s1.toks) hk
      refine ⟨s1.heap.objs.size + 1, [s1.heap.objs.size + 1, s1.heap.objs.size], _, _, H1, rfl, I2, turn_enumT (n := xs.length) a (s1.heap.objs.size + 1) s1.heap.objs.size, ⟨⟨.none, he⟩, ⟨_, hit, rfl, rfl⟩, Nat.succ_ne_self _, Nat.zero_le _⟩, fun b hb => ?_, q⟩
      have hle : s1.heap.objs.size ≤ b := by
        rcases (show b = s1.heap.objs.size + 1 ∨ b = s1.heap.objs.size by simpa using hb) with z | z <;> rw [z]
        · exact Nat.le_add_right _ _
        · exact Nat.le_refl _
      exact I1.fpOk hle (I1.hok.fresh hle)
end Vq

/-! Part 9: list(reversed(xs)), sums and extremes of tuples, repr. -/
namespace Vq
open PySem PySem.Spec PyProof.Rows L2
section
variable {prog : Program} {w : World} {A : Around} {E : Value → Shared → Prop} {s : Shared}
theorem init_rev {R : Result → Shared → Prop} {it l S : Addr} {items : Array Value} (hh : A.handled = none) (hit : s.heap.IsRevIter it l ((items.size : Int) - 1)) (hl : s.heap.IsList l items) (hne : l ≠ it) (hn : items.size ≤ sizeLine)
    (hS : s.heap.get? S = some { cls := .type "list", data := .seq #[] }) (hSi : S ≠ it) (hSl : S ≠ l)
    (hR : ∀ (h' : Heap) (tk : Nat) (acc : Array Value) (c : Nat), (∀ b o, b ≠ it → b ≠ S → s.heap.get? b = some o → h'.get? b = some o) → h'.get? S = some { cls := .type "list", dict := none, data := .seq acc c, slots := #[] } →
      ItemsOf (fun i v => items[items.size - 1 - i]? = some v) acc items.size → R (.ok (.ret .none)) { s with heap := h', toks := tk }) :
    wpAny (model prog w) A.in1 (Builtin.«list.__init__» ⟨[.ref S, .ref it], []⟩)
      (fun fin s' => match fin with | .done f => R (.ok f) s' | .again c' => c'.quiet = true ∧ codeAny (model prog w) A c' R s') (fun e s' => R (.error e) s') s := by
  have Wk := (Walks.listRev (prog := prog) (w := w) (A := A.in1) hh it l hne items).toS
  have hSf : S ∉ [it, l] := by
    simp only [List.mem_cons, List.not_mem_nil, or_false, not_or]
    exact ⟨hSi, hSl⟩
  show wpAny _ A.in1 (do let old ← Builtin.List.listItems (.ref S); Builtin.List.listUpdate (.ref S) (fun _ => #[]); letGo old.toList.reverse; Builtin.List.listExtendWith (.ref S) (.ref it) .none) _ _ s
  refine wpAny_bind ?_
  unfold Builtin.List.listItems
  refine wpAny_bind (wpAny_seqItems hS rfl (wpAny_pure ?_))
  show wpAny _ A.in1 (updateSeq S (fun _ => #[]) >>= fun _ => letGo (#[] : Array Value).toList.reverse >>= fun _ => Builtin.List.listExtendWith (.ref S) (.ref it) .none) _ _ s
  refine wpAny_bind (wpAny_updateSeq hS rfl ?_)
  have hS₂ := Heap.get?_update_self (Obj.mapSeq (fun _ => (#[] : Array Value))) hS rfl
  have oth : ∀ b o, b ≠ S → s.heap.get? b = some o → (s.heap.update S (Obj.mapSeq (fun _ => (#[] : Array Value)))).get? b = some o :=
    fun b o hb e => (Heap.get?_update_other _ _ (Ne.symm hb)).trans e
  refine wpAny_bind (wpAny_letGo ?_)
  generalize hG : s.heap.update S (Obj.mapSeq (fun _ => (#[] : Array Value))) = G at hS₂ oth ⊢
  have hit1 : G.IsRevIter it l ((items.size : Int) - 1) := hit.at fun o e => oth _ _ (Ne.symm hSi) e
  have hl1 : G.IsList l items := hl.at fun o e => oth _ _ (Ne.symm hSl) e
  have hT : ({ s with heap := G } : Shared).TypeIs (.ref it) "list_reverseiterator" := Heap.IsRevIter.typeIs (s := { s with heap := G }) hit1
  have h1 : Builtin.List.listSameRef (.ref S) (.ref it) = false := by simp [Builtin.List.listSameRef, hSi]
  unfold Builtin.List.listExtendWith
  refine wpAny_bind (wpAny_typeOf hT ?_)
  rw [if_neg (by rw [h1]; decide)]
  refine wpAny_bind (wpAny_pyIter_revIter (s := { s with heap := G }) hit1 ?_)
  refine wpAny_bind (wpAny_holding ?_)
  unfold Builtin.List.listLengthHint
  refine wpAny_bind (wpAny_specialOf hT RT.nolen_lri ?_)
  show wpAny _ A.in1 (specialOf (Value.ref it) (Str.ofString "__length_hint__") >>= _) _ _ _
  refine wpAny_bind (wpAny_specialOf hT RT.hint_lri ?_)
  generalize hid : ("list_reverseiterator.__length_hint__" : String) = id0
  wp_delta
  rw [show splitId id0 = some ("list_reverseiterator", "__length_hint__") from by subst hid; decide +kernel]
  subst hid
  refine wpAny_bind (wpAny_isInstance (b := true) hT (by rw [isSubtype_type]; kernel_rfl) ?_)
  refine wpAny_pure ?_
  rw [if_neg (by decide)]
  have e0 : ((items.size : Nat) : Int) - 1 - ((0 : Nat) : Int) = (items.size : Int) - 1 := by omega
  refine wpAny_pure ⟨plainId_quiet F.plain_extend_loop _, codeAny_extend_loopS Wk hn _ hSf _ items.size 0 _ _ _ rfl (Nat.zero_le _) ⟨Nat.zero_le _, by rw [e0]; exact hit1, hl1⟩ hS₂ (ItemsOf.nil _) fun s' acc' c' hm hS' hacc => ?_⟩
  rw [Moved.eq_with hm]
  refine hR s'.heap s'.toks acc' c' (fun b o hb hb2 e => hm.heap b o (fun hmem => ?_) (oth b o hb2 e)) hS' hacc
  rcases List.mem_cons.mp hmem with e' | hmem
  · exact hb2 e'
  · exact hb (by simpa using hmem)
theorem call_list_rev {it l : Addr} {items : Array Value} {Q : Value → Shared → Prop} (hh : A.handled = none) (hit : s.heap.IsRevIter it l ((items.size : Int) - 1)) (hl : s.heap.IsList l items) (hne : l ≠ it) (hn : items.size ≤ sizeLine)
    (hQ : ∀ (h' : Heap) (tk : Nat) (acc : Array Value) (c : Nat), (∀ b o, b ≠ it → s.heap.get? b = some o → h'.get? b = some o) → h'.get? s.heap.objs.size = some { cls := .type "list", dict := none, data := .seq acc c, slots := #[] } →
      ItemsOf (fun i v => items[items.size - 1 - i]? = some v) acc items.size → Q (.ref s.heap.objs.size) { s with heap := h', toks := tk }) :
    wpAny (model prog w) A (call (.type "list") [.ref it]) Q E s := by
  obtain ⟨oi, hoi, _⟩ := id hit
  obtain ⟨ol, hol, _⟩ := id hl
  have hSi : s.heap.objs.size ≠ it := Nat.ne_of_gt (Heap.lt_size hoi)
  have hSl : s.heap.objs.size ≠ l := Nat.ne_of_gt (Heap.lt_size hol)
  refine callType_codes (Q₁ := fun obj s₁ => obj = .ref s.heap.objs.size ∧ s₁ = { s with heap := s.heap.push { cls := .type "list", data := .seq #[] } }) F.called_list (F.typeCall_list_1 _) F.entry_list_init
    (code_list_new _ ⟨rfl, rfl⟩) fun obj s₁ h₁ => ?_
  obtain ⟨rfl, rfl⟩ := h₁
  have hS : (s.heap.push { cls := .type "list", data := .seq #[] }).get? s.heap.objs.size = some { cls := .type "list", data := .seq #[] } := Heap.get?_push_size _ rfl
  refine ⟨⟨_, hS, rfl⟩, F.args_list_init_2 _ _, init_rev (s := { s with heap := s.heap.push { cls := .type "list", data := .seq #[] } }) hh (hit.at fun o e => Heap.get?_push_of_some _ e) (hl.push _) hne hn hS hSi hSl fun h' tk acc c k e i => ?_⟩
  exact ⟨rfl, hQ h' tk acc c (fun b o hb q => k b o hb (fun z => by
    rw [z] at q
    exact absurd (Heap.lt_size q) (Nat.lt_irrefl _)) (Heap.get?_push_of_some _ q)) e i⟩
end

theorem vals_reverse : ∀ {xs : List V} {us : List Value}, Vals xs us → Vals xs.reverse us.reverse
  | _, _, .nil => .nil
  | _, _, .cons h t => by
    simp only [List.reverse_cons]
    exact (vals_reverse t).append (.cons h .nil)
section
variable {X : Cx} {e : Expr} {ta : TA} {p p2 pos pos2 : Pos}
/-- list(reversed(e)) -/
def tLRev (K : PySem.W.Frag) (ta : TA) : TE := fun σ H Q => ta σ H fun vs H1 => ∃ a xs, vs = [.ref a] ∧ SqL K H1 a xs ∧ ∀ q, H1 q = none → Q (.ref q) (upd H1 q (.lst xs.reverse))
theorem pe_listRev (hc : X.calm = true) (ha : PA X [e] ta) (hg : Gl X "list") (hm : X.mg "list" = none) (hg2 : Gl X "reversed") (hm2 : X.mg "reversed" = none)
    (hs1 : starEach [Expr.Call (.Name "reversed" p2) [e] [] pos2] X.env = [(false, eval (Expr.Call (.Name "reversed" p2) [e] [] pos2) X.env)] := by rfl)
    (hs : starEach [e] X.env = [(false, eval e X.env)] := by rfl) :
    PE X (.Call (.Name "list" p) [.Call (.Name "reversed" p2) [e] [] pos2] [] pos) (tLRev X.K ta) := by
  refine ⟨fun pins s σ H Q I h => ?_⟩
  refine Call_ (ld_blt I hg hm (u := .type "list") (by decide +kernel) (PyProof.Rows.callWith_type1 ?_ hs1 rfl))
  rw [hs1]
  refine Calls.spliced_cons (Call_ (ld_blt I hg2 hm2 (u := .type "reversed") (by decide +kernel) (PyProof.Rows.callWith_type1 (thn (ha.run pos2 pins s σ H _ I h) fun us s1 ⟨vs, H1, I1, r1, q1⟩ => ?_) hs rfl)))
  obtain ⟨a, xs, ex, hq, q⟩ := q1
  subst ex
  cases r1 with
  | cons r rr =>
    cases rr
    cases r
    obtain ⟨its, rv, p', hz⟩ := I1.list hq
    have hl := rv.length
    refine call_reversed_list p'.isList (Calls.spliced_nil ?_)
    have kp : ∀ b u, s1.heap.get? b = some u → (s1.heap.push (revObj a ((its.toArray.size : Int) - 1))).get? b = some u := fun b u z => Heap.get?_push_of_some _ z
    have I2 : Inv X pins σ H1 { s1 with heap := s1.heap.push (revObj a ((its.toArray.size : Int) - 1)) } := I1.kept (t' := s1.toks) kp
    have ne : a ≠ s1.heap.objs.size := by
      obtain ⟨o, z, _⟩ := p'.isList
      exact Nat.ne_of_lt (Heap.lt_size z)
    have F : FpOk X pins H1 s1.heap.objs.size := I1.fpOk (Nat.le_refl _) (I1.hok.fresh (Nat.le_refl _))
    refine call_list_rev (s := { s1 with heap := s1.heap.push (revObj a ((its.toArray.size : Int) - 1)) }) (it := s1.heap.objs.size) (l := a) (items := its.toArray) (I1.ok.hd hc) ⟨_, Heap.get?_push_size _ rfl, rfl, rfl⟩ (p'.isList.push _) ne (by simp; omega)
      fun h' tk acc c k en ie => ?_
    have eacc : acc.toList = its.reverse := by
      apply List.ext_getElem?
      intro j
      by_cases hj : j < its.length
      · have hj' : j < acc.size := by
          have := ie.1
          simp at this
          omega
        have z := ie.2 j acc[j] (by simp [hj'])
        rw [Array.getElem?_toList, Array.getElem?_eq_getElem hj', List.getElem?_reverse hj]
        rw [← z]
        simp
      · rw [List.getElem?_eq_none (by have := ie.1; simp at this; simp; omega), List.getElem?_eq_none (by simp; omega)]
    have hfresh : H1 (s1.heap.push (revObj a ((its.toArray.size : Int) - 1))).objs.size = none := I2.hok.fresh (Nat.le_refl _)
    refine ⟨.ref (s1.heap.push (revObj a ((its.toArray.size : Int) - 1))).objs.size, upd H1 (s1.heap.push (revObj a ((its.toArray.size : Int) - 1))).objs.size (.lst xs.reverse), I2.turnedNew (h' := h') (t' := tk) (ch := [s1.heap.objs.size]) (fun b o hb z => k b o (by simpa using hb) z) (fun b hb => ?_) (Nat.le_refl _) ?_, rfl, q _ hfresh⟩
    · rw [show b = s1.heap.objs.size by simpa using hb]
      exact F
    · refine ⟨by rw [List.length_reverse]; exact hz, its.reverse, c, ?_, ?_⟩
      · exact vals_reverse rv
      · rw [← eacc]
        simpa using en
end

/-! ### sums and extremes of tuples -/
section
variable {prog : Program} {w : World} {A : Around} {E : Value → Shared → Prop} {s : Shared}
theorem ext_old {o : Obj} {h' : Heap} (hk : ∀ b u, b ∉ [s.heap.objs.size] → (s.heap.push o).get? b = some u → h'.get? b = some u) : ∀ b u, s.heap.get? b = some u → h'.get? b = some u := fun b u e =>
  hk b u (fun z => by
    have z' : b = s.heap.objs.size := by simpa using z
    rw [z'] at e
    exact Nat.lt_irrefl _ (Heap.lt_size e)) (Heap.get?_push_of_some _ e)
theorem ints_pack {us : List Value} {ns : List Int} (hi : IntsAre us ns) : ∃ xs : Array (Int × Tok), us.toArray = intItems xs ∧ xs.toList.map (·.1) = ns := by
  induction hi with
  | nil => exact ⟨#[], by simp [intItems], rfl⟩
  | cons n t r ih =>
    obtain ⟨xs, e1, e2⟩ := ih
    refine ⟨#[(n, t)] ++ xs, ?_, by simp [e2]⟩
    apply Array.toList_inj.mp
    have e3 := congrArg Array.toList e1
    simp [intItems] at e3 ⊢
    exact e3
theorem ext_tuple {id : String} {l : Addr} {us : List Value} {ns : List Int} {Q : Value → Shared → Prop} (hh : A.handled = none) (hl : s.heap.IsTuple l us.toArray) (hi : IntsAre us ns) (hne : ns ≠ [])
    (hid : id = "max" ∧ (∀ M h' tk t', M ∈ ns → (∀ a, a ∈ ns → a ≤ M) → (∀ b o, s.heap.get? b = some o → h'.get? b = some o) → Q (.int M t') { s with heap := h', toks := tk }) ∨
      id = "min" ∧ (∀ M h' tk t', M ∈ ns → (∀ a, a ∈ ns → M ≤ a) → (∀ b o, s.heap.get? b = some o → h'.get? b = some o) → Q (.int M t') { s with heap := h', toks := tk })) :
    wpAny (model prog w) A (call (.builtin id) [.ref l]) Q E s := by
  obtain ⟨xs, e1, e2⟩ := ints_pack hi
  rw [e1] at hl
  have hsz : 0 < xs.size := by
    have : ns.length = xs.size := by rw [← e2]; simp
    have : ns.length ≠ 0 := by simpa using hne
    omega
  have hlt : l < s.heap.objs.size := by
    obtain ⟨_, z, _⟩ := hl
    exact Heap.lt_size z
  have low : ∀ b ∈ [s.heap.objs.size, l], b < (s.heap.push { cls := .type "tuple_iterator", data := .fields #[.ref l, .int 0 0] }).objs.size := fun b hb => by
    rw [Heap.size_push]
    rcases (show b = s.heap.objs.size ∨ b = l by simpa using hb) with z | z <;> rw [z]
    · exact Nat.lt_succ_self _
    · exact Nat.lt_succ_of_lt hlt
  have hit : (s.heap.push { cls := .type "tuple_iterator", data := .fields #[.ref l, .int 0 0] }).IsTupleIter s.heap.objs.size l 0 := ⟨_, Heap.get?_push_size _ rfl, rfl, rfl⟩
  rcases hid with ⟨rfl, h⟩ | ⟨rfl, h⟩
  · refine call_max_walk (wpAny_pyIter_tuple hl ?_)
    refine ⟨_, _, _, _, _, _, _, rfl, Walks.tuple (A := A.in1) hh _ l (Nat.ne_of_lt hlt) (intItems xs), ⟨hit, hl.push _⟩, low, by simpa [intItems] using hsz, CmpOf.ints_gt (numAt xs) (fun _ _ => intItems_at), fun v h' tk hP hk => ?_⟩
    obtain ⟨t, rfl⟩ := intItems_at hP
    obtain ⟨g1, g2⟩ := argBest_gt (numAt xs) (xs.size - 1)
    have sz : (intItems xs).size = xs.size := by simp [intItems]
    rw [sz]
    refine h _ h' tk t ?_ (fun a ha => ?_) (ext_old hk)
    · rw [← e2, numAt_eq]
      exact PySem.getD_mem (by rw [List.length_map, Array.length_toList]; omega)
    · rw [← e2] at ha
      obtain ⟨j, hj, rfl⟩ := mem_getD ha
      rw [List.length_map, Array.length_toList] at hj
      rw [← numAt_eq]
      exact g2 j (by omega)
  · refine call_min_walk (wpAny_pyIter_tuple hl ?_)
    refine ⟨_, _, _, _, _, _, _, rfl, Walks.tuple (A := A.in1) hh _ l (Nat.ne_of_lt hlt) (intItems xs), ⟨hit, hl.push _⟩, low, by simpa [intItems] using hsz, CmpOf.ints_lt (numAt xs) (fun _ _ => intItems_at), fun v h' tk hP hk => ?_⟩
    obtain ⟨t, rfl⟩ := intItems_at hP
    obtain ⟨g1, g2⟩ := argBest_lt (numAt xs) (xs.size - 1)
    have sz : (intItems xs).size = xs.size := by simp [intItems]
    rw [sz]
    refine h _ h' tk t ?_ (fun a ha => ?_) (ext_old hk)
    · rw [← e2, numAt_eq]
      exact PySem.getD_mem (by rw [List.length_map, Array.length_toList]; omega)
    · rw [← e2] at ha
      obtain ⟨j, hj, rfl⟩ := mem_getD ha
      rw [List.length_map, Array.length_toList] at hj
      rw [← numAt_eq]
      exact g2 j (by omega)
theorem preSum_getD (ns : List Int) : ∀ j, preSum (fun i => ns.getD i 0) j = (ns.take j).sum
  | 0 => rfl
  | j + 1 => by
    rw [preSum, preSum_getD ns j]
    by_cases h : j < ns.length
    · rw [List.take_succ, List.sum_append]
      simp [h]
    · rw [List.take_of_length_le (by omega), List.take_of_length_le (by omega)]
      simp [List.getD, List.getElem?_eq_none (show ns.length ≤ j by omega)]
theorem sum_tuple {l : Addr} {us : List Value} {ns : List Int} {Q : Value → Shared → Prop} (hh : A.handled = none) (hl : s.heap.IsTuple l us.toArray) (hi : IntsAre us ns)
    (h : ∀ h' tk t, (∀ b o, s.heap.get? b = some o → h'.get? b = some o) → Q (.int ns.sum t) { s with heap := h', toks := tk }) :
    wpAny (model prog w) A (call (.builtin "sum") [.ref l]) Q E s := by
  refine call_sum_walkAnyS (PySem.W.iter_tupleW (A := A.in1) hh hl fun s₂ e W st hfp hw hk => ?_)
  refine ⟨_, _, _, _, _, _, _, fun i => ns.getD i 0, rfl, W, st, hfp, fun i v q => ?_, fun s' t' m => ?_⟩
  · have q' : us[i]? = some v := by simpa using q
    clear q W hl h st
    induction hi generalizing i with
    | nil => simp at q'
    | cons n t r ih =>
      cases i with
      | zero =>
        simp at q'
        subst q'
        exact ⟨t, rfl⟩
      | succ i =>
        simp at q'
        simpa using ih i q'
  · obtain ⟨h', tk, rfl, hk'⟩ := PySem.W.moved_old e rfl m
    have e2 : preSum (fun i => ns.getD i 0) us.toArray.size = ns.sum := by
      rw [preSum_getD]
      have := hi.length
      rw [List.take_of_length_le (by simp; omega)]
    rw [e2]
    exact h h' tk t' hk'
end
end Vq

/-! Part 10: iterables; built-ins, methods, stores and slices by values. -/
namespace Vq
open PySem PySem.Spec PyProof.Rows L2

/-! ### what arguments are -/
def intD : D → Option Int
  | .int i => some i
  | _ => none
def one : List D → Option D
  | [d] => some d
  | _ => none
def two : List D → Option (D × D)
  | [d, e] => some (d, e)
  | _ => none
def int1 (l : List D) : Option Int := (one l).bind intD
def int2 (l : List D) : Option (Int × Int) := (two l).bind fun p => (intD p.1).bind fun i => (intD p.2).map fun j => (i, j)
def int3 : List D → Option (Int × Int × Int)
  | [.int i, .int j, .int k] => some (i, j, k)
  | _ => none
section
variable {K : PySem.W.Frag} {w : Wd}
theorem intD_rp {d : D} {v : V} {i : Int} (r : Rp K w d v) (e : intD d = some i) : d = .int i ∧ v = .int i := by
  cases r with
  | int j => cases e; exact ⟨rfl, rfl⟩
  | _ => cases e
theorem one_rps {ds : List D} {vs : List V} {d : D} (r : Rps K w ds vs) (e : one ds = some d) : ∃ v, ds = [d] ∧ vs = [v] ∧ Rp K w d v := by
  cases r with
  | nil => cases e
  | cons r rr =>
    cases rr with
    | nil => cases e; exact ⟨_, rfl, rfl, r⟩
    | cons _ _ => cases e
theorem two_rps {ds : List D} {vs : List V} {p : D × D} (r : Rps K w ds vs) (e : two ds = some p) : ∃ v u, ds = [p.1, p.2] ∧ vs = [v, u] ∧ Rp K w p.1 v ∧ Rp K w p.2 u := by
  cases r with
  | nil => cases e
  | cons r rr =>
    cases rr with
    | nil => cases e
    | cons r2 rr =>
      cases rr with
      | nil => cases e; exact ⟨_, _, rfl, rfl, r, r2⟩
      | cons _ _ => cases e
theorem int1_rps {ds : List D} {vs : List V} {i : Int} (r : Rps K w ds vs) (e : int1 ds = some i) : vs = [.int i] := by
  obtain ⟨d, e1, e2⟩ := Option.bind_eq_some_iff.mp e
  obtain ⟨v, _, rfl, r'⟩ := one_rps r e1
  rw [(intD_rp r' e2).2]
theorem int2_rps {ds : List D} {vs : List V} {p : Int × Int} (r : Rps K w ds vs) (e : int2 ds = some p) : vs = [.int p.1, .int p.2] := by
  obtain ⟨d, e1, e2⟩ := Option.bind_eq_some_iff.mp e
  obtain ⟨i, e3, e4⟩ := Option.bind_eq_some_iff.mp e2
  obtain ⟨j, e5, rfl⟩ := Option.map_eq_some_iff.mp e4
  obtain ⟨v, u, _, rfl, r1, r2⟩ := two_rps r e1
  rw [(intD_rp r1 e3).2, (intD_rp r2 e5).2]
theorem int3_rps {ds : List D} {vs : List V} {p : Int × Int × Int} (r : Rps K w ds vs) (e : int3 ds = some p) : vs = [.int p.1, .int p.2.1, .int p.2.2] := by
  unfold int3 at e
  split at e
  · cases e
    cases r with
    | cons a r =>
      cases r with
      | cons b r =>
        cases r with
        | cons c r =>
          cases r
          cases a
          cases b
          cases c
          rfl
  · cases e
end

/-! ### iterables -/
section
variable {X : Cx} {W : WX}
def srcOf (d : D) : Option (VH → Option (List D)) := match d with
  | .tup l => some fun _ => some l
  | .ref n => some fun h => lk h n
  | _ => none
def vIt (f : VE) : VI := fun s h => (f s h).bind fun p => match srcOf p.1 with
  | some src => .ok (src, p.2)
  | none => .bad
theorem PI_or {tg e : Expr} {a b : TI} (h : PI X tg e a) (h' : PI X tg e b) : PI X tg e (fun σ H R => a σ H R ∨ b σ H R) := ⟨fun pins s σ H R I q => q.elim (h.run pins s σ H R I) (h'.run pins s σ H R I)⟩
theorem walks_lst {K : PySem.W.Frag} {w : Wd} {n : Nat} (hn : n < w.h.length) : Walks K w (Itl K (w.ι n)) (fun h => lk h n) := fun w' i ys x ok e => by
  obtain ⟨vs, h1, h2⟩ := lk_sq ok e
  rw [x.ι n hn] at h1
  refine ⟨fun q => ⟨vs, h1, by rw [← RepL.length h2]; exact List.getElem?_eq_none_iff.mp q⟩, fun d ed => ?_⟩
  obtain ⟨v, ev, rv⟩ := RepL.get h2 ed
  refine ⟨⟨vs, v, h1, ev⟩, fun x' H' ⟨eH, ex⟩ => ⟨w', eH.symm, rfl, ok, .refl w', ?_⟩⟩
  have z := ex vs h1
  rw [ev] at z
  cases z
  exact rv
/-- for x in e: a list or a tuple -/
theorem qIt {tg e : Expr} {f : VE} (he : PE X e (gE X W f)) : PI X tg e (gI X W (vIt f)) :=
  PIw (PI_or (pi_list he) (pi_tup he)) fun σ H R ⟨w, s, hH, ok, sl, hp⟩ => by
    subst hH
    unfold vIt at hp
    cases e1 : f s w.h with
    | bad => rw [e1] at hp; exact hp.elim
    | ex x s' h' => rw [e1] at hp; exact .inl ⟨w, s, rfl, ok, sl, by rw [e1]; exact hp⟩
    | ok p =>
      obtain ⟨d, h1⟩ := p
      rw [e1] at hp
      simp only [Res.ok_bind] at hp
      cases d with
      | tup ds =>
        refine .inr ⟨w, s, rfl, ok, sl, ?_⟩
        rw [e1]
        intro w1 v ok1 eh x1 r1
        have r1' : RepV X.K w1.ι w1.h.length w1.H (.tup ds) v := r1
        cases r1' with
        | @tup a vs _ hq rr =>
          refine ⟨a, rfl, ⟨vs, hq⟩, hp w1 _ ok1 eh x1 fun w' i ys x' ok' e' => ?_⟩
          cases e'
          have h' := x'.tup _ _ hq
          refine ⟨fun n => ⟨vs, h', by rw [← RepL.length rr]; exact List.getElem?_eq_none_iff.mp n⟩, fun d ed => ?_⟩
          obtain ⟨v, ev, rv⟩ := (x'.rps rr).get ed
          refine ⟨⟨vs, v, h', ev⟩, fun x2 H' ⟨eH, ex⟩ => ⟨w', eH.symm, rfl, ok', .refl w', ?_⟩⟩
          have z := ex vs h'
          rw [ev] at z
          cases z
          exact rv
      | ref n =>
        refine .inl ⟨w, s, rfl, ok, sl, ?_⟩
        rw [e1]
        intro w1 v ok1 eh x1 r1
        have r1' : RepV X.K w1.ι w1.h.length w1.H (.ref n) v := r1
        cases r1' with
        | ref hn =>
          have : ∃ ds, lk w1.h n = some ds := by
            unfold lk
            rw [List.getElem?_eq_getElem hn]
            cases w1.h[n] <;> exact ⟨_, rfl⟩
          obtain ⟨ds, eds⟩ := this
          obtain ⟨vs, h1, h2⟩ := lk_sq ok1 eds
          exact ⟨_, rfl, ⟨vs, h1⟩, hp w1 _ ok1 eh x1 (walks_lst hn)⟩
      | _ => exact hp.elim

def rangeD (lo c : Int) (n : Nat) : List D := (List.range n).map fun (k : Nat) => D.int (lo + (k : Int) * c)
theorem rangeD_length (lo c : Int) (n : Nat) : (rangeD lo c n).length = n := by simp [rangeD]
theorem rangeD_get (lo c : Int) (n i : Nat) : (rangeD lo c n)[i]? = if i < n then some (.int (lo + (i : Int) * c)) else none := by
  unfold rangeD
  rw [List.getElem?_map]
  by_cases h : i < n
  · rw [if_pos h, List.getElem?_range h]; rfl
  · rw [if_neg h, List.getElem?_eq_none (by simpa using Nat.le_of_not_lt h)]; rfl
theorem walks_rng {K : PySem.W.Frag} {w : Wd} (lo : Int) (n : Nat) : Walks K w (Itr lo n) (fun _ => some (rangeD lo 1 n)) := fun w' i ys x ok e => by
  cases e
  refine ⟨fun q => by have z := List.getElem?_eq_none_iff.mp q; rw [rangeD_length] at z; exact z, fun d ed => ?_⟩
  rw [rangeD_get] at ed
  by_cases h : i < n
  · rw [if_pos h] at ed
    cases ed
    refine ⟨h, fun x' H' ⟨eH, ex⟩ => ⟨w', eH.symm, rfl, ok, .refl w', ?_⟩⟩
    rw [ex, Int.mul_one]
    exact .int _
  · rw [if_neg h] at ed
    cases ed
theorem walks_rngc {K : PySem.W.Frag} {w : Wd} (lo c : Int) (n : Nat) : Walks K w (Itc lo c n) (fun _ => some (rangeD lo c n)) := fun w' i ys x ok e => by
  cases e
  refine ⟨fun q => by have z := List.getElem?_eq_none_iff.mp q; rw [rangeD_length] at z; exact z, fun d ed => ?_⟩
  rw [rangeD_get] at ed
  by_cases h : i < n
  · rw [if_pos h] at ed
    cases ed
    refine ⟨h, fun x' H' ⟨eH, ex⟩ => ⟨w', eH.symm, rfl, ok, .refl w', ?_⟩⟩
    rw [ex]
    exact .int _
  · rw [if_neg h] at ed
    cases ed
def inRng (i : Int) : Bool := decide (-(2 ^ 62) ≤ i ∧ i < 2 ^ 62)
def vRng1 (a : VA) : VI := fun s h => (a s h).bind fun p => match int1 p.1 with
  | some j => if inRng j = true then .ok (fun _ => some (rangeD 0 1 j.toNat), p.2) else .bad
  | none => .bad
def vRng2 (a : VA) : VI := fun s h => (a s h).bind fun p => match int2 p.1 with
  | some (i, j) => if (inRng i && inRng j) = true then .ok (fun _ => some (rangeD i 1 (j - i).toNat), p.2) else .bad
  | none => .bad
def rgcB (i j c : Int) : Bool := c != 0 && decide (c.natAbs < 1073741824) && Builtin.Range.small i j c && decide (0 ≤ Builtin.Range.rangeSize i j c)
def vRng3 (a : VA) : VI := fun s h => (a s h).bind fun p => match int3 p.1 with
  | some (i, j, c) => if rgcB i j c = true then .ok (fun _ => some (rangeD i c (Builtin.Range.rangeSize i j c).toNat), p.2) else .bad
  | none => .bad
theorem qRng1 {tg a : Expr} {p pos : Pos} {g : VA} (hm : X.mg "range" = none) (ha : PA X [a] (gA X W g)) (hg : Gl X "range" := by rfl) (hs : starEach [a] X.env = [(false, eval a X.env)] := by rfl) : PI X tg (.Call (.Name "range" p) [a] [] pos) (gI X W (vRng1 g)) :=
  PIw (pi_range1 hg hm ha hs) fun σ H R ⟨w, s, hH, ok, sl, hp⟩ => by
    subst hH
    refine gA.seq ok sl (wI w R) hp fun ds w1 vs ok1 x1 sl1 r1 hp1 => ?_
    simp only at hp1
    cases e : int1 ds with
    | none => rw [e] at hp1; exact hp1.elim
    | some j =>
      rw [e] at hp1
      simp only at hp1
      by_cases h : inRng j = true
      · rw [if_pos h] at hp1
        have h' : -(2 ^ 62) ≤ j ∧ j < 2 ^ 62 := by simpa [inRng] using h
        exact ⟨j, int1_rps r1 e, h'.1, h'.2, hp1 w1 _ ok1 rfl x1 (walks_rng 0 j.toNat)⟩
      · rw [if_neg h] at hp1
        exact hp1.elim
theorem qRng2 {tg a b : Expr} {p pos : Pos} {g : VA} (hm : X.mg "range" = none) (ha : PA X [a, b] (gA X W g)) (hg : Gl X "range" := by rfl) (hs : starEach [a, b] X.env = [(false, eval a X.env), (false, eval b X.env)] := by rfl) (hs2 : starEach [b] X.env = [(false, eval b X.env)] := by rfl) :
    PI X tg (.Call (.Name "range" p) [a, b] [] pos) (gI X W (vRng2 g)) :=
  PIw (pi_range2 hg hm ha hs hs2) fun σ H R ⟨w, s, hH, ok, sl, hp⟩ => by
    subst hH
    refine gA.seq ok sl (wI w R) hp fun ds w1 vs ok1 x1 sl1 r1 hp1 => ?_
    simp only at hp1
    cases e : int2 ds with
    | none => rw [e] at hp1; exact hp1.elim
    | some q =>
      obtain ⟨i, j⟩ := q
      rw [e] at hp1
      simp only at hp1
      by_cases h : (inRng i && inRng j) = true
      · rw [if_pos h] at hp1
        have h' : (-(2 ^ 62) ≤ i ∧ i < 2 ^ 62) ∧ -(2 ^ 62) ≤ j ∧ j < 2 ^ 62 := by simpa [inRng] using h
        exact ⟨i, j, int2_rps r1 e, ⟨h'.1.1, h'.1.2, h'.2.1, h'.2.2⟩, hp1 w1 _ ok1 rfl x1 (walks_rng i _)⟩
      · rw [if_neg h] at hp1
        exact hp1.elim
theorem qRng3 {tg a b c : Expr} {p pos : Pos} {g : VA} (hm : X.mg "range" = none) (ha : PA X [a, b, c] (gA X W g)) (h : ∀ t, PA X [a, b, c] t → PI X tg (.Call (.Name "range" p) [a, b, c] [] pos) (iRng3 t)) :
    PI X tg (.Call (.Name "range" p) [a, b, c] [] pos) (gI X W (vRng3 g)) :=
  PIw (h _ ha) fun σ H R ⟨w, s, hH, ok, sl, hp⟩ => by
    subst hH
    refine gA.seq ok sl (wI w R) hp fun ds w1 vs ok1 x1 sl1 r1 hp1 => ?_
    simp only at hp1
    cases e : int3 ds with
    | none => rw [e] at hp1; exact hp1.elim
    | some q =>
      obtain ⟨i, j, c⟩ := q
      rw [e] at hp1
      simp only at hp1
      by_cases h : rgcB i j c = true
      · rw [if_pos h] at hp1
        simp only [rgcB, Bool.and_eq_true, bne_iff_ne, decide_eq_true_eq] at h
        exact ⟨i, j, c, _, int3_rps r1 e, ⟨h.1.1.1, h.1.1.2, h.1.2, (Int.toNat_of_nonneg h.2).symm⟩, hp1 w1 _ ok1 rfl x1 (walks_rngc i c _)⟩
      · rw [if_neg h] at hp1
        exact hp1.elim

/-- numbered items -/
def enumD (l : List D) : List D := l.zipIdx.map fun p => .tup [.int (p.2 : Int), p.1]
theorem enumD_get (l : List D) (i : Nat) : (enumD l)[i]? = (l[i]?).map fun d => D.tup [.int (i : Int), d] := by
  unfold enumD
  rw [List.getElem?_map, List.getElem?_zipIdx]
  cases l[i]? <;> simp
theorem yields_pair {K : PySem.W.Frag} {w : Wd} (ok : w.Ok K) {T : Addr} {a b : D} {va vb : V} (hT : w.H T = none) (ra : Rp K w a va) (rb : Rp K w b vb) :
    ∃ w', w'.H = upd w.H T (.tup [va, vb]) ∧ w'.h = w.h ∧ w'.Ok K ∧ Wd.Ext K w w' ∧ Rp K w' (.tup [a, b]) (.ref T) :=
  ⟨w.tupAt T (.tup [va, vb]), rfl, rfl, ok.tupAt hT, Wd.ext_tupAt hT, .tup (SqT.of upd_same) (.cons ((Wd.ext_tupAt hT).rp ra) (.cons ((Wd.ext_tupAt hT).rp rb) .nil))⟩
def vEnum (a : VA) : VI := fun s h => (a s h).bind fun p => match (one p.1).bind srcOf with
  | some src => .ok (fun h => (src h).map enumD, p.2)
  | none => .bad
theorem qEnum {elts : List Expr} {e : Expr} {kk : Nat} {p pos tpos : Pos} {g : VA} (hm : X.mg "enumerate" = none) (ha : PA X [e] (gA X W g)) (hg : Gl X "enumerate" := by rfl) (hs : starEach [e] X.env = [(false, eval e X.env)] := by rfl) :
    PI X (.Tuple elts kk tpos) (.Call (.Name "enumerate" p) [e] [] pos) (gI X W (vEnum g)) :=
  PIw (pi_enumA hg hm ha hs) fun σ H R ⟨w, s, hH, ok, sl, hp⟩ => by
    subst hH
    refine gA.seq ok sl (wI w R) hp fun ds w1 vs ok1 x1 sl1 r1 hp1 => ?_
    simp only at hp1
    cases e : one ds with
    | none => rw [e] at hp1; exact hp1.elim
    | some d =>
      obtain ⟨v, _, rfl, rd⟩ := one_rps r1 e
      rw [e] at hp1
      simp only [Option.bind_some] at hp1
      cases rd with
      | @tup a vs xs hq rr =>
        refine .inr ⟨a, vs, rfl, hq, hp1 w1 _ ok1 rfl x1 fun w' i ys x ok' e' => ?_⟩
        cases e'
        have h' := x.tup _ _ hq
        rw [enumD_get]
        refine ⟨fun q => ⟨vs, h', rfl, ?_⟩, fun d ed => ?_⟩
        · rw [← RepL.length rr]
          cases z : xs[i]? with
          | none => exact List.getElem?_eq_none_iff.mp z
          | some _ => rw [z] at q; cases q
        · obtain ⟨d0, z, rfl⟩ := Option.map_eq_some_iff.mp ed
          obtain ⟨v, ev, rv⟩ := (x.rps rr).get z
          refine ⟨⟨vs, v, h', rfl, ev⟩, fun x2 H' ⟨T, y, eT, hT, eH, ey⟩ => ?_⟩
          have z2 := ey vs h'
          rw [ev] at z2
          cases z2
          subst eH eT
          exact yields_pair ok' hT (.int _) rv
      | @ref n hn =>
        have : ∃ ds, lk w1.h n = some ds := by
          unfold lk
          rw [List.getElem?_eq_getElem hn]
          cases w1.h[n] <;> exact ⟨_, rfl⟩
        obtain ⟨xs, exs⟩ := this
        obtain ⟨vs, h1, h2⟩ := lk_sq ok1 exs
        refine .inl ⟨_, vs, rfl, h1, hp1 w1 _ ok1 rfl x1 fun w' i ys x ok' e' => ?_⟩
        obtain ⟨zs, ez, rfl⟩ := Option.map_eq_some_iff.mp e'
        obtain ⟨us, g1, g2⟩ := lk_sq ok' ez
        rw [x.ι n hn] at g1
        rw [enumD_get]
        refine ⟨fun q => ⟨us, g1, ?_⟩, fun d ed => ?_⟩
        · rw [← RepL.length g2]
          cases z : zs[i]? with
          | none => exact List.getElem?_eq_none_iff.mp z
          | some _ => rw [z] at q; cases q
        · obtain ⟨d0, z, rfl⟩ := Option.map_eq_some_iff.mp ed
          obtain ⟨v, ev, rv⟩ := RepL.get g2 z
          refine ⟨⟨us, v, g1, ev⟩, fun x2 H' ⟨T, y, eT, hT, eH, ey⟩ => ?_⟩
          have z2 := ey us g1
          rw [ev] at z2
          cases z2
          subst eH eT
          exact yields_pair ok' hT (.int _) rv
      | _ => exact hp1.elim

/-- two sequences side by side -/
def zipD (l m : List D) : List D := (l.zip m).map fun p => .tup [p.1, p.2]
theorem zipD_get (l m : List D) (i : Nat) : (zipD l m)[i]? = (l[i]?).bind fun a => (m[i]?).map fun b => D.tup [a, b] := by
  unfold zipD
  rw [List.getElem?_map, List.zip_eq_zipWith, List.getElem?_zipWith]
  cases l[i]? <;> cases m[i]? <;> rfl
def zipSrc (p : D × D) : Option (VH → Option (List D)) := match p.1, p.2 with
  | .tup l, .tup m => some fun _ => some (zipD l m)
  | .ref i, .ref j => some fun h => (lk h i).bind fun l => (lk h j).map fun m => zipD l m
  | _, _ => none
def vZip (a : VA) : VI := fun s h => (a s h).bind fun p => match (two p.1).bind zipSrc with
  | some src => .ok (src, p.2)
  | none => .bad
theorem qZip {elts : List Expr} {e e2 : Expr} {kk : Nat} {p pos tpos : Pos} {g : VA} (hm : X.mg "zip" = none) (ha : PA X [e, e2] (gA X W g)) (hg : Gl X "zip" := by rfl)
    (hs : starEach [e, e2] X.env = (false, eval e X.env) :: starEach [e2] X.env := by rfl) (hpl : (backTo pos (starEach [e2] X.env)).any (·.1) = false := by rfl) :
    PI X (.Tuple elts kk tpos) (.Call (.Name "zip" p) [e, e2] [] pos) (gI X W (vZip g)) :=
  PIw (RZ.pi_zipA hg hm ha hs hpl) fun σ H R ⟨w, s, hH, ok, sl, hp⟩ => by
    subst hH
    refine gA.seq ok sl (wI w R) hp fun ds w1 vs ok1 x1 sl1 r1 hp1 => ?_
    simp only at hp1
    cases e : two ds with
    | none => rw [e] at hp1; exact hp1.elim
    | some d =>
      obtain ⟨v, u, _, rfl, rd, re⟩ := two_rps r1 e
      obtain ⟨d1, d2⟩ := d
      rw [e] at hp1
      simp only [Option.bind_some] at hp1
      simp only at rd re
      cases rd with
      | @tup a vs xs hq rr =>
        cases re with
        | @tup b us ys hq2 rr2 =>
          refine ⟨a, b, vs, us, rfl, .inr ⟨hq, hq2, hp1 w1 _ ok1 rfl x1 fun w' i zs x ok' e' => ?_⟩⟩
          cases e'
          have h' := x.tup _ _ hq
          have h2 := x.tup _ _ hq2
          rw [zipD_get]
          refine ⟨fun q => ⟨vs, us, h', h2, ?_⟩, fun d ed => ?_⟩
          · rw [← RepL.length rr, ← RepL.length rr2]
            cases z : xs[i]? with
            | none => exact .inl (List.getElem?_eq_none_iff.mp z)
            | some _ =>
              cases z2 : ys[i]? with
              | none => exact .inr (List.getElem?_eq_none_iff.mp z2)
              | some _ => rw [z, z2] at q; cases q
          · obtain ⟨d0, z, ed⟩ := Option.bind_eq_some_iff.mp ed
            obtain ⟨d3, z3, rfl⟩ := Option.map_eq_some_iff.mp ed
            obtain ⟨v, ev, rv⟩ := (x.rps rr).get z
            obtain ⟨u, eu, ru⟩ := (x.rps rr2).get z3
            refine ⟨⟨vs, us, v, u, h', h2, ev, eu⟩, fun x2 H' ⟨T, y, y2, eT, hT, eH, ey, ey2⟩ => ?_⟩
            have q1 := ey vs h'
            rw [ev] at q1
            cases q1
            have q2 := ey2 us h2
            rw [eu] at q2
            cases q2
            subst eH eT
            exact yields_pair ok' hT rv ru
        | _ => exact hp1.elim
      | @ref n hn =>
        cases re with
        | @ref m hm' =>
          have ex : ∀ n, n < w1.h.length → ∃ ds, lk w1.h n = some ds := fun n hn => by
            unfold lk
            rw [List.getElem?_eq_getElem hn]
            cases w1.h[n] <;> exact ⟨_, rfl⟩
          obtain ⟨xs, exs⟩ := ex n hn
          obtain ⟨ys, eys⟩ := ex m hm'
          obtain ⟨vs, h1, h2⟩ := lk_sq ok1 exs
          obtain ⟨us, h3, h4⟩ := lk_sq ok1 eys
          refine ⟨_, _, vs, us, rfl, .inl ⟨h1, h3, hp1 w1 _ ok1 rfl x1 fun w' i zs x ok' e' => ?_⟩⟩
          obtain ⟨ls, el, e'⟩ := Option.bind_eq_some_iff.mp e'
          obtain ⟨ms, em, rfl⟩ := Option.map_eq_some_iff.mp e'
          obtain ⟨l1, g1, g2⟩ := lk_sq ok' el
          obtain ⟨m1, g3, g4⟩ := lk_sq ok' em
          rw [x.ι n hn] at g1
          rw [x.ι m hm'] at g3
          rw [zipD_get]
          refine ⟨fun q => ⟨l1, m1, g1, g3, ?_⟩, fun d ed => ?_⟩
          · rw [← RepL.length g2, ← RepL.length g4]
            cases z : ls[i]? with
            | none => exact .inl (List.getElem?_eq_none_iff.mp z)
            | some _ =>
              cases z2 : ms[i]? with
              | none => exact .inr (List.getElem?_eq_none_iff.mp z2)
              | some _ => rw [z, z2] at q; cases q
          · obtain ⟨d0, z, ed⟩ := Option.bind_eq_some_iff.mp ed
            obtain ⟨d3, z3, rfl⟩ := Option.map_eq_some_iff.mp ed
            obtain ⟨v, ev, rv⟩ := RepL.get g2 z
            obtain ⟨u, eu, ru⟩ := RepL.get g4 z3
            refine ⟨⟨l1, m1, v, u, g1, g3, ev, eu⟩, fun x2 H' ⟨T, y, y2, eT, hT, eH, ey, ey2⟩ => ?_⟩
            have q1 := ey l1 g1
            rw [ev] at q1
            cases q1
            have q2 := ey2 m1 g3
            rw [eu] at q2
            cases q2
            subst eH eT
            exact yields_pair ok' hT rv ru
        | _ => exact hp1.elim
      | _ => cases re <;> exact hp1.elim

/-! ### list(reversed(e)) -/
def vLRev (a : VA) : VE := fun s h => (a s h).bind fun p => match (one p.1) with
  | some (.ref n) => match lk p.2 n with
    | some l => .ok (.ref p.2.length, p.2 ++ [.lst l.reverse])
    | none => .bad
  | _ => .bad
theorem qLRev {e : Expr} {g : VA} {p p2 pos pos2 : Pos} (hc : X.calm = true) (hm : X.mg "list" = none) (hm2 : X.mg "reversed" = none) (ha : PA X [e] (gA X W g)) (hg : Gl X "list" := by rfl) (hg2 : Gl X "reversed" := by rfl)
    (hs1 : starEach [Expr.Call (.Name "reversed" p2) [e] [] pos2] X.env = [(false, eval (Expr.Call (.Name "reversed" p2) [e] [] pos2) X.env)] := by rfl) (hs : starEach [e] X.env = [(false, eval e X.env)] := by rfl) :
    PE X (.Call (.Name "list" p) [.Call (.Name "reversed" p2) [e] [] pos2] [] pos) (gE X W (vLRev g)) :=
  PEw (pe_listRev hc ha hg hm hg2 hm2 hs1 hs) fun σ H Q ⟨w, s, hH, ok, sl, hp⟩ => by
    subst hH
    refine gA.seq ok sl (wE w Q) hp fun ds w1 vs ok1 x1 sl1 r1 hp1 => ?_
    simp only at hp1
    cases e : one ds with
    | none => rw [e] at hp1; exact hp1.elim
    | some d =>
      obtain ⟨v, _, rfl, rd⟩ := one_rps r1 e
      rw [e] at hp1
      cases rd with
      | @ref n hn =>
        simp only at hp1
        cases el : lk w1.h n with
        | none => rw [el] at hp1; exact hp1.elim
        | some l =>
          rw [el] at hp1
          obtain ⟨us, h1, h2⟩ := lk_sq ok1 el
          exact ⟨_, us, rfl, h1, fun q hq => hp1 (w1.newL q l.reverse us.reverse) _ (ok1.newL hq h2.reverse) rfl (x1.trans (Wd.ext_newL hq)) at_newL⟩
      | _ => exact hp1.elim
end
end Vq

/-! Part 11: built-ins, methods, stores and slices by values. -/
namespace Vq
open PySem PySem.Spec PyProof.Rows L2

/-- a built-in that hands on a value and leaves the heap -/
def pureB (f : List D → VH → Option D) : List D → VH → Option (D × VH) := fun l h => (f l h).map fun d => (d, h)
theorem cd_pure {K : PySem.W.Frag} {r : List V → Hp → VK → Prop} {f : List D → VH → Option D}
    (hr : ∀ (w : Wd) (xs : List D) (vs : List V) (d : D) (Q : VK), w.Ok K → Rps K w xs vs → f xs w.h = some d → (∀ v, Rp K w d v → Q v w.H) → r vs w.H Q) : CallD K r (pureB f) := fun w xs vs Q ok rx h => by
  unfold pureB at h
  cases e : f xs w.h with
  | none => rw [e] at h; exact h.elim
  | some d =>
    rw [e] at h
    exact hr w xs vs d Q ok rx e fun v rv => h w v ok rfl (.refl w) rv

/-! ### ints in a sequence -/
def intsOf : List D → Option (List Int)
  | [] => some []
  | d :: r => (intD d).bind fun i => (intsOf r).map fun l => i :: l
@[simp] theorem intsOf_map (ns : List Int) : intsOf (ns.map D.int) = some ns := by
  induction ns with
  | nil => rfl
  | cons n r ih => simp [intsOf, intD, ih]
theorem intsOf_rps {K : PySem.W.Frag} {w : Wd} : ∀ {ds : List D} {vs : List V} {ns : List Int}, Rps K w ds vs → intsOf ds = some ns → vs = ns.map V.int
  | _, _, _, .nil, e => by cases e; rfl
  | _, _, _, .cons h r, e => by
    obtain ⟨i, e1, e⟩ := Option.bind_eq_some_iff.mp e
    obtain ⟨l, e2, rfl⟩ := Option.map_eq_some_iff.mp e
    rw [(intD_rp h e1).2, intsOf_rps r e2]
    rfl
def boolD : D → Option Bool
  | .bl b => some b
  | _ => none
def boolsOf : List D → Option (List Bool)
  | [] => some []
  | d :: r => (boolD d).bind fun i => (boolsOf r).map fun l => i :: l
@[simp] theorem boolsOf_map (ns : List Bool) : boolsOf (ns.map D.bl) = some ns := by
  induction ns with
  | nil => rfl
  | cons n r ih => simp [boolsOf, boolD, ih]
theorem boolsOf_rps {K : PySem.W.Frag} {w : Wd} : ∀ {ds : List D} {vs : List V} {ns : List Bool}, Rps K w ds vs → boolsOf ds = some ns → vs = ns.map V.bl
  | _, _, _, .nil, e => by cases e; rfl
  | _, _, _, .cons h r, e => by
    obtain ⟨i, e1, e⟩ := Option.bind_eq_some_iff.mp e
    obtain ⟨l, e2, rfl⟩ := Option.map_eq_some_iff.mp e
    cases h with
    | bl b =>
      cases e1
      rw [boolsOf_rps r e2]
      rfl
    | _ => cases e1
/-- the ints of the one argument, a list or a tuple -/
def argInts (l : List D) (h : VH) : Option (List Int) := (one l).bind fun d => (seqOf h d).bind intsOf
theorem argInts_rps {K : PySem.W.Frag} {w : Wd} {ds : List D} {vs : List V} {ns : List Int} (ok : w.Ok K) (r : Rps K w ds vs) (e : argInts ds w.h = some ns) : ∃ a, vs = [.ref a] ∧ (SqL K w.H a (ns.map V.int) ∨ SqT K w.H a (ns.map V.int)) := by
  obtain ⟨d, e1, e⟩ := Option.bind_eq_some_iff.mp e
  obtain ⟨l, e2, e3⟩ := Option.bind_eq_some_iff.mp e
  obtain ⟨v, _, rfl, rd⟩ := one_rps r e1
  obtain ⟨a, us, rfl, hq, rr⟩ := seqOf_sq ok rd e2
  rw [intsOf_rps rr e3] at hq
  exact ⟨a, rfl, hq⟩

section
variable {X : Cx}
def rSumS (K : PySem.W.Frag) : List V → Hp → VK → Prop := fun vs H Q => ∃ (a : Addr) (ns : List Int), vs = [V.ref a] ∧ (SqL K H a (ns.map V.int) ∨ SqT K H a (ns.map V.int)) ∧ Q (.int ns.sum) H
theorem cr_sumS (hc : X.calm = true) : CallR X (.builtin "sum") (rSumS X.K) := by
  rintro pins s σ H vs us Q I r ⟨a, ns, rfl, hs, q⟩
  rcases hs with hs | hs
  · exact cr_sum hc pins s σ H _ us Q I r ⟨a, ns, rfl, hs, q⟩
  · obtain ⟨its, rv, ht, _⟩ := I.tuple hs
    rw [Vals.ref1 r]
    exact sum_tuple (I.ok.hd hc) ht rv.ints fun h' tk t' hk => ⟨.int _, H, I.kept hk, ⟨_, rfl⟩, q⟩
def bSum : List D → VH → Option (D × VH) := pureB fun l h => (argInts l h).map fun ns => .int ns.sum
theorem sum_cd (K : PySem.W.Frag) : CallD K (rSumS K) bSum := cd_pure fun w xs vs d Q ok r e q => by
  obtain ⟨ns, e1, rfl⟩ := Option.map_eq_some_iff.mp e
  obtain ⟨a, rfl, hs⟩ := argInts_rps ok r e1
  exact ⟨a, ns, rfl, hs, q _ (.int _)⟩
/-- max of two, of a sequence -/
def rMaxS (K : PySem.W.Frag) : List V → Hp → VK → Prop := fun vs H Q => (∃ i j, vs = [.int i, .int j] ∧ Q (.int (if j > i then j else i)) H) ∨ ∃ (a : Addr) (ns : List Int) (m : Int), vs = [V.ref a] ∧ (SqL K H a (ns.map V.int) ∨ SqT K H a (ns.map V.int)) ∧ ns.max? = some m ∧ Q (.int m) H
def rMinS (K : PySem.W.Frag) : List V → Hp → VK → Prop := fun vs H Q => (∃ i j, vs = [.int i, .int j] ∧ Q (.int (if j < i then j else i)) H) ∨ ∃ (a : Addr) (ns : List Int) (m : Int), vs = [V.ref a] ∧ (SqL K H a (ns.map V.int) ∨ SqT K H a (ns.map V.int)) ∧ ns.min? = some m ∧ Q (.int m) H
theorem cr_maxS (hc : X.calm = true) : CallR X (.builtin "max") (rMaxS X.K) := by
  rintro pins s σ H vs us Q I r (h | ⟨a, ns, m, rfl, hs, hm, q⟩)
  · exact call_max2 hc pins s σ H vs us Q I r h
  · obtain ⟨m1, m2⟩ := List.max?_eq_some_iff.mp hm
    have uniq : ∀ M : Int, M ∈ ns → (∀ y, y ∈ ns → y ≤ M) → M = m := fun M h1 h2 => Int.le_antisymm (m2 M h1) (h2 m m1)
    have hne : ns ≠ [] := fun z => by rw [z] at m1; cases m1
    rcases hs with hs | hs
    · refine cr_max hc pins s σ H _ us Q I r ⟨a, ns, rfl, hs, ?_, fun M h1 h2 => by rw [uniq M h1 h2]; exact q⟩
      cases ns with
      | nil => exact absurd rfl hne
      | cons _ _ => exact Nat.succ_pos _
    · obtain ⟨its, rv, ht, _⟩ := I.tuple hs
      rw [Vals.ref1 r]
      exact ext_tuple (I.ok.hd hc) ht rv.ints hne (.inl ⟨rfl, fun M h' tk t' h1 h2 hk => ⟨.int _, H, I.kept hk, ⟨_, rfl⟩, by rw [uniq M h1 h2]; exact q⟩⟩)
theorem cr_minS (hc : X.calm = true) : CallR X (.builtin "min") (rMinS X.K) := by
  rintro pins s σ H vs us Q I r (h | ⟨a, ns, m, rfl, hs, hm, q⟩)
  · exact call_min2 hc pins s σ H vs us Q I r h
  · obtain ⟨m1, m2⟩ := List.min?_eq_some_iff.mp hm
    have uniq : ∀ M : Int, M ∈ ns → (∀ y, y ∈ ns → M ≤ y) → M = m := fun M h1 h2 => Int.le_antisymm (h2 m m1) (m2 M h1)
    have hne : ns ≠ [] := fun z => by rw [z] at m1; cases m1
    rcases hs with hs | hs
    · refine cr_min hc pins s σ H _ us Q I r ⟨a, ns, rfl, hs, ?_, fun M h1 h2 => by rw [uniq M h1 h2]; exact q⟩
      cases ns with
      | nil => exact absurd rfl hne
      | cons _ _ => exact Nat.succ_pos _
    · obtain ⟨its, rv, ht, _⟩ := I.tuple hs
      rw [Vals.ref1 r]
      exact ext_tuple (I.ok.hd hc) ht rv.ints hne (.inr ⟨rfl, fun M h' tk t' h1 h2 hk => ⟨.int _, H, I.kept hk, ⟨_, rfl⟩, by rw [uniq M h1 h2]; exact q⟩⟩)
def bMax : List D → VH → Option (D × VH) := pureB fun l h => match int2 l with
  | some (i, j) => some (.int (if j > i then j else i))
  | none => (argInts l h).bind fun ns => ns.max?.map .int
def bMin : List D → VH → Option (D × VH) := pureB fun l h => match int2 l with
  | some (i, j) => some (.int (if j < i then j else i))
  | none => (argInts l h).bind fun ns => ns.min?.map .int
theorem max_cd (K : PySem.W.Frag) : CallD K (rMaxS K) bMax := cd_pure fun w xs vs d Q ok r e q => by
  cases e2 : int2 xs with
  | some p =>
    rw [e2] at e
    cases e
    exact .inl ⟨_, _, int2_rps r e2, q _ (.int _)⟩
  | none =>
    rw [e2] at e
    obtain ⟨ns, e1, e⟩ := Option.bind_eq_some_iff.mp e
    obtain ⟨m, em, rfl⟩ := Option.map_eq_some_iff.mp e
    obtain ⟨a, rfl, hs⟩ := argInts_rps ok r e1
    exact .inr ⟨a, ns, m, rfl, hs, em, q _ (.int _)⟩
theorem min_cd (K : PySem.W.Frag) : CallD K (rMinS K) bMin := cd_pure fun w xs vs d Q ok r e q => by
  cases e2 : int2 xs with
  | some p =>
    rw [e2] at e
    cases e
    exact .inl ⟨_, _, int2_rps r e2, q _ (.int _)⟩
  | none =>
    rw [e2] at e
    obtain ⟨ns, e1, e⟩ := Option.bind_eq_some_iff.mp e
    obtain ⟨m, em, rfl⟩ := Option.map_eq_some_iff.mp e
    obtain ⟨a, rfl, hs⟩ := argInts_rps ok r e1
    exact .inr ⟨a, ns, m, rfl, hs, em, q _ (.int _)⟩
/-- all, any of a list of truth values -/
def argBools (l : List D) (h : VH) : Option (List Bool) := (one l).bind fun d => match d with
  | .ref n => (lk h n).bind boolsOf
  | _ => none
theorem argBools_rps {K : PySem.W.Frag} {w : Wd} {ds : List D} {vs : List V} {ns : List Bool} (ok : w.Ok K) (r : Rps K w ds vs) (e : argBools ds w.h = some ns) : ∃ a, vs = [.ref a] ∧ SqL K w.H a (ns.map V.bl) := by
  obtain ⟨d, e1, e⟩ := Option.bind_eq_some_iff.mp e
  obtain ⟨v, _, rfl, rd⟩ := one_rps r e1
  cases rd with
  | ref hn =>
    simp only at e
    obtain ⟨l, e2, e3⟩ := Option.bind_eq_some_iff.mp e
    obtain ⟨us, h1, h2⟩ := lk_sq ok e2
    rw [boolsOf_rps h2 e3] at h1
    exact ⟨_, rfl, h1⟩
  | _ => cases e
def bAll : List D → VH → Option (D × VH) := pureB fun l h => (argBools l h).map fun bs => .bl (bs.all id)
def bAny : List D → VH → Option (D × VH) := pureB fun l h => (argBools l h).map fun bs => .bl (bs.any id)
theorem all_cd (K : PySem.W.Frag) : CallD K (rAll K) bAll := cd_pure fun w xs vs d Q ok r e q => by
  obtain ⟨bs, e1, rfl⟩ := Option.map_eq_some_iff.mp e
  obtain ⟨a, rfl, hs⟩ := argBools_rps ok r e1
  exact ⟨a, bs, rfl, hs, q _ (.bl _)⟩
theorem any_cd (K : PySem.W.Frag) : CallD K (rAny K) bAny := cd_pure fun w xs vs d Q ok r e q => by
  obtain ⟨bs, e1, rfl⟩ := Option.map_eq_some_iff.mp e
  obtain ⟨a, rfl, hs⟩ := argBools_rps ok r e1
  exact ⟨a, bs, rfl, hs, q _ (.bl _)⟩
def bAbs : List D → VH → Option (D × VH) := pureB fun l _ => (int1 l).map fun i => .int (if i < 0 then -i else i)
theorem abs_cd (K : PySem.W.Frag) : CallD K (fun xs H Q => ∃ i, xs = [.int i] ∧ Q (.int (if i < 0 then -i else i)) H) bAbs := cd_pure fun w xs vs d Q ok r e q => by
  obtain ⟨i, e1, rfl⟩ := Option.map_eq_some_iff.mp e
  exact ⟨i, int1_rps r e1, q _ (.int _)⟩
def bInt : List D → VH → Option (D × VH) := pureB fun l _ => match one l with
  | some (.int i) => some (.int i)
  | some (.bl b) => some (.int (if b then 1 else 0))
  | _ => none
theorem int_cd (K : PySem.W.Frag) : CallD K (fun xs H Q => (∃ i, xs = [.int i] ∧ Q (.int i) H) ∨ ∃ k, xs = [.bl k] ∧ Q (.int (if k then 1 else 0)) H) bInt := cd_pure fun w xs vs d Q ok r e q => by
  cases e1 : one xs with
  | none => rw [e1] at e; cases e
  | some d =>
    obtain ⟨v, _, rfl, rd⟩ := one_rps r e1
    rw [e1] at e
    cases rd with
    | int i => cases e; exact .inl ⟨i, rfl, q _ (.int _)⟩
    | bl b => cases e; exact .inr ⟨b, rfl, q _ (.int _)⟩
    | _ => cases e
def bLen : List D → VH → Option (D × VH) := pureB fun l h => (one l).bind fun d => match d with
  | .str s => if s.length ≤ sizeLine then some (.int s.length) else none
  | _ => (seqOf h d).map fun l => .int l.length
theorem len_cd (K : PySem.W.Frag) : CallD K (fun xs H Q => ∃ x n, xs = [x] ∧ LenV K x H n ∧ Q (.int n) H) bLen := cd_pure fun w xs vs d Q ok r e q => by
  obtain ⟨x, e1, e⟩ := Option.bind_eq_some_iff.mp e
  obtain ⟨v, _, rfl, rd⟩ := one_rps r e1
  have gen : ∀ l, seqOf w.h x = some l → d = .int l.length → ∃ x n, [v] = [x] ∧ LenV K x w.H n ∧ Q (.int n) w.H := by
    intro l el ed
    subst ed
    obtain ⟨a, us, rfl, hq, rr⟩ := seqOf_sq ok rd el
    refine ⟨_, l.length, rfl, ?_, q _ (.int _)⟩
    rcases hq with hq | hq
    · exact .inl ⟨us, hq, RepL.length rr⟩
    · exact .inr ⟨us, hq, RepL.length rr⟩
  cases x with
  | str s =>
    cases rd
    simp only at e
    by_cases h : s.length ≤ sizeLine
    · rw [if_pos h] at e
      cases e
      exact ⟨_, _, rfl, ⟨h, rfl⟩, q _ (.int _)⟩
    · rw [if_neg h] at e
      cases e
  | tup l => obtain ⟨l', el, rfl⟩ := Option.map_eq_some_iff.mp e; exact gen l' el rfl
  | ftup l => obtain ⟨l', el, rfl⟩ := Option.map_eq_some_iff.mp e; exact gen l' el rfl
  | ref n => obtain ⟨l', el, rfl⟩ := Option.map_eq_some_iff.mp e; exact gen l' el rfl
  | _ => cases e
/-- list(e) of a list or tuple -/
def bList : List D → VH → Option (D × VH) := fun l h => (one l).bind fun d => (seqOf h d).map fun l => (.ref h.length, h ++ [.lst l])
theorem list_cd (K : PySem.W.Frag) : CallD K (fun xs H Q => ∃ p ys, xs = [.ref p] ∧ (SqL K H p ys ∨ SqT K H p ys) ∧ ∀ l, H l = none → Q (.ref l) (upd H l (.lst ys))) bList := fun w xs vs Q ok r h => by
  unfold bList at h
  cases e1 : one xs with
  | none => rw [e1] at h; exact h.elim
  | some d =>
    obtain ⟨v, _, rfl, rd⟩ := one_rps r e1
    rw [e1] at h
    simp only [Option.bind_some] at h
    cases e2 : seqOf w.h d with
    | none => rw [e2] at h; exact h.elim
    | some l =>
      rw [e2] at h
      obtain ⟨a, us, rfl, hq, rr⟩ := seqOf_sq ok rd e2
      exact ⟨a, us, rfl, hq, fun p hp => h (w.newL p l us) _ (ok.newL hp rr) rfl (Wd.ext_newL hp) at_newL⟩
def bTup : List D → VH → Option (D × VH) := pureB fun l h => (one l).bind fun d => (seqOf h d).map .tup
theorem tup_cd (K : PySem.W.Frag) : CallD K (fun xs H Q => ∃ p ys, xs = [.ref p] ∧ ((SqL K H p ys ∧ ∀ l, H l = none → Q (.ref l) (upd H l (.tup ys))) ∨ (SqT K H p ys ∧ Q (.ref p) H))) bTup := fun w xs vs Q ok r h => by
  unfold bTup pureB at h
  cases e1 : one xs with
  | none => simp only [e1] at h; exact h.elim
  | some d =>
    obtain ⟨v, _, rfl, rd⟩ := one_rps r e1
    simp only [e1, Option.bind_some] at h
    cases e2 : seqOf w.h d with
    | none => rw [e2] at h; exact h.elim
    | some l =>
      rw [e2] at h
      obtain ⟨a, us, rfl, hq, rr⟩ := seqOf_sq ok rd e2
      refine ⟨a, us, rfl, ?_⟩
      rcases hq with hq | hq
      · exact .inl ⟨hq, fun p hp => h (w.tupAt p (.tup us)) _ (ok.tupAt hp) rfl (Wd.ext_tupAt hp) (.tup (SqT.of upd_same) ((Wd.ext_tupAt hp).rps rr))⟩
      · exact .inr ⟨hq, h w _ ok rfl (.refl w) (.tup hq rr)⟩

/-! ### repr -/
def reprOk (p : PyData) : Bool := SeqAt.shaped p && p.showable && decide (p.shown.length ≤ sizeLine)
def rRepr (K : PySem.W.Frag) : List V → Hp → VK → Prop := fun xs H Q => ∃ x d, xs = [x] ∧ Dp K H x d ∧ reprOk d = true ∧ Q (.str d.shown) H
theorem depth_of_shaped {d : PyData} (h : SeqAt.shaped d = true) : d.canLay0 = true ∧ d.depth ≤ 64 := by
  unfold SeqAt.shaped at h
  simpa using h
theorem cr_repr (hg : X.A.guards = some []) (hu : X.A.units + 70 < cLine) : CallR X (.builtin "repr") (rRepr X.K) := by
  rintro pins s σ H vs us Q I r ⟨x, d, rfl, hd, hr, q⟩
  unfold reprOk at hr
  simp only [Bool.and_eq_true, decide_eq_true_eq] at hr
  obtain ⟨⟨h1, h2⟩, h3⟩ := hr
  obtain ⟨hlay, hdep⟩ := depth_of_shaped h1
  cases r with
  | cons rv rr =>
    cases rr
    obtain ⟨as, rds⟩ := Dp.reads I d x _ hd rv
    cases hd with
    | non =>
      cases rv
      exact P.repr_of_none ⟨.str _, H, I.tok _, ⟨_, rfl⟩, q⟩
    | bl b =>
      cases rv
      exact P.repr_of_bool ⟨.str _, H, I.tok _, ⟨_, rfl⟩, by
        cases b <;> exact q⟩
    | int i =>
      obtain ⟨t, rfl⟩ := rv
      exact P.repr_of_int (by simpa [PyData.showable] using h2) ⟨.str _, H, I.tok _, ⟨_, rfl⟩, q⟩
    | str z =>
      obtain ⟨t, rfl⟩ := rv
      exact P.repr_of_str ⟨.str _, H, I.tok _, ⟨_, rfl⟩, q⟩ h3
    | lst _ _ =>
      cases rv
      exact repr_of_reads' rds h2 (PyData.noDict_hsm (PyData.hasDict_of_canLay _ hlay)) hg (by omega) (fun b o e => e) (fun h' u tk hk => ⟨.str _, H, I.kept hk, ⟨_, rfl⟩, q⟩) h3
    | tup _ _ =>
      cases rv
      exact repr_of_reads' rds h2 (PyData.noDict_hsm (PyData.hasDict_of_canLay _ hlay)) hg (by omega) (fun b o e => e) (fun h' u tk hk => ⟨.str _, H, I.kept hk, ⟨_, rfl⟩, q⟩) h3
def bRepr : List D → VH → Option (D × VH) := pureB fun l h => (one l).bind fun d => (py h d).bind fun p => if reprOk p = true then some (.str p.shown) else none
theorem repr_cd (K : PySem.W.Frag) : CallD K (rRepr K) bRepr := cd_pure fun w xs vs d Q ok r e q => by
  obtain ⟨x, e1, e⟩ := Option.bind_eq_some_iff.mp e
  obtain ⟨v, _, rfl, rd⟩ := one_rps r e1
  obtain ⟨p, ep, e⟩ := Option.bind_eq_some_iff.mp e
  by_cases h : reprOk p = true
  · rw [if_pos h] at e
    cases e
    exact ⟨v, p, rfl, py_dp ok rd ep, h, q _ (.str _)⟩
  · rw [if_neg h] at e
    cases e
end
end Vq

/-! Part 12: in, is, products, methods, stores, slices. -/
namespace Vq
open PySem PySem.Spec PyProof.Rows L2

/-! ### in, not in: flat values -/
/-- == of flat values -/
def eqF : D → D → Bool
  | .non, .non => true
  | .bl a, .bl b => a == b
  | .bl a, .int b => (if a then 1 else 0) == b
  | .int a, .bl b => a == (if b then 1 else 0)
  | .int a, .int b => a == b
  | .str a, .str b => a == b
  | _, _ => false
theorem flat_rp {K : PySem.W.Frag} {w : Wd} {d : D} {v : V} (r : Rp K w d v) (h : flatD d = true) : flatV v = true := by
  cases r <;> first | rfl | cases h
theorem eqF_rp {K : PySem.W.Frag} {w : Wd} {d e : D} {v u : V} (r : Rp K w d v) (q : Rp K w e u) (h : flatD d = true) (g : flatD e = true) : eqV v u = eqF d e := by
  cases r <;> cases q <;> first | rfl | cases h | cases g
theorem all_flat {K : PySem.W.Frag} {w : Wd} : ∀ {ds : List D} {vs : List V}, Rps K w ds vs → ds.all flatD = true → vs.all flatV = true
  | _, _, .nil, _ => rfl
  | _, _, .cons h r, e => by
    simp only [List.all_cons, Bool.and_eq_true] at e ⊢
    exact ⟨flat_rp h e.1, all_flat r e.2⟩
theorem inV_rp {K : PySem.W.Frag} {w : Wd} {x : D} {vx : V} (rx : Rp K w x vx) (hx : flatD x = true) : ∀ {ds : List D} {vs : List V}, Rps K w ds vs → ds.all flatD = true → inV vx vs = ds.any fun y => eqF y x
  | _, _, .nil, _ => rfl
  | _, _, .cons h r, e => by
    simp only [List.all_cons, Bool.and_eq_true] at e
    show ((eqV _ vx) || inV vx _) = _
    rw [eqF_rp h rx e.1 hx, inV_rp rx hx r e.2]
    rfl
def inW (neg : Bool) (x y : D) (h : VH) : Option (D × VH) := (seqOf h y).bind fun l => if (flatD x && l.all flatD) = true then some (.bl (if neg then !(l.any fun y => eqF y x) else l.any fun y => eqF y x), h) else none
def dIn (x y : D) (h : VH) : Option (D × VH) := inW false x y h
def dNin (x y : D) (h : VH) : Option (D × VH) := inW true x y h
theorem inW_opd (K : PySem.W.Frag) (neg : Bool) : OpD K (rIn K neg) (inW neg) := fun w x y vx vy Q ok rx ry h => by
  unfold inW at h
  cases e : seqOf w.h y with
  | none => rw [e] at h; exact h.elim
  | some l =>
    rw [e] at h
    simp only [Option.bind_some] at h
    by_cases hf : (flatD x && l.all flatD) = true
    · rw [if_pos hf] at h
      rw [Bool.and_eq_true] at hf
      obtain ⟨a, us, rfl, hq, rr⟩ := seqOf_sq ok ry e
      refine ⟨a, us, rfl, hq, flat_rp rx hf.1, all_flat rr hf.2, ?_⟩
      rw [inV_rp rx hf.1 rr hf.2]
      exact h w _ ok rfl (.refl w) (.bl _)
    · rw [if_neg hf] at h
      exact h.elim
theorem in_opd (K : PySem.W.Frag) : OpD K (rIn K false) dIn := inW_opd K false
theorem nin_opd (K : PySem.W.Frag) : OpD K (rIn K true) dNin := inW_opd K true

/-! ### is None -/
def isNon : D → Bool
  | .non => true
  | _ => false
theorem isNon_rp {K : PySem.W.Frag} {w : Wd} {d : D} {v : V} (r : Rp K w d v) : decide (v = .non) = isNon d := by
  cases r <;> simp [isNon]
def dIsN (x y : D) (h : VH) : Option (D × VH) := if isNon y = true then some (.bl (isNon x), h) else none
def dNotN (x y : D) (h : VH) : Option (D × VH) := if isNon y = true then some (.bl (!isNon x), h) else none
theorem isN_opd (K : PySem.W.Frag) : OpD K (fun x y H Q => y = .non ∧ Q (.bl (decide (x = .non))) H) dIsN := fun w x y vx vy Q ok rx ry h => by
  unfold dIsN at h
  by_cases hn : isNon y = true
  · rw [if_pos hn] at h
    refine ⟨of_decide_eq_true ((isNon_rp ry).trans hn), ?_⟩
    rw [isNon_rp rx]
    exact h w _ ok rfl (.refl w) (.bl _)
  · rw [if_neg hn] at h
    exact h.elim
theorem notN_opd (K : PySem.W.Frag) : OpD K (fun x y H Q => y = .non ∧ Q (.bl (!decide (x = .non))) H) dNotN := fun w x y vx vy Q ok rx ry h => by
  unfold dNotN at h
  by_cases hn : isNon y = true
  · rw [if_pos hn] at h
    refine ⟨of_decide_eq_true ((isNon_rp ry).trans hn), ?_⟩
    rw [isNon_rp rx]
    exact h w _ ok rfl (.refl w) (.bl _)
  · rw [if_neg hn] at h
    exact h.elim

/-! ### products -/
theorem tuple_mul1 (l : Addr) (items : Array Value) (n : Nat) (dd : Option Addr) (sl : Array (Option Value)) (x : Int) (u : Tok)
    (c0 : (decide (x < -(2 ^ 63)) || decide (x ≥ 2 ^ 63)) = false) (c1 : (items.isEmpty || x == 1) = true) :
    Meets (Builtin.«tuple.__mul__» ⟨[.ref l, .int x u], []⟩) (fun _ R s => s.heap.get? l = some { cls := .type "tuple", dict := dd, data := .seq items n, slots := sl } ∧ R (.ok (.ret (Value.ref l))) s) := by
  refine .of_wp fun prog w A R s h => ?_
  obtain ⟨hp, g, d, tk, os⟩ := s
  obtain ⟨hl, h⟩ := h
  have f1 := AutoSeq1.idx_int
  wp_walk using wpAny_loadPart' hl
  repeat (first
    | (refine wpAny_ite_false (decide_eq_false (by rw [c0]; exact fun z => nomatch z)) ?_; wp_walk using wpAny_loadPart' hl)
    | (refine wpAny_ite_true (decide_eq_true c1) ?_; wp_walk using wpAny_loadPart' hl))
  exact ⟨_, rfl, h⟩
/-- t * 1, () * k: the tuple itself -/
def rRep1 (K : PySem.W.Frag) : R2 := fun x y H Q => ∃ l k xs, x = .ref l ∧ y = .int k ∧ SqT K H l xs ∧ -(2 ^ 63) ≤ k ∧ k < 2 ^ 63 ∧ (xs = [] ∨ k = 1) ∧ Q (.ref l) H
theorem op_rep1 {X : Cx} : OpR X (binaryOp .Mult) (rRep1 X.K) := by
  rintro pins s σ H x y v u Q I rx ry ⟨l, k, xs, rfl, rfl, hT, k1, k2, hk, q⟩
  cases rx
  obtain ⟨t, rfl⟩ := ry
  obtain ⟨its, r, ⟨⟨cls, dd, data, sl⟩, ho, hc, n, hd⟩, hs⟩ := I.tuple hT
  simp only at hc hd
  subst hc hd
  have c0 : (decide (k < -(2 ^ 63)) || decide (k ≥ 2 ^ 63)) = false := by
    rw [decide_eq_false (by omega), decide_eq_false (by omega)]
    rfl
  have c1 : (its.toArray.isEmpty || k == 1) = true := by
    rcases hk with h | h
    · subst h
      cases r
      rfl
    · subst h
      simp
  refine wpAny_binaryOp_repeat_ref (T := "tuple") (U := "int") (by decide) ⟨_, ho, rfl⟩ (fun s' => typeIs_int s' k t) noFill_tuple_mul F.fills_int_mul F.slot_int_rmul repeat_tuple F.slot_int_index.lookup ?_
  refine call_meets F.slot_int_rmul (typeIs_int s k t) F.entry_int_rmul (F.args_int_rmul_2 _ _) (int_rmul_tuple k t l its.toArray n dd sl) ⟨ho, rfl, ⟨_, ho, rfl⟩, ?_⟩
  exact call_meets F.slot_tuple_mul ⟨_, ho, rfl⟩ F.entry_tuple_mul (F.args_tuple_mul_2 _ _) (tuple_mul1 l its.toArray n dd sl k t c0 c1) ⟨ho, ⟨.ref l, H, I, rfl, q⟩⟩
def repD (k : Nat) (l : List D) : List D := (List.replicate k l).flatten
theorem reps_rep {K : PySem.W.Frag} {w : Wd} {ds : List D} {vs : List V} (r : Rps K w ds vs) : ∀ k : Nat, Rps K w (repD k ds) (List.replicate k vs).flatten
  | 0 => .nil
  | k + 1 => by
    show RepL K w.ι w.h.length w.H (List.replicate (k + 1) ds).flatten (List.replicate (k + 1) vs).flatten
    rw [List.replicate_succ, List.replicate_succ, List.flatten_cons, List.flatten_cons]
    exact r.append (reps_rep r k)
def tMulT : D → D → VH → Option (D × VH) := fun x y h => match x, y with
  | .tup l, .int k => if k = 1 then some (.tup l, h) else if 2 ≤ k ∧ k ≤ 1000 ∧ l ≠ [] ∧ l.length ≤ 1000 then some (.tup (repD k.toNat l), h) else none
  | _, _ => none
theorem mulT_opd (K : PySem.W.Frag) : OpD K (orR (rRep1 K) (rRepT K)) tMulT := fun w x y vx vy Q ok rx ry h => by
  cases rx with
  | @tup a vs ds hx rx =>
    cases ry with
    | int k =>
      unfold tMulT at h
      simp only at h
      by_cases h1 : k = 1
      · rw [if_pos h1] at h
        exact .inl ⟨a, k, vs, rfl, rfl, hx, by omega, by omega, .inr h1, h w _ ok rfl (.refl w) (.tup hx rx)⟩
      · rw [if_neg h1] at h
        by_cases h2 : 2 ≤ k ∧ k ≤ 1000 ∧ ds ≠ [] ∧ ds.length ≤ 1000
        · rw [if_pos h2] at h
          refine .inr ⟨a, k, vs, rfl, rfl, hx, fun z => h2.2.2.1 ?_, h2.1, h2.2.1, by rw [← rx.length]; exact h2.2.2.2, fun p hp => ?_⟩
          · subst z
            cases rx
            rfl
          · exact h (w.tupAt p (.tup _)) _ (ok.tupAt hp) rfl (Wd.ext_tupAt hp) (.tup (SqT.of upd_same) ((Wd.ext_tupAt hp).rps (reps_rep rx k.toNat)))
        · rw [if_neg h2] at h
          exact h.elim
    | _ => exact h.elim
  | _ => cases ry <;> exact h.elim
def tMulL : D → D → VH → Option (D × VH) := fun x y h => match x, y with
  | .ref m, .int k => match h[m]? with
    | some (.lst l) => if -(2 ^ 63) ≤ k ∧ k < 2 ^ 63 ∧ l.length * k.toNat ≤ sizeLine then some (.ref h.length, h ++ [.lst (repD k.toNat l)]) else none
    | _ => none
  | _, _ => none
theorem mulL_opd (K : PySem.W.Frag) : OpD K rRep tMulL := fun w x y vx vy Q ok rx ry h => by
  cases rx with
  | @ref m hm =>
    cases ry with
    | int k =>
      unfold tMulL at h
      simp only at h
      cases e1 : w.h[m]? with
      | none => simp only [e1] at h; exact h.elim
      | some c =>
        cases c with
        | ro _ => simp only [e1] at h; exact h.elim
        | lst l =>
          simp only [e1] at h
          by_cases h2 : -(2 ^ 63) ≤ k ∧ k < 2 ^ 63 ∧ l.length * k.toNat ≤ sizeLine
          · rw [if_pos h2] at h
            obtain ⟨us, g1, g2⟩ := ok.cell m _ e1
            exact ⟨_, k, us, rfl, rfl, g1, h2.1, h2.2.1, by rw [← g2.length]; exact h2.2.2, fun p hp => h (w.newL p _ _) _ (ok.newL hp (reps_rep g2 k.toNat)) rfl (Wd.ext_newL hp) at_newL⟩
          · rw [if_neg h2] at h
            exact h.elim
    | _ => exact h.elim
  | _ => cases ry <;> exact h.elim
def dMul : D → D → VH → Option (D × VH) := orD aMul (orD tMulT tMulL)
def rMulA (K : PySem.W.Frag) : R2 := orR (orR (rI CMul fun i j => .int (i * j)) (rI CMulW fun i j => .int (i * j))) (orR (orR (rRep1 K) (rRepT K)) rRep)
theorem mul_opd (K : PySem.W.Frag) : OpD K (rMulA K) dMul := opd_orD (mul_ii K) (opd_orD (mulT_opd K) (mulL_opd K))
theorem mul_opr {X : Cx} : OpR X (binaryOp .Mult) (rMulA X.K) := OpR.or (OpR.or op_mul op_mulW) (OpR.or (OpR.or op_rep1 op_repT) op_rep)
theorem fdv_opr {X : Cx} : OpR X (binaryOp .FloorDiv) (fun x y H Q => rI CDivN (fun i j => .int (i.fdiv j)) x y H Q ∨ rI CDivW (fun i j => .int (i / j)) x y H Q) := OpR.or op_fdivN op_fdivW

/-! ### stores -/
def sLst (o i d : D) (h : VH) : Option VH := match o, i with
  | .ref n, .int k => match h[n]? with
    | some (.lst l) => (ixN l.length k).map fun j => h.set n (.lst (l.set j d))
    | _ => none
  | _, _ => none
theorem lst_setd (K : PySem.W.Frag) : SetD K rSetL sLst := fun w o i d vo vi vd Q ok ro ri rd h => by
  cases ro with
  | @ref n hn =>
    cases ri with
    | int k =>
      unfold sLst at h
      simp only at h
      cases e1 : w.h[n]? with
      | none => simp only [e1] at h
      | some c =>
        cases c with
        | ro _ => simp only [e1] at h
        | lst l =>
          simp only [e1] at h
          cases ej : ixN l.length k with
          | none => simp only [ej] at h; exact h.elim
          | some j =>
            simp only [ej] at h
            obtain ⟨us, g1, g2⟩ := ok.cell n _ e1
            obtain ⟨ok', x'⟩ := ok.putL (ds := l.set j d) (vs := us.set j vd) e1 (g2.set rd j)
            exact ⟨_, us, k, j, rfl, rfl, g1, by rw [← g2.length]; exact ej, h (w.putL n _ _) ok' rfl x'⟩
    | _ => exact h.elim
  | _ => cases ri <;> exact h.elim

/-! ### methods -/
def MtD (K : PySem.W.Frag) (r : V → List V → Hp → VK → Prop) (f : D → List D → VH → Option (D × VH)) : Prop :=
  ∀ (w : Wd) (x : D) (xs : List D) (vx : V) (vs : List V) (Q : VK), w.Ok K → Rp K w x vx → Rps K w xs vs → PstO K w (f x xs w.h) Q → r vx vs w.H Q
def tyD (T : String) (d : D) (h : VH) : Bool := match d with
  | .ref n => T == "list" && (lk h n).isSome
  | .str _ => T == "str"
  | .int _ => T == "int"
  | _ => false
theorem tyD_tyV {K : PySem.W.Frag} {w : Wd} {T : String} {d : D} {v : V} (ok : w.Ok K) (r : Rp K w d v) (h : tyD T d w.h = true) : tyV K T v w.H := by
  cases r with
  | @ref n hn =>
    simp only [tyD, Bool.and_eq_true, beq_iff_eq] at h
    obtain ⟨ds, e⟩ := Option.isSome_iff_exists.mp h.2
    obtain ⟨vs, h1, h2⟩ := lk_sq ok e
    exact .inl ⟨h.1, vs, h1⟩
  | str s =>
    show T = "str"
    simpa [tyD] using h
  | int i =>
    show T = "int"
    simpa [tyD] using h
  | _ => cases h
def vMt (T : String) (f : D → List D → VH → Option (D × VH)) (o : VE) (a : VA) : VE := fun s h => (o s h).bind fun p => if tyD T p.1 p.2 = true then (a s p.2).bind fun q => lift (f p.1 q.1 q.2) else .bad
section
variable {X : Cx} {W : WX} {o e : Expr} {es : List Expr} {fo : VE} {g : VA} {name : Str} {apos cpos : Pos} {T id : String} {r : V → List V → Hp → VK → Prop} {f : D → List D → VH → Option (D × VH)}
theorem qMt0 (pa : PlainAttrs T) (slot : Slot T name id) (hty : typeOf (.builtin id) = pure (.type "method_descriptor")) (hm : MtR X id r) (hf : MtD X.K r f) (ho : PE X o (gE X W fo))
    (hbase : attributeBase o name X.env (eval o X.env) = eval o X.env := by rfl) (hline : (apos.endLine == cpos.line) = true := by rfl) : PE X (.Call (.Attribute o name apos) [] [] cpos) (gE X W (vMt T f fo vNil)) :=
  PEw (pe_bm0 pa slot hty hm ho hbase hline) fun σ H Q ⟨w, s, hH, ok, sl, hp⟩ => by
    subst hH
    refine gE.seq ok sl (wE w Q) hp fun d w1 v ok1 x1 sl1 r1 hp1 => ?_
    simp only at hp1
    by_cases ht : tyD T d w1.h = true
    · rw [if_pos ht] at hp1
      exact ⟨tyD_tyV ok1 r1 ht, hf w1 d [] v [] Q ok1 r1 .nil ((PstE.lift hp1).mono x1)⟩
    · rw [if_neg ht] at hp1
      exact hp1.elim
theorem qMt (pa : PlainAttrs T) (slot : Slot T name id) (hty : typeOf (.builtin id) = pure (.type "method_descriptor")) (hm : MtR X id r) (hf : MtD X.K r f) (ho : PE X o (gE X W fo)) (ha : PA X (e :: es) (gA X W g))
    (hbase : attributeBase o name X.env (eval o X.env) = eval o X.env := by rfl)
    (hfew : ((backTo cpos (starEach (e :: es) X.env)).all (fun x => !x.1) && (backToKw cpos (keywordEach [] X.env)).all (fun x => x.1.isSome)
      && decide ((e :: es).length + ([] : List Keyword).length + (if ([] : List Keyword).isEmpty then 0 else 1) < 30)) = true := by rfl)
    (hline : (apos.endLine == cpos.line) = true := by rfl) (hs : starEach (e :: es) X.env = (false, eval e X.env) :: starEach es X.env := by rfl) (hplain : (backTo cpos (starEach es X.env)).any (·.1) = false := by rfl) :
    PE X (.Call (.Attribute o name apos) (e :: es) [] cpos) (gE X W (vMt T f fo g)) :=
  PEw (pe_bm pa slot hty hm ho ha hbase hfew hline hs hplain) fun σ H Q ⟨w, s, hH, ok, sl, hp⟩ => by
    subst hH
    refine gE.seq ok sl (wE w Q) hp fun d w1 v ok1 x1 sl1 r1 hp1 => ?_
    simp only at hp1
    by_cases ht : tyD T d w1.h = true
    · rw [if_pos ht] at hp1
      refine ⟨tyD_tyV ok1 r1 ht, ?_⟩
      refine gA.seq ok1 sl1 ((wE w Q).mono x1) hp1 fun ds w2 vs ok2 x2 sl2 r2 hp2 => ?_
      exact hf w2 d ds v vs Q ok2 (x2.rp r1) r2 ((PstE.lift hp2).mono (x1.trans x2))
    · rw [if_neg ht] at hp1
      exact hp1.elim
end
/-- the list at a reference -/
def lstAt (h : VH) : D → Option (Nat × List D)
  | .ref n => match h[n]? with
    | some (.lst l) => some (n, l)
    | _ => none
  | _ => none
theorem lstAt_rp {K : PySem.W.Frag} {w : Wd} {d : D} {v : V} {n : Nat} {l : List D} (ok : w.Ok K) (r : Rp K w d v) (e : lstAt w.h d = some (n, l)) : d = .ref n ∧ w.h[n]? = some (.lst l) ∧ v = .ref (w.ι n) ∧ ∃ us, w.H (w.ι n) = some (.lst us) ∧ Rps K w l us := by
  cases r with
  | @ref m hm =>
    unfold lstAt at e
    simp only at e
    cases e1 : w.h[m]? with
    | none => simp only [e1] at e; cases e
    | some c =>
      cases c with
      | ro _ => simp only [e1] at e; cases e
      | lst l' =>
        simp only [e1] at e
        cases e
        exact ⟨rfl, e1, rfl, ok.cell _ _ e1⟩
  | _ => cases e
def mAppend (x : D) (xs : List D) (h : VH) : Option (D × VH) := (lstAt h x).bind fun p => (one xs).bind fun d => if p.2.length < sizeLine then some (.non, h.set p.1 (.lst (p.2 ++ [d]))) else none
theorem append_mtd (K : PySem.W.Frag) : MtD K rAppend mAppend := fun w x xs vx vs Q ok rx rs h => by
  unfold mAppend at h
  cases e1 : lstAt w.h x with
  | none => rw [e1] at h; exact h.elim
  | some p =>
    obtain ⟨n, l⟩ := p
    obtain ⟨rfl, en, rfl, us, g1, g2⟩ := lstAt_rp ok rx e1
    rw [e1] at h
    simp only [Option.bind_some] at h
    cases e2 : one xs with
    | none => rw [e2] at h; exact h.elim
    | some d =>
      obtain ⟨v, _, rfl, rd⟩ := one_rps rs e2
      rw [e2] at h
      simp only [Option.bind_some] at h
      by_cases hl : l.length < sizeLine
      · rw [if_pos hl] at h
        obtain ⟨ok', x'⟩ := ok.putL (ds := l ++ [d]) (vs := us ++ [v]) en (g2.append (.cons rd .nil))
        exact ⟨_, us, v, rfl, rfl, g1, by rw [← RepL.length g2]; exact hl, h (w.putL n _ _) _ ok' rfl x' .non⟩
      · rw [if_neg hl] at h
        exact h.elim
def mPop (x : D) (xs : List D) (h : VH) : Option (D × VH) := (lstAt h x).bind fun p => if xs.isEmpty = true then (p.2[p.2.length - 1]?).map fun d => (d, h.set p.1 (.lst p.2.dropLast)) else none
theorem RepL.dropLast {K : PySem.W.Frag} {w : Wd} {ds : List D} {vs : List V} (r : Rps K w ds vs) : Rps K w ds.dropLast vs.dropLast := by
  rw [List.dropLast_eq_take, List.dropLast_eq_take, ← RepL.length r]
  exact RepL.take _ r
theorem pop_mtd (K : PySem.W.Frag) : MtD K rPop mPop := fun w x xs vx vs Q ok rx rs h => by
  unfold mPop at h
  cases e1 : lstAt w.h x with
  | none => rw [e1] at h; exact h.elim
  | some p =>
    obtain ⟨n, l⟩ := p
    obtain ⟨rfl, en, rfl, us, g1, g2⟩ := lstAt_rp ok rx e1
    rw [e1] at h
    simp only [Option.bind_some] at h
    cases rs with
    | cons _ _ => exact h.elim
    | nil =>
      simp only [List.isEmpty_nil, if_true] at h
      cases e2 : l[l.length - 1]? with
      | none => rw [e2] at h; exact h.elim
      | some d =>
        rw [e2] at h
        obtain ⟨v, ev, rv⟩ := RepL.get g2 e2
        obtain ⟨ok', x'⟩ := ok.putL (ds := l.dropLast) (vs := us.dropLast) en (RepL.dropLast g2)
        exact ⟨_, us, v, rfl, rfl, g1, by rw [← RepL.length g2]; exact ev, h (w.putL n _ _) v ok' rfl x' (x'.rp rv)⟩
def mExtend (x : D) (xs : List D) (h : VH) : Option (D × VH) := (lstAt h x).bind fun p => ((one xs).bind (lstAt h)).bind fun q => if p.2.length + q.2.length ≤ sizeLine then some (.non, h.set p.1 (.lst (p.2 ++ q.2))) else none
theorem extend_mtd (K : PySem.W.Frag) : MtD K rExtend mExtend := fun w x xs vx vs Q ok rx rs h => by
  unfold mExtend at h
  cases e1 : lstAt w.h x with
  | none => rw [e1] at h; exact h.elim
  | some p =>
    obtain ⟨n, l⟩ := p
    obtain ⟨rfl, en, rfl, us, g1, g2⟩ := lstAt_rp ok rx e1
    rw [e1] at h
    simp only [Option.bind_some] at h
    cases e2 : one xs with
    | none => rw [e2] at h; exact h.elim
    | some d =>
      obtain ⟨v, _, rfl, rd⟩ := one_rps rs e2
      rw [e2] at h
      simp only [Option.bind_some] at h
      cases e3 : lstAt w.h d with
      | none => rw [e3] at h; exact h.elim
      | some q =>
        obtain ⟨m, k⟩ := q
        obtain ⟨rfl, em, rfl, zs, g3, g4⟩ := lstAt_rp ok rd e3
        rw [e3] at h
        simp only [Option.bind_some] at h
        by_cases hl : l.length + k.length ≤ sizeLine
        · rw [if_pos hl] at h
          obtain ⟨ok', x'⟩ := ok.putL (ds := l ++ k) (vs := us ++ zs) en (g2.append g4)
          exact ⟨_, _, us, zs, rfl, rfl, g1, g3, by rw [← RepL.length g2, ← RepL.length g4]; exact hl, h (w.putL n _ _) _ ok' rfl x' .non⟩
        · rw [if_neg hl] at h
          exact h.elim

/-! ### slices -/
abbrev VO := VS → VH → Res (Option Int × VH)
def oNone : VO := fun _ h => .ok (none, h)
def oSome (f : VE) : VO := fun s h => (f s h).bind fun p => match intD p.1 with
  | some i => .ok (some i, p.2)
  | none => .bad
def PstI' (X : Cx) (W : WX) (w : Wd) (r : Res (Option Int × VH)) (Q : Option Int → Hp → Prop) : Prop :=
  match r with
  | .ok p => ∀ w', w'.Ok X.K → w'.h = p.2 → Wd.Ext X.K w w' → Q p.1 w'.H
  | .ex x s h => PstX X W w x s h
  | .bad => False
def gO (X : Cx) (W : WX) (f : VO) : TO := fun σ H Q => ∃ w s, w.H = H ∧ w.Ok X.K ∧ Slots X.K w s σ ∧ PstI' X W w (f s w.h) Q
/-- a slice's items -/
def cutD (l : List D) (lo hi : Option Int) : List D := (l.drop (HT.sIx l.length 0 lo)).take (HT.sIx l.length l.length hi - HT.sIx l.length 0 lo)
def slD (x : D) (lo hi : Option Int) (h : VH) : Option (D × VH) := match x with
  | .tup l => some (.tup (cutD l lo hi), h)
  | .ref n => (lk h n).map fun l => (.ref h.length, h ++ [.lst (cutD l lo hi)])
  | _ => none
def vSl (x : VE) (lo hi : VO) : VE := fun s h => (x s h).bind fun p => (lo s p.2).bind fun q => (hi s q.2).bind fun r => lift (slD p.1 q.1 r.1 r.2)
section
variable {X : Cx} {W : WX} {e : Expr} {f : VE} {lo hi : Option Expr} {fl fh : VO} {pos p2 : Pos}
theorem POw {o : Option Expr} {t t' : TO} (h : PO X o t) (i : ∀ σ H Q, t' σ H Q → t σ H Q) : PO X o t' := ⟨fun pins s σ H Q I q => h.run pins s σ H Q I (i σ H Q q)⟩
theorem qo0 : PO X none (gO X W oNone) := POw po_none fun σ H Q ⟨w, s, hH, ok, sl, hp⟩ => by
  subst hH
  exact hp w ok rfl (.refl w)
theorem wO (w : Wd) (Q : Option Int → Hp → Prop) : Wants X W w (fun r => PstI' X W w r Q) := ⟨id, fun _ _ _ h => h⟩
theorem qo (h : PE X e (gE X W f)) : PO X (some e) (gO X W (oSome f)) := POw (po_some h) fun σ H Q ⟨w, s, hH, ok, sl, hp⟩ => by
  subst hH
  refine gE.seq ok sl (wO w Q) hp fun d w1 v ok1 x1 sl1 r1 hp1 => ?_
  simp only at hp1
  cases e1 : intD d with
  | none => rw [e1] at hp1; exact hp1.elim
  | some i =>
    rw [e1] at hp1
    exact ⟨i, (intD_rp r1 e1).2, hp1 w1 ok1 rfl x1⟩
theorem gO.seq {f : VO} {β : Type} {k : Option Int × VH → Res β} {P : Res β → Prop} {w : Wd} {s : VS} {σ : L2.St} {Q : Option Int → Hp → Prop} (ok : w.Ok X.K) (sl : Slots X.K w s σ) (hP : Wants X W w P) (hp : P ((f s w.h).bind k))
    (hq : ∀ d w1, w1.Ok X.K → Wd.Ext X.K w w1 → Slots X.K w1 s σ → P (k (d, w1.h)) → Q d w1.H) : gO X W f σ w.H Q := by
  refine ⟨w, s, rfl, ok, sl, ?_⟩
  cases e : f s w.h with
  | ok p =>
    rw [e] at hp
    obtain ⟨p1, p2⟩ := p
    intro w' ok' q x
    refine hq p1 w' ok' x (sl.ext x) ?_
    rw [show w'.h = p2 from q]
    exact hp
  | ex x s h => rw [e] at hp; exact hP.ex _ _ _ hp
  | bad => rw [e] at hp; exact (hP.bad hp).elim
theorem cut_rps {K : PySem.W.Frag} {w : Wd} {ds : List D} {vs : List V} (r : Rps K w ds vs) (lo hi : Option Int) : Rps K w (cutD ds lo hi) (cutV vs lo hi) := by
  unfold cutD cutV
  rw [← RepL.length r]
  exact (RepL.drop _ r).take _
theorem qSl (he : PE X e (gE X W f)) (hl : PO X lo (gO X W fl)) (hu : PO X hi (gO X W fh)) : PE X (.Subscript e (.Slice lo hi none p2) pos) (gE X W (vSl f fl fh)) :=
  PEw (pe_slice (SlR.or sl_list sl_tupA) he hl hu) fun σ H Q ⟨w, s, hH, ok, sl, hp⟩ => by
    subst hH
    refine gE.seq ok sl (wE w Q) hp fun d w1 v ok1 x1 sl1 r1 hp1 => ?_
    refine gO.seq ok1 sl1 ((wE w Q).mono x1) hp1 fun i w2 ok2 x2 sl2 hp2 => ?_
    refine gO.seq ok2 sl2 ((wE w Q).mono (x1.trans x2)) hp2 fun j w3 ok3 x3 sl3 hp3 => ?_
    have r3 := (x2.trans x3).rp r1
    have hp3 := (PstE.lift hp3).mono ((x1.trans x2).trans x3)
    unfold slD at hp3
    cases r3 with
    | @tup a vs ds hq rr =>
      simp only at hp3
      refine .inr ⟨a, vs, rfl, hq, fun z => ?_, fun z p hn => ?_⟩
      · have e : cutD ds i j = ds := by
          unfold cutD
          rw [RepL.length rr, z.1, z.2]
          simp [← RepL.length rr]
        rw [e] at hp3
        exact hp3 w3 _ ok3 rfl (.refl w3) (.tup hq rr)
      · exact hp3 (w3.tupAt p (.tup _)) _ (ok3.tupAt hn) rfl (Wd.ext_tupAt hn) (.tup (SqT.of upd_same) ((Wd.ext_tupAt hn).rps (cut_rps rr i j)))
    | @ref n hn =>
      simp only at hp3
      cases el : lk w3.h n with
      | none => rw [el] at hp3; exact hp3.elim
      | some l =>
        rw [el] at hp3
        obtain ⟨us, h1, h2⟩ := lk_sq ok3 el
        exact .inl ⟨_, us, rfl, h1, fun p hq => hp3 (w3.newL p _ _) _ (ok3.newL hq (cut_rps h2 i j)) rfl (Wd.ext_newL hq) at_newL⟩
    | _ => exact hp3.elim
end

/-! ### chains of two comparisons -/
def vChain (f g : D → D → VH → Option (D × VH)) (a b c : VE) : VE := fun s h => (a s h).bind fun p => (b s p.2).bind fun q => (lift (f p.1 q.1 q.2)).bind fun r => match boolD r.1 with
  | some true => (c s r.2).bind fun u => lift (g q.1 u.1 u.2)
  | some false => .ok (.bl false, r.2)
  | none => .bad
section
variable {X : Cx} {W : WX} {a b c : Expr} {fa fb fc : VE} {pos : Pos}
theorem chain_red {r r' : R2} {f g : D → D → VH → Option (D × VH)} (hf : OpD X.K r f) (hg : OpD X.K r' g) {σ : L2.St} {H : Hp} {Q : VK} (h : gE X W (vChain f g fa fb fc) σ H Q) : tChain r r' (gE X W fa) (gE X W fb) (gE X W fc) σ H Q := by
  obtain ⟨w, s, hH, ok, sl, hp⟩ := h
  subst hH
  refine gE.seq ok sl (wE w Q) hp fun d w1 v ok1 x1 sl1 r1 hp1 => ?_
  refine gE.seq ok1 sl1 ((wE w Q).mono x1) hp1 fun d2 w2 v2 ok2 x2 sl2 r2 hp2 => ?_
  refine hf w2 d d2 v v2 _ ok2 (x2.rp r1) r2 ?_
  simp only at hp2
  cases e : f d d2 w2.h with
  | none => rw [e] at hp2; exact hp2.elim
  | some p =>
    obtain ⟨z, h3⟩ := p
    rw [e] at hp2
    simp only [lift_some, Res.ok_bind] at hp2
    intro w3 vz ok3 e3 x3 rz
    have e3 : w3.h = h3 := e3
    subst e3
    cases rz with
    | bl k =>
      refine ⟨k, rfl, ?_⟩
      cases k with
      | false =>
        simp only [boolD, Bool.false_eq_true, if_false] at hp2 ⊢
        exact hp2 w3 _ ok3 rfl ((x1.trans x2).trans x3) (.bl _)
      | true =>
        simp only [boolD, if_true] at hp2 ⊢
        refine gE.seq ok3 (sl2.ext x3) ((wE w Q).mono ((x1.trans x2).trans x3)) hp2 fun d4 w4 v4 ok4 x4 sl4 r4 hp4 => ?_
        exact hg w4 d2 d4 v2 v4 Q ok4 ((x3.trans x4).rp r2) r4 ((PstE.lift hp4).mono (((x1.trans x2).trans x3).trans x4))
    | _ => exact hp2.elim
theorem qChain {op op' : CmpOp} {r r' : R2} {f g : D → D → VH → Option (D × VH)} (ho : OpR X (compareOp op) r) (hf : OpD X.K r f) (ho' : OpR X (compareOp op') r') (hg : OpD X.K r' g) (ha : PE X a (gE X W fa)) (hb : PE X b (gE X W fb)) (hc : PE X c (gE X W fc))
    (hm : lastMarks [op, op'] [b, c] = false := by with_unfolding_all rfl) : PE X (.Compare a [op, op'] [b, c] pos) (gE X W (vChain f g fa fb fc)) := PEw (pe_chain ho ho' ha hb hc hm) fun _ _ _ h => chain_red hf hg h
end

/-! ### a, b = x, y; a, b, c = x, y, z -/
def vPar3 (i j l : Nat) (a : VA) : VSt := fun s h => (a s h).bind fun p => match p.1 with
  | [x, y, z] => .ok (.nx, ((s.set i (some x)).set j (some y)).set l (some z), p.2)
  | _ => .bad
section
variable {X : Cx} {W : WX} {i j l : Nat} {x y z : Str} {a b c : Expr} {f : VA} {px py pz pt pos : Pos} {kt : Nat} {k2 : Nat} {pt2 : Pos}
theorem qPar2 (hc : X.calm = true) (hN : X.N.Nodup) (ha : PA X [a, b] (gA X W f)) (hi : X.N[i]? = some x := by rfl) (hj : X.N[j]? = some y := by rfl) (hij : i ≠ j := by decide)
    (hx : X.env.scope.names.lookup x = some .local := by rfl) (hy : X.env.scope.names.lookup y = some .local := by rfl)
    (hw : swappedStores [.Tuple [.Name x px, .Name y py] kt pt] (.Tuple [a, b] k2 pt2) X.env = pure (some [x, y]) := by rfl)
    (hs : swapsWithSole [.Tuple [.Name x px, .Name y py] kt pt] (.Tuple [a, b] k2 pt2) pos.line X.env = pure false := by rfl) :
    PS X (.Assign [.Tuple [.Name x px, .Name y py] kt pt] (.Tuple [a, b] k2 pt2) pos) (gS X W (vPar i j f)) :=
  qPar hc hN hi hj hij ha fun t h => ps_par hc hN hi hj hij hx hy h hw hs
theorem qPar3 (hc : X.calm = true) (hN : X.N.Nodup) (ha : PA X [a, b, c] (gA X W f)) (hi : X.N[i]? = some x := by rfl) (hj : X.N[j]? = some y := by rfl) (hl : X.N[l]? = some z := by rfl) (hij : i ≠ j := by decide) (hil : i ≠ l := by decide) (hjl : j ≠ l := by decide)
    (hx : X.env.scope.names.lookup x = some .local := by rfl) (hy : X.env.scope.names.lookup y = some .local := by rfl) (hz : X.env.scope.names.lookup z = some .local := by rfl)
    (hw : swappedStores [.Tuple [.Name x px, .Name y py, .Name z pz] kt pt] (.Tuple [a, b, c] k2 pt2) X.env = pure (some [x, y, z]) := by rfl)
    (hs : swapsWithSole [.Tuple [.Name x px, .Name y py, .Name z pz] kt pt] (.Tuple [a, b, c] k2 pt2) pos.line X.env = pure false := by rfl) :
    PS X (.Assign [.Tuple [.Name x px, .Name y py, .Name z pz] kt pt] (.Tuple [a, b, c] k2 pt2) pos) (gS X W (vPar3 i j l f)) :=
  PSw (ps_par3 hc hN hi hj hl hij hil hjl hx hy hz ha hw hs) fun D σ H ⟨w, s, hH, ok, sl, hp⟩ => by
    subst hH
    refine gA.seq ok sl (wS w D) hp fun d w1 v ok1 x1 sl1 r1 hp1 => ?_
    cases r1 with
    | nil => exact hp1.elim
    | cons r1 rr =>
      cases rr with
      | nil => exact hp1.elim
      | cons r2 rr =>
        cases rr with
        | nil => exact hp1.elim
        | cons r3 rr =>
          cases rr with
          | cons _ _ => exact hp1.elim
          | nil => exact ⟨_, _, _, rfl, hp1 w1 _ ok1 rfl x1 (((sl1.set i r1).set j r2).set l r3)⟩
end
end Vq

/-! Part 13: what the printed derivations use. -/
namespace Vq
open PySem PySem.Spec PyProof.Rows L2

theorem At.blk {X : Cx} {W : WX} {k : Nat} (a : At X W k) {s : Shared} {H : Hp} {scope : Scope} {cenv : Env} {fp : List Addr} : At (X.blk s H scope cenv fp) W0 k :=
  ⟨a.room, a.gd, fun u s' ⟨_, _, _, _, _, _, _, _, _, _, _, _, _, _, _, _, z⟩ => z.elim, PassesOwn.never⟩
theorem At.rp {X : Cx} {W : WX} {k : Nat} (a : At X W k) : X.A.units + 70 < cLine := by
  have := a.room.un
  omega
theorem At.hu {X : Cx} {W : WX} {k : Nat} (a : At X W k) : X.A.units + 64 < cLine := a.room.units

theorem bindP_of {K : PySem.W.Frag} {x qual : Str} {st : Stmt} {f : Addr} {fd : FuncData} {ps : List Str} (F : Fun K x qual st f fd)
    (h : ∀ (kV doc pm : Value) (an : Option Addr) (cdv ct : Value) (us : List Value), us.length = ps.length → bindArgs (PySem.W.fnOf x qual (defArgs st) (defBody st) (defScope st) .none kV doc pm an cdv ct) ⟨us, []⟩ = pure (ps.zip us)) : BindP K fd ps := by
  obtain ⟨oc, od, kV, doc, pm, an, cdv, ct, osl, rfl, _, _⟩ := F.ex
  exact fun us hl => h kV doc pm an cdv ct us hl

/-- the values in the parameters' order -/
def permL (ix : List Nat) {α : Type} (us ws : List α) : List α := ix.filterMap fun i => (us ++ ws)[i]?
theorem get_reps {K : PySem.W.Frag} {w : Wd} {ds : List D} {vs : List V} (r : Rps K w ds vs) : ∀ ix : List Nat, Rps K w (ix.filterMap fun i => ds[i]?) (ix.filterMap fun i => vs[i]?)
  | [] => .nil
  | i :: ix => by
    have ih := get_reps r ix
    cases e : ds[i]? with
    | none =>
      have e2 : vs[i]? = none := List.getElem?_eq_none (by rw [← RepL.length r]; exact List.getElem?_eq_none_iff.mp e)
      simp only [List.filterMap_cons, e, e2]
      exact ih
    | some d =>
      obtain ⟨v, e2, rv⟩ := RepL.get r e
      simp only [List.filterMap_cons, e, e2]
      exact .cons rv ih
theorem get_vals {vs : List V} {us : List Value} (r : Vals vs us) : ∀ ix : List Nat, Vals (ix.filterMap fun i => vs[i]?) (ix.filterMap fun i => us[i]?)
  | [] => .nil
  | i :: ix => by
    have ih := get_vals r ix
    cases e : vs[i]? with
    | none =>
      simp only [List.filterMap_cons, e, r.none_of e]
      exact ih
    | some v =>
      obtain ⟨u, e2, ru⟩ := r.get e
      simp only [List.filterMap_cons, e, e2]
      exact .cons ru ih
theorem bindK_of {K : PySem.W.Frag} {x qual : Str} {st : Stmt} {f : Addr} {fd : FuncData} {ps : List Str} (F : Fun K x qual st f fd) (ks : List Str) (n : Nat) (ix : List Nat)
    (h : ∀ (kV doc pm : Value) (an : Option Addr) (cdv ct : Value) (us ws : List Value), us.length = n → ws.length = ks.length →
      bindArgs (PySem.W.fnOf x qual (defArgs st) (defBody st) (defScope st) .none kV doc pm an cdv ct) ⟨us, ks.zip ws⟩ = pure (ps.zip (permL ix us ws))) : BindK fd ps ks n (permL ix) := by
  obtain ⟨oc, od, kV, doc, pm, an, cdv, ct, osl, rfl, _, _⟩ := F.ex
  exact ⟨fun us ws h1 h2 => h kV doc pm an cdv ct us ws h1 h2, fun K w ds es vs zs r1 r2 => get_reps (r1.append r2) ix, fun vs zs us ws r1 r2 => get_vals (r1.append r2) ix⟩
/-- the keywords' order as it stands in the printed text -/
def kwP (n m np : Nat) (ix : List Nat) : List D → List D → List D := fun a b => if a.length = n ∧ b.length = m then permL ix a b else List.replicate (np + 1) .non
end Vq

/-! Part 14: reckoning with denotations. -/
namespace Vq
open PySem

section
variable (s : VS) (h : VH)
@[simp] theorem vVar_ap (i : Nat) : vVar i s h = match s[i]? with
  | some (some d) => .ok (d, h)
  | _ => .bad := rfl
@[simp] theorem vC_ap (d : D) : vC d s h = .ok (d, h) := rfl
@[simp] theorem vNil_ap : vNil s h = .ok ([], h) := rfl
@[simp] theorem vCons_ap (f : VE) (g : VA) : vCons f g s h = (f s h).bind fun p => (g s p.2).bind fun q => .ok (p.1 :: q.1, q.2) := rfl
@[simp] theorem vTup_ap (g : VA) : vTup g s h = (g s h).bind fun p => if p.1.length ≤ sizeLine then .ok (.tup p.1, p.2) else .bad := rfl
@[simp] theorem vLst_ap (g : VA) : vLst g s h = (g s h).bind fun p => if p.1.length ≤ sizeLine then .ok (.ref p.2.length, p.2 ++ [.lst p.1]) else .bad := rfl
@[simp] theorem vOp_ap (f : D → D → VH → Option (D × VH)) (a b : VE) : vOp f a b s h = (a s h).bind fun p => (b s p.2).bind fun q => lift (f p.1 q.1 q.2) := rfl
@[simp] theorem vTr_ap (f : VE) : vTr f s h = (f s h).bind fun p => match p.1 with
  | .bl b => .ok (b, p.2)
  | _ => .bad := rfl
@[simp] theorem vNotT_ap (f : VT) : vNotT f s h = (f s h).bind fun p => .ok (!p.1, p.2) := rfl
@[simp] theorem vAndT_ap (f g : VT) : vAndT f g s h = (f s h).bind fun p => if p.1 = true then g s p.2 else .ok (false, p.2) := rfl
@[simp] theorem vOrT_ap (f g : VT) : vOrT f g s h = (f s h).bind fun p => if p.1 = true then .ok (true, p.2) else g s p.2 := rfl
@[simp] theorem vAnd_ap (f g : VE) : vAnd f g s h = (f s h).bind fun p => match p.1 with
  | .bl true => g s p.2
  | .bl false => .ok (.bl false, p.2)
  | _ => .bad := rfl
@[simp] theorem vOr_ap (f g : VE) : vOr f g s h = (f s h).bind fun p => match p.1 with
  | .bl true => .ok (.bl true, p.2)
  | .bl false => g s p.2
  | _ => .bad := rfl
@[simp] theorem vNot_ap (f : VE) : vNot f s h = (f s h).bind fun p => match p.1 with
  | .bl b => .ok (.bl (!b), p.2)
  | _ => .bad := rfl
@[simp] theorem vIf_ap (c : VT) (f g : VE) : vIf c f g s h = (c s h).bind fun p => if p.1 = true then f s p.2 else g s p.2 := rfl
@[simp] theorem vUn_ap (f : D → VH → Option (D × VH)) (a : VE) : vUn f a s h = (a s h).bind fun p => lift (f p.1 p.2) := rfl
@[simp] theorem vBl_ap (f : List D → VH → Option (D × VH)) (a : VA) : vBl f a s h = (a s h).bind fun p => lift (f p.1 p.2) := rfl
@[simp] theorem vSeq_ap (f g : VSt) : vSeq f g s h = (f s h).bind fun p => match p with
  | (.nx, s', h') => g s' h'
  | q => .ok q := rfl
@[simp] theorem vPass_ap : vPass s h = .ok (.nx, s, h) := rfl
@[simp] theorem vBreak_ap : vBreak s h = .ok (.bk, s, h) := rfl
@[simp] theorem vCont_ap : vCont s h = .ok (.ct, s, h) := rfl
@[simp] theorem vRet_ap (f : VE) : vRet f s h = (f s h).bind fun p => .ok (.rt p.1, s, p.2) := rfl
@[simp] theorem vRetN_ap : vRetN s h = .ok (.rt .non, s, h) := rfl
@[simp] theorem vDrop_ap (f : VE) : vDrop f s h = (f s h).bind fun p => .ok (.nx, s, p.2) := rfl
@[simp] theorem vIfS_ap (c : VT) (f g : VSt) : vIfS c f g s h = (c s h).bind fun p => if p.1 = true then f s p.2 else g s p.2 := rfl
@[simp] theorem vAsg_ap (f : VE) (g : VG) : vAsg f g s h = (f s h).bind fun p => (g p.1 s p.2).bind fun q => .ok (.nx, q.1, q.2) := rfl
@[simp] theorem gName_ap (i : Nat) (d : D) : gName i d s h = .ok (s.set i (some d), h) := rfl
@[simp] theorem gsNil_ap : gsNil [] s h = .ok (s, h) := rfl
@[simp] theorem gsCons_ap (g : VG) (k : VGs) (d : D) (r : List D) : gsCons g k (d :: r) s h = (g d s h).bind fun p => k r p.1 p.2 := rfl
@[simp] theorem gTupl_ap (n : Nat) (k : VGs) (l : List D) : gTupl n k (.tup l) s h = if l.length = n then k l s h else .bad := rfl
@[simp] theorem gSubs_ap (f : D → D → D → VH → Option VH) (o i : VE) (d : D) : gSubs f o i d s h = (o s h).bind fun p => (i s p.2).bind fun q => (lift (f p.1 q.1 d q.2)).bind fun h' => .ok (s, h') := rfl
@[simp] theorem vPar_ap (i j : Nat) (a : VA) : vPar i j a s h = (a s h).bind fun p => match p.1 with
  | [x, y] => .ok (.nx, (s.set i (some x)).set j (some y), p.2)
  | _ => .bad := rfl
@[simp] theorem vPar3_ap (i j l : Nat) (a : VA) : vPar3 i j l a s h = (a s h).bind fun p => match p.1 with
  | [x, y, z] => .ok (.nx, ((s.set i (some x)).set j (some y)).set l (some z), p.2)
  | _ => .bad := rfl
@[simp] theorem vIt_ap (f : VE) : vIt f s h = (f s h).bind fun p => match srcOf p.1 with
  | some src => .ok (src, p.2)
  | none => .bad := rfl
@[simp] theorem vMt_ap (T : String) (f : D → List D → VH → Option (D × VH)) (o : VE) (a : VA) : vMt T f o a s h = (o s h).bind fun p => if tyD T p.1 p.2 = true then (a s p.2).bind fun q => lift (f p.1 q.1 q.2) else .bad := rfl
@[simp] theorem vSl_ap (x : VE) (lo hi : VO) : vSl x lo hi s h = (x s h).bind fun p => (lo s p.2).bind fun q => (hi s q.2).bind fun r => lift (slD p.1 q.1 r.1 r.2) := rfl
@[simp] theorem oNone_ap : oNone s h = .ok (none, h) := rfl
@[simp] theorem oSome_ap (f : VE) : oSome f s h = (f s h).bind fun p => match intD p.1 with
  | some i => .ok (some i, p.2)
  | none => .bad := rfl
@[simp] theorem vChain_ap (f g : D → D → VH → Option (D × VH)) (a b c : VE) : vChain f g a b c s h = (a s h).bind fun p => (b s p.2).bind fun q => (lift (f p.1 q.1 q.2)).bind fun r => match boolD r.1 with
  | some true => (c s r.2).bind fun u => lift (g q.1 u.1 u.2)
  | some false => .ok (.bl false, r.2)
  | none => .bad := rfl
@[simp] theorem vCall_ap (n : Nat) (F : Fn) (a : VA) : vCall n F a s h = (a s h).bind fun p => if p.1.length = n then callR s (F p.1 p.2) else .bad := rfl
@[simp] theorem vCallK_ap (n : Nat) (F : Fn) (pl : List D → List D → List D) (a k : VA) : vCallK n F pl a k s h = (a s h).bind fun p => (k s p.2).bind fun q => if (pl p.1 q.1).length = n then callR s (F (pl p.1 q.1) q.2) else .bad := rfl
@[simp] theorem vYes_ap : vYes s h = .ok (true, h) := rfl
@[simp] theorem vLRev_ap (a : VA) : vLRev a s h = (a s h).bind fun p => match (one p.1) with
  | some (.ref n) => match lk p.2 n with
    | some l => .ok (.ref p.2.length, p.2 ++ [.lst l.reverse])
    | none => .bad
  | _ => .bad := rfl
end

/-! ### values -/
@[simp] theorem intD_i (i : Int) : intD (.int i) = some i := rfl
@[simp] theorem one_1 (d : D) : one [d] = some d := rfl
@[simp] theorem two_2 (d e : D) : two [d, e] = some (d, e) := rfl
@[simp] theorem int1_1 (i : Int) : int1 [.int i] = some i := rfl
@[simp] theorem int2_2 (i j : Int) : int2 [.int i, .int j] = some (i, j) := rfl
@[simp] theorem int2_1 (d : D) : int2 [d] = none := rfl
@[simp] theorem boolD_b (b : Bool) : boolD (.bl b) = some b := rfl
@[simp] theorem srcOf_t (l : List D) : srcOf (.tup l) = some fun _ => some l := rfl
@[simp] theorem srcOf_r (n : Nat) : srcOf (.ref n) = some fun h => lk h n := rfl
@[simp] theorem seqOf_t (h : VH) (l : List D) : seqOf h (.tup l) = some l := rfl
@[simp] theorem seqOf_r (h : VH) (n : Nat) : seqOf h (.ref n) = lk h n := rfl
@[simp] theorem aAdd_i (i j : Int) (h : VH) : aAdd (.int i) (.int j) h = some (.int (i + j), h) := rfl
@[simp] theorem aSub_i (i j : Int) (h : VH) : aSub (.int i) (.int j) h = some (.int (i - j), h) := rfl
@[simp] theorem dAdd_i (i j : Int) (h : VH) : dAdd (.int i) (.int j) h = some (.int (i + j), h) := rfl
@[simp] theorem dAdd_t (a b : List D) (h : VH) : dAdd (.tup a) (.tup b) h = if a.length + b.length ≤ sizeLine then some (.tup (a ++ b), h) else none := by
  unfold dAdd orD aAdd ii tAddT tAddL tAddS
  by_cases c : a.length + b.length ≤ sizeLine <;> simp [c]
@[simp] theorem aLt_i (i j : Int) (h : VH) : aLt (.int i) (.int j) h = some (.bl (decide (i < j)), h) := rfl
@[simp] theorem aLe_i (i j : Int) (h : VH) : aLe (.int i) (.int j) h = some (.bl (decide (i ≤ j)), h) := rfl
@[simp] theorem aGt_i (i j : Int) (h : VH) : aGt (.int i) (.int j) h = some (.bl (decide (j < i)), h) := rfl
@[simp] theorem aGe_i (i j : Int) (h : VH) : aGe (.int i) (.int j) h = some (.bl (decide (j ≤ i)), h) := rfl
@[simp] theorem uNeg_i (i : Int) (h : VH) : uNeg (.int i) h = some (.int (-i), h) := rfl
theorem aMod_i {i j : Int} {h : VH} (hj : j ≠ 0) : aMod (.int i) (.int j) h = some (.int (i.fmod j), h) := by
  simp [aMod, ii, hj]
theorem aFdv_i {i j : Int} {h : VH} (hj : divOk j = true) : aFdv (.int i) (.int j) h = some (.int (i.fdiv j), h) := by
  simp [aFdv, ii, hj]
theorem dMul_i {i j : Int} {h : VH} (hj : mulOk i j = true) : dMul (.int i) (.int j) h = some (.int (i * j), h) := by
  simp [dMul, orD, aMul, ii, hj]
theorem aPow_i {i j : Int} {h : VH} (hj : powOk i j = true) : aPow (.int i) (.int j) h = some (.int (i ^ j.toNat), h) := by
  simp [aPow, ii, hj]
@[simp] theorem dIx_i (x : D) (i : Int) (h : VH) : dIx x (.int i) h = (seqOf h x).bind fun l => (L2.atI l i).map fun d => (d, h) := rfl
@[simp] theorem bInt_i (i : Int) (h : VH) : bInt [.int i] h = some (.int i, h) := rfl
@[simp] theorem bInt_b (b : Bool) (h : VH) : bInt [.bl b] h = some (.int (if b = true then 1 else 0), h) := rfl
@[simp] theorem bAbs_i (i : Int) (h : VH) : bAbs [.int i] h = some (.int (if i < 0 then -i else i), h) := rfl
@[simp] theorem bTup_s (d : D) (h : VH) : bTup [d] h = ((seqOf h d).map .tup).map fun d => (d, h) := rfl
@[simp] theorem bList_s (d : D) (h : VH) : bList [d] h = (seqOf h d).map fun l => (.ref h.length, h ++ [.lst l]) := rfl
@[simp] theorem bLen_t (l : List D) (h : VH) : bLen [.tup l] h = some (.int l.length, h) := rfl
@[simp] theorem bLen_r (n : Nat) (h : VH) : bLen [.ref n] h = (lk h n).map fun l => (.int l.length, h) := by
  unfold bLen pureB
  simp [one]
  rfl
@[simp] theorem dIsN_n (x : D) (h : VH) : dIsN x .non h = some (.bl (isNon x), h) := rfl
@[simp] theorem dNotN_n (x : D) (h : VH) : dNotN x .non h = some (.bl (!isNon x), h) := rfl
@[simp] theorem isNon_n : isNon .non = true := rfl
@[simp] theorem isNon_t (l : List D) : isNon (.tup l) = false := rfl
@[simp] theorem isNon_i (i : Int) : isNon (.int i) = false := rfl
@[simp] theorem permL_ap (ix : List Nat) {α : Type} (us ws : List α) : permL ix us ws = ix.filterMap fun i => (us ++ ws)[i]? := rfl
@[simp] theorem kwP_ap (n m np : Nat) (ix : List Nat) (a b : List D) : kwP n m np ix a b = if a.length = n ∧ b.length = m then permL ix a b else List.replicate (np + 1) .non := rfl

section
variable {s : VS} {h h1 : VH} {a : VA}
theorem vRng1_of {j : Int} (e : a s h = .ok ([.int j], h1)) (hj : inRng j = true) : vRng1 a s h = .ok (fun _ => some (rangeD 0 1 j.toNat), h1) := by
  unfold vRng1
  rw [e]
  simp only [Res.ok_bind, int1_1, hj, if_true]
theorem vRng2_of {i j : Int} (e : a s h = .ok ([.int i, .int j], h1)) (hi : inRng i = true) (hj : inRng j = true) : vRng2 a s h = .ok (fun _ => some (rangeD i 1 (j - i).toNat), h1) := by
  unfold vRng2
  rw [e]
  simp only [Res.ok_bind, int2_2, hi, hj, Bool.and_self, if_true]
theorem vEnum_of {d : D} {src : VH → Option (List D)} (e : a s h = .ok ([d], h1)) (es : srcOf d = some src) : vEnum a s h = .ok (fun h => (src h).map enumD, h1) := by
  unfold vEnum
  rw [e]
  simp only [Res.ok_bind, one_1, Option.bind_some, es]
theorem vZip_of {d e : D} {src : VH → Option (List D)} (e1 : a s h = .ok ([d, e], h1)) (es : zipSrc (d, e) = some src) : vZip a s h = .ok (src, h1) := by
  unfold vZip
  rw [e1]
  simp only [Res.ok_bind, two_2, Option.bind_some, es]
end

/-! ### heaps that grow at their end -/
@[simp] theorem lk_at (h : VH) (l : List D) (r : VH) : lk (h ++ .lst l :: r) h.length = some l := by simp [lk]
@[simp] theorem lk_at1 (h : VH) (c : Cell) (l : List D) (r : VH) : lk (h ++ c :: .lst l :: r) (h.length + 1) = some l := by
  unfold lk
  rw [List.getElem?_append_right (by omega)]
  simp
@[simp] theorem lk_at2 (h : VH) (c c2 : Cell) (l : List D) (r : VH) : lk (h ++ c :: c2 :: .lst l :: r) (h.length + 2) = some l := by
  unfold lk
  rw [List.getElem?_append_right (by omega)]
  simp
theorem lk_app {h : VH} {n : Nat} {l : List D} (e : lk h n = some l) (g : VH) : lk (h ++ g) n = some l := by
  unfold lk at e ⊢
  have : n < h.length := by
    by_cases q : n < h.length
    · exact q
    · rw [List.getElem?_eq_none (by omega)] at e
      cases e
  rw [List.getElem?_append_left this]
  exact e
@[simp] theorem set_at (h : VH) (c d : Cell) (r : VH) : (h ++ c :: r).set h.length d = h ++ d :: r := by
  rw [List.set_append_right _ _ (Nat.le_refl _)]
  simp
@[simp] theorem set_at1 (h : VH) (b c d : Cell) (r : VH) : (h ++ b :: c :: r).set (h.length + 1) d = h ++ b :: d :: r := by
  rw [List.set_append_right _ _ (by omega)]
  simp

/-! ### loops -/
/-- one turn -/
def turn (g : VG) (body : VSt) (d : D) (s : VS) (h : VH) : Res (Out × VS × VH) := (g d s h).bind fun q => body q.1 q.2
/-- a turn that goes on to the next -/
def Goes (r : Res (Out × VS × VH)) (s : VS) (h : VH) : Prop := r = .ok (.nx, s, h) ∨ r = .ok (.ct, s, h)
/-- a for whose turns keep I, or hand something back -/
theorem loop_run {src : VH → Option (List D)} {g : VG} {body : VSt} {xs : List D} (I : Nat → VS → VH → Prop) (R : D → VS → VH → Prop)
    (hsrc : ∀ i s h, I i s h → src h = some xs)
    (step : ∀ i d s h, xs[i]? = some d → I i s h → (∃ s' h', Goes (turn g body d s h) s' h' ∧ I (i + 1) s' h') ∨ ∃ d' s' h', turn g body d s h = .ok (.rt d', s', h') ∧ R d' s' h') :
    ∀ (n i : Nat) (s : VS) (h : VH), i + n = xs.length → I i s h →
      (∃ s' h', loopF src g body n i s h = .ok (.nx, s', h') ∧ I xs.length s' h') ∨ ∃ d' s' h', loopF src g body n i s h = .ok (.rt d', s', h') ∧ R d' s' h'
  | 0, i, s, h, e, hi => by
    have e' : i = xs.length := by omega
    subst e'
    refine .inl ⟨s, h, ?_, hi⟩
    unfold loopF
    rw [hsrc _ _ _ hi]
    simp
  | n + 1, i, s, h, e, hi => by
    have hlt : i < xs.length := by omega
    have ei : xs[i]? = some xs[i] := List.getElem?_eq_getElem hlt
    unfold loopF
    simp only [hsrc _ _ _ hi, ei]
    rcases step i _ s h ei hi with ⟨s', h', go, hi'⟩ | ⟨d', s', h', er, hr⟩
    · have ih := loop_run I R hsrc step n (i + 1) s' h' (by omega) hi'
      unfold turn at go
      cases eg : g xs[i] s h with
      | bad => rw [eg] at go; rcases go with go | go <;> cases go
      | ex _ _ _ => rw [eg] at go; rcases go with go | go <;> cases go
      | ok q =>
        rw [eg] at go
        simp only [Res.ok_bind] at go ⊢
        rcases go with go | go <;> (rw [go]; exact ih)
    · refine .inr ⟨d', s', h', ?_, hr⟩
      unfold turn at er
      cases eg : g xs[i] s h with
      | bad => rw [eg] at er; cases er
      | ex _ _ _ => rw [eg] at er; cases er
      | ok q =>
        rw [eg] at er
        simp only [Res.ok_bind] at er ⊢
        rw [er]
        rfl
theorem for_run {it : VI} {g : VG} {body : VSt} {s : VS} {h h1 : VH} {src : VH → Option (List D)} {xs : List D} (I : Nat → VS → VH → Prop) (R : D → VS → VH → Prop)
    (hit : it s h = .ok (src, h1)) (hsrc : ∀ i s h, I i s h → src h = some xs) (h0 : I 0 s h1)
    (step : ∀ i d s h, xs[i]? = some d → I i s h → (∃ s' h', Goes (turn g body d s h) s' h' ∧ I (i + 1) s' h') ∨ ∃ d' s' h', turn g body d s h = .ok (.rt d', s', h') ∧ R d' s' h') :
    (∃ s' h', vFor it g body s h = .ok (.nx, s', h') ∧ I xs.length s' h') ∨ ∃ d' s' h', vFor it g body s h = .ok (.rt d', s', h') ∧ R d' s' h' := by
  have z := loop_run I R hsrc step xs.length 0 s h1 (by omega) h0
  unfold vFor
  simp only [hit, Res.ok_bind, hsrc _ _ _ h0]
  exact z
/-- .. that hands nothing back -/
theorem for_all {it : VI} {g : VG} {body : VSt} {s : VS} {h h1 : VH} {src : VH → Option (List D)} {xs : List D} (I : Nat → VS → VH → Prop)
    (hit : it s h = .ok (src, h1)) (hsrc : ∀ i s h, I i s h → src h = some xs) (h0 : I 0 s h1)
    (step : ∀ i d s h, xs[i]? = some d → I i s h → ∃ s' h', Goes (turn g body d s h) s' h' ∧ I (i + 1) s' h') :
    ∃ s' h', vFor it g body s h = .ok (.nx, s', h') ∧ I xs.length s' h' := by
  rcases for_run I (fun _ _ _ => False) hit hsrc h0 (fun i d s h e hi => .inl (step i d s h e hi)) with z | ⟨_, _, _, _, z⟩
  · exact z
  · exact z.elim

/-! ### comprehensions -/
/-- a fold that maps -/
def mapS {S α β : Type} (f : S → α → β × S) : List α → S → List β × S
  | [], s => ([], s)
  | a :: r, s => let p := f s a; let q := mapS f r p.2; (p.1 :: q.1, q.2)
theorem mapS_length {S α β : Type} (f : S → α → β × S) : ∀ (l : List α) (s : S), (mapS f l s).1.length = l.length
  | [], _ => rfl
  | a :: r, s => by simp [mapS, mapS_length f r]
/-- a comprehension without a test whose element turns a state; the heap by the state -/
theorem lc_st {S α : Type} {it : VI} {vs : List Nat} {g : VP} {e : VE} {s : VS} {h : VH} {src : VH → Option (List D)} {ys : List α} {c : α → D} (hp : S → VH) (f : S → α → D × S) (st : S)
    (hit : it s h = .ok (src, hp st)) (hlen : ∀ st', (hp st').length = (hp st).length) (hsrc : ∀ st' acc, src (hp st' ++ [.lst acc]) = some (ys.map c)) (hz : ys.length ≤ sizeLine)
    (step : ∀ y ∈ ys, ∀ st' acc, ∃ s', g (c y) (vwipe s vs) = some s' ∧ e s' (hp st' ++ [.lst acc]) = .ok ((f st' y).1, hp (f st' y).2 ++ [.lst acc])) :
    vLc it vs g vYes e s h = .ok (.ref (hp st).length, hp (mapS f ys st).2 ++ [.lst (mapS f ys st).1]) := by
  have gen : ∀ (k i : Nat) (st' : S) (acc : List D), i + k = ys.length → acc.length = i →
      lcF src vs g vYes e (hp st).length s k i (hp st' ++ [.lst acc]) = .ok (hp (mapS f (ys.drop i) st').2 ++ [.lst (acc ++ (mapS f (ys.drop i) st').1)]) := by
    intro k
    induction k with
    | zero =>
      intro i st' acc e1 e2
      unfold lcF
      rw [hsrc]
      simp only
      rw [if_pos (by rw [List.length_map]; omega), List.drop_eq_nil_of_le (by omega)]
      simp [mapS]
    | succ k ih =>
      intro i st' acc e1 e2
      have hlt : i < ys.length := by omega
      obtain ⟨s', eg, ee⟩ := step ys[i] (List.getElem_mem hlt) st' acc
      unfold lcF
      rw [hsrc]
      simp only [List.getElem?_map, List.getElem?_eq_getElem hlt, Option.map_some, eg, vYes_ap, noex_ok, Res.ok_bind, if_true, ee]
      have pa : putAt (hp st).length (f st' ys[i]).1 (hp (f st' ys[i]).2 ++ [.lst acc]) = .ok (hp (f st' ys[i]).2 ++ [.lst (acc ++ [(f st' ys[i]).1])]) := by
        unfold putAt
        rw [← hlen (f st' ys[i]).2]
        simp only [List.getElem?_concat_length]
        rw [if_pos (by omega)]
        rw [set_at]
      rw [pa]
      simp only [Res.ok_bind]
      rw [ih (i + 1) _ _ (by omega) (by simp [e2])]
      rw [List.drop_eq_getElem_cons hlt]
      simp [mapS]
  unfold vLc
  simp only [hit, Res.ok_bind, hsrc]
  rw [show (ys.map c).length = ys.length from List.length_map ..]
  rw [gen ys.length 0 st [] (by omega) rfl]
  simp
/-- .. whose element leaves the heap, with a test -/
theorem lc_pure {α : Type} {it : VI} {vs : List Nat} {g : VP} {t : VT} {e : VE} {s : VS} {h h1 : VH} {src : VH → Option (List D)} {ys : List α} {c : α → D} (p : α → Bool) (f : α → D)
    (hit : it s h = .ok (src, h1)) (hsrc : ∀ acc, src (h1 ++ [.lst acc]) = some (ys.map c)) (hz : ys.length ≤ sizeLine)
    (step : ∀ y ∈ ys, ∀ acc, ∃ s', g (c y) (vwipe s vs) = some s' ∧ t s' (h1 ++ [.lst acc]) = .ok (p y, h1 ++ [.lst acc]) ∧ (p y = true → e s' (h1 ++ [.lst acc]) = .ok (f y, h1 ++ [.lst acc]))) :
    vLc it vs g t e s h = .ok (.ref h1.length, h1 ++ [.lst ((ys.filter p).map f)]) := by
  have gen : ∀ (k i : Nat) (acc : List D), i + k = ys.length → acc.length ≤ i →
      lcF src vs g t e h1.length s k i (h1 ++ [.lst acc]) = .ok (h1 ++ [.lst (acc ++ ((ys.drop i).filter p).map f)]) := by
    intro k
    induction k with
    | zero =>
      intro i acc e1 e2
      unfold lcF
      rw [hsrc]
      simp only
      rw [if_pos (by rw [List.length_map]; omega), List.drop_eq_nil_of_le (by omega)]
      simp
    | succ k ih =>
      intro i acc e1 e2
      have hlt : i < ys.length := by omega
      obtain ⟨s', eg, et, ee⟩ := step ys[i] (List.getElem_mem hlt) acc
      unfold lcF
      rw [hsrc]
      simp only [List.getElem?_map, List.getElem?_eq_getElem hlt, Option.map_some, eg, et, noex_ok, Res.ok_bind]
      rw [List.drop_eq_getElem_cons hlt, List.filter_cons]
      cases hp : p ys[i] with
      | false =>
        simp only [Bool.false_eq_true, if_false]
        exact ih (i + 1) acc (by omega) (by omega)
      | true =>
        simp only [if_true, ee hp, noex_ok, Res.ok_bind]
        have pa : putAt h1.length (f ys[i]) (h1 ++ [.lst acc]) = .ok (h1 ++ [.lst (acc ++ [f ys[i]])]) := by
          unfold putAt
          simp only [List.getElem?_concat_length]
          rw [if_pos (by omega), set_at]
        rw [pa]
        simp only [Res.ok_bind]
        rw [ih (i + 1) _ (by omega) (by simp; omega)]
        simp
  unfold vLc
  simp only [hit, Res.ok_bind, hsrc]
  rw [show (ys.map c).length = ys.length from List.length_map ..]
  rw [gen ys.length 0 [] (by omega) (Nat.le_refl _)]
  simp

theorem le_line {n : Nat} (h : n ≤ 16777216) : n ≤ sizeLine := by
  rw [sizeLine_eq]
  exact h
theorem lt_line {n : Nat} (h : n < 16777216) : n < sizeLine := by
  rw [sizeLine_eq]
  exact h
@[simp] theorem rangeD_one (lo : Int) (n : Nat) : rangeD lo 1 n = (List.range n).map fun (k : Nat) => D.int (lo + (k : Int)) := by
  unfold rangeD
  simp only [Int.mul_one]
/-- over range(n), no test -/
theorem lc_rng1 {a : VA} {vs : List Nat} {g : VP} {e : VE} {s : VS} {h h1 : VH} {n : Int} (f : Nat → D) (ha : a s h = .ok ([.int n], h1)) (h0 : -1000000 ≤ n) (h2 : n ≤ 1000000)
    (step : ∀ k : Nat, (k : Int) < n → ∀ acc, ∃ s', g (.int (k : Int)) (vwipe s vs) = some s' ∧ e s' (h1 ++ [.lst acc]) = .ok (f k, h1 ++ [.lst acc])) :
    vLc (vRng1 a) vs g vYes e s h = .ok (.ref h1.length, h1 ++ [.lst ((List.range n.toNat).map f)]) := by
  have z := lc_pure (it := vRng1 a) (vs := vs) (g := g) (t := vYes) (e := e) (s := s) (h := h) (h1 := h1) (src := fun _ => some (rangeD 0 1 n.toNat)) (ys := List.range n.toNat) (c := fun (k : Nat) => D.int ((0 : Int) + (k : Int))) (fun _ => true) f
    (vRng1_of ha (by unfold inRng; exact decide_eq_true (by omega))) (fun acc => by rw [rangeD_one]) (by rw [List.length_range]; exact le_line (by omega)) (fun k hk acc => by
      have hk' : (k : Int) < n := by
        have := List.mem_range.mp hk
        omega
      obtain ⟨s', e1, e2⟩ := step k hk' acc
      exact ⟨s', by rw [Int.zero_add]; exact e1, rfl, fun _ => e2⟩)
  rw [z, List.filter_eq_self.mpr (fun _ _ => rfl)]
/-- over range(i, j) with a test -/
theorem lc_rng2 {a : VA} {vs : List Nat} {g : VP} {t : VT} {e : VE} {s : VS} {h h1 : VH} {i j : Int} (p : Nat → Bool) (f : Nat → D) (ha : a s h = .ok ([.int i, .int j], h1)) (h0 : -1000000 ≤ i) (h2 : i ≤ 1000000) (h3 : -1000000 ≤ j) (h4 : j ≤ 1000000)
    (step : ∀ k : Nat, i + (k : Int) < j → ∀ acc, ∃ s', g (.int (i + (k : Int))) (vwipe s vs) = some s' ∧ t s' (h1 ++ [.lst acc]) = .ok (p k, h1 ++ [.lst acc]) ∧ (p k = true → e s' (h1 ++ [.lst acc]) = .ok (f k, h1 ++ [.lst acc]))) :
    vLc (vRng2 a) vs g t e s h = .ok (.ref h1.length, h1 ++ [.lst (((List.range (j - i).toNat).filter p).map f)]) :=
  lc_pure (src := fun _ => some (rangeD i 1 (j - i).toNat)) p f
    (vRng2_of ha (by unfold inRng; exact decide_eq_true (by omega)) (by unfold inRng; exact decide_eq_true (by omega))) (fun acc => by rw [rangeD_one]) (by rw [List.length_range]; exact le_line (by omega)) (fun k hk acc => by
      have hk' : i + (k : Int) < j := by
        have := List.mem_range.mp hk
        omega
      exact step k hk' acc)
/-- over a tuple -/
theorem lc_tup {α : Type} {a : VE} {vs : List Nat} {g : VP} {t : VT} {e : VE} {s : VS} {h h1 : VH} {ys : List α} {c : α → D} (p : α → Bool) (f : α → D) (ha : a s h = .ok (.tup (ys.map c), h1)) (hz : ys.length ≤ 16777216)
    (step : ∀ y ∈ ys, ∀ acc, ∃ s', g (c y) (vwipe s vs) = some s' ∧ t s' (h1 ++ [.lst acc]) = .ok (p y, h1 ++ [.lst acc]) ∧ (p y = true → e s' (h1 ++ [.lst acc]) = .ok (f y, h1 ++ [.lst acc]))) :
    vLc (vIt a) vs g t e s h = .ok (.ref h1.length, h1 ++ [.lst ((ys.filter p).map f)]) :=
  lc_pure (src := fun _ => some (ys.map c)) p f (by simp [ha]) (fun _ => rfl) (le_line hz) step
/-- over a list that stands -/
theorem lc_lst {α : Type} {a : VE} {vs : List Nat} {g : VP} {t : VT} {e : VE} {s : VS} {h h1 : VH} {n : Nat} {ys : List α} {c : α → D} (p : α → Bool) (f : α → D) (ha : a s h = .ok (.ref n, h1)) (hn : lk h1 n = some (ys.map c)) (hz : ys.length ≤ 16777216)
    (step : ∀ y ∈ ys, ∀ acc, ∃ s', g (c y) (vwipe s vs) = some s' ∧ t s' (h1 ++ [.lst acc]) = .ok (p y, h1 ++ [.lst acc]) ∧ (p y = true → e s' (h1 ++ [.lst acc]) = .ok (f y, h1 ++ [.lst acc]))) :
    vLc (vIt a) vs g t e s h = .ok (.ref h1.length, h1 ++ [.lst ((ys.filter p).map f)]) :=
  lc_pure (src := fun h => lk h n) p f (by simp [ha]) (fun acc => lk_app hn _) (le_line hz) step
/-- over enumerate of a tuple -/
theorem lc_enum {α : Type} {a : VA} {vs : List Nat} {g : VP} {t : VT} {e : VE} {s : VS} {h h1 : VH} {ys : List α} {c : α → D} (p : α × Nat → Bool) (f : α × Nat → D) (ha : a s h = .ok ([.tup (ys.map c)], h1)) (hz : ys.length ≤ 16777216)
    (step : ∀ y ∈ ys.zipIdx, ∀ acc, ∃ s', g (.tup [.int (y.2 : Int), c y.1]) (vwipe s vs) = some s' ∧ t s' (h1 ++ [.lst acc]) = .ok (p y, h1 ++ [.lst acc]) ∧ (p y = true → e s' (h1 ++ [.lst acc]) = .ok (f y, h1 ++ [.lst acc]))) :
    vLc (vEnum a) vs g t e s h = .ok (.ref h1.length, h1 ++ [.lst ((ys.zipIdx.filter p).map f)]) :=
  lc_pure (src := fun _ => some (enumD (ys.map c))) (c := fun (y : α × Nat) => D.tup [.int (y.2 : Int), c y.1]) p f (vEnum_of ha rfl) (fun _ => by
    unfold enumD
    congr 1
    rw [List.zipIdx_map, List.map_map]
    rfl) (by rw [List.length_zipIdx]; exact le_line hz) step
/-- over zip of two tuples -/
theorem lc_zip {α β : Type} {a : VA} {vs : List Nat} {g : VP} {t : VT} {e : VE} {s : VS} {h h1 : VH} {ys : List α} {zs : List β} {c : α → D} {d : β → D} (p : α × β → Bool) (f : α × β → D) (ha : a s h = .ok ([.tup (ys.map c), .tup (zs.map d)], h1)) (hz : ys.length ≤ 16777216)
    (step : ∀ y ∈ ys.zip zs, ∀ acc, ∃ s', g (.tup [c y.1, d y.2]) (vwipe s vs) = some s' ∧ t s' (h1 ++ [.lst acc]) = .ok (p y, h1 ++ [.lst acc]) ∧ (p y = true → e s' (h1 ++ [.lst acc]) = .ok (f y, h1 ++ [.lst acc]))) :
    vLc (vZip a) vs g t e s h = .ok (.ref h1.length, h1 ++ [.lst (((ys.zip zs).filter p).map f)]) :=
  lc_pure (src := fun _ => some (zipD (ys.map c) (zs.map d))) (c := fun (y : α × β) => D.tup [c y.1, d y.2]) p f (vZip_of ha rfl) (fun _ => by
    unfold zipD
    congr 1
    rw [List.zip_map, List.map_map]
    rfl) (by rw [List.length_zip]; exact le_line (by omega)) step

/-! ### saying it plainly -/
/-- no address within -/
def D.flat (d : D) : Bool := D.lt 0 d
mutual
theorem lt_mono {m n : Nat} (h : m ≤ n) : ∀ d : D, D.lt m d = true → D.lt n d = true
  | .tup l, e => by simp only [D.lt] at e ⊢; exact ltAll_mono h l e
  | .ftup l, e => by simp only [D.lt] at e ⊢; exact ltAll_mono h l e
  | .ref k, e => by simp only [D.lt, decide_eq_true_eq] at e ⊢; omega
  | .non, _ => by simp [D.lt]
  | .bl _, _ => by simp [D.lt]
  | .int _, _ => by simp [D.lt]
  | .str _, _ => by simp [D.lt]
theorem ltAll_mono {m n : Nat} (h : m ≤ n) : ∀ d : List D, D.ltAll m d = true → D.ltAll n d = true
  | [], _ => rfl
  | d :: r, e => by
    simp only [D.ltAll, Bool.and_eq_true] at e ⊢
    exact ⟨lt_mono h d e.1, ltAll_mono h r e.2⟩
end
def pureFn (f : List D → Option D) : Fn := fun ds h => match f ds with
  | some d => .ok (d, h)
  | none => .bad
theorem says_pure {f : List D → Option D} {F : Fn} (hp : ∀ ds d, f ds = some d → D.flat d = true) (hF : ∀ ds d h, closed h → f ds = some d → ∃ g, F ds h = .ok (d, h ++ g)) : Says (pureFn f) F := fun ds h hc hl => by
  unfold pureFn
  cases e : f ds with
  | none => trivial
  | some d => exact ⟨hF ds d h hc e, Nat.le_refl _, hc, lt_mono (Nat.zero_le _) d (hp ds d e)⟩
theorem mF_rt {N : Nat} {f : VSt} {ds : List D} {h h' : VH} {d : D} {s' : VS} (e : f (ds.map some ++ List.replicate (N - ds.length) none) h = .ok (.rt d, s', h')) : mF N f ds h = .ok (d, h') := by
  unfold mF
  rw [e]
theorem mF_nx {N : Nat} {f : VSt} {ds : List D} {h h' : VH} {s' : VS} (e : f (ds.map some ++ List.replicate (N - ds.length) none) h = .ok (.nx, s', h')) : mF N f ds h = .ok (.non, h') := by
  unfold mF
  rw [e]
end Vq

/-! Part 15: plain data: ints, truth values, tuples of such; == and repr of them. -/
namespace Vq
open PySem

@[simp] theorem pyD_i (f : Nat → Option PyData) (i : Int) : pyD f (.int i) = some (.int i) := by simp only [pyD]
@[simp] theorem pyD_b (f : Nat → Option PyData) (i : Bool) : pyD f (.bl i) = some (.bool i) := by simp only [pyD]
@[simp] theorem pyD_n (f : Nat → Option PyData) : pyD f .non = some .none := by simp only [pyD]
@[simp] theorem pyD_s (f : Nat → Option PyData) (i : Str) : pyD f (.str i) = some (.str i) := by simp only [pyD]
@[simp] theorem pyL_nil (f : Nat → Option PyData) : pyL f [] = some [] := by simp only [pyL]

/-- plain data of one kind -/
class Pl (α : Type) [DecidableEq α] where
  d : α → D
  p : α → PyData
  dep : Nat
  hp : ∀ f a, pyD f (d a) = some (p a)
  lay : ∀ a, (p a).canLay0 = true
  depth : ∀ a, (p a).depth ≤ dep
  fl : ∀ n a, D.lt n (d a) = true
  eq : ∀ a b, PyData.eqv (p a) (p b) = decide (a = b)
instance : Pl Int where
  d := .int
  p := .int
  dep := 0
  hp := fun f a => pyD_i f a
  lay := fun a => by simp only [PyData.canLay0]
  depth := fun a => by simp only [PyData.depth, Nat.le_refl]
  fl := fun n a => by simp only [D.lt]
  eq := fun a b => by simp only [PyData.eqv]; rfl
instance : Pl Bool where
  d := .bl
  p := .bool
  dep := 0
  hp := fun f a => pyD_b f a
  lay := fun a => by simp only [PyData.canLay0]
  depth := fun a => by simp only [PyData.depth, Nat.le_refl]
  fl := fun n a => by simp only [D.lt]
  eq := fun a b => by simp only [PyData.eqv]; cases a <;> cases b <;> rfl
section
variable {α : Type} [DecidableEq α] [Pl α]
theorem pl_pyL (f : Nat → Option PyData) : ∀ l : List α, pyL f (l.map Pl.d) = some (l.map Pl.p)
  | [] => by simp only [List.map_nil, pyL]
  | a :: r => by
    simp only [List.map_cons, pyL, Pl.hp, pl_pyL f r]
    rfl
theorem pl_lay : ∀ l : List α, PyData.canLayAll0 (l.map Pl.p) = true
  | [] => by simp only [List.map_nil, PyData.canLayAll0]
  | a :: r => by simp only [List.map_cons, PyData.canLayAll0, Pl.lay, pl_lay r, Bool.and_self]
theorem pl_depth : ∀ l : List α, PyData.depthAll (l.map Pl.p) ≤ Pl.dep α
  | [] => by simp only [List.map_nil, PyData.depthAll, Nat.zero_le]
  | a :: r => by
    simp only [List.map_cons, PyData.depthAll]
    exact Nat.max_le.mpr ⟨Pl.depth a, pl_depth r⟩
theorem pl_fl (n : Nat) : ∀ l : List α, D.ltAll n (l.map Pl.d) = true
  | [] => by simp only [List.map_nil, D.ltAll]
  | a :: r => by simp only [List.map_cons, D.ltAll, Pl.fl, pl_fl n r, Bool.and_self]
theorem pl_eq : ∀ l m : List α, PyData.eqvAll (l.map Pl.p) (m.map Pl.p) = decide (l = m)
  | [], [] => by simp [PyData.eqvAll]
  | [], _ :: _ => by simp [PyData.eqvAll]
  | _ :: _, [] => by simp [PyData.eqvAll]
  | a :: r, b :: s => by
    simp only [List.map_cons, PyData.eqvAll, Pl.eq, pl_eq r s, List.cons.injEq, Bool.decide_and]
end
instance {α : Type} [DecidableEq α] [Pl α] : Pl (List α) where
  d := fun l => .tup (l.map Pl.d)
  p := fun l => .tuple (l.map Pl.p)
  dep := Pl.dep α + 1
  hp := fun f l => by simp only [pyD, pl_pyL]; rfl
  lay := fun l => by simp only [PyData.canLay0, pl_lay]
  depth := fun l => by simp only [PyData.depth]; exact Nat.succ_le_succ (pl_depth l)
  fl := fun n l => by simp only [D.lt, pl_fl]
  eq := fun l m => by simp only [PyData.eqv, pl_eq]
instance {α β : Type} [DecidableEq α] [DecidableEq β] [Pl α] [Pl β] : Pl (α × β) where
  d := fun a => .tup [Pl.d a.1, Pl.d a.2]
  p := fun a => .tuple [Pl.p a.1, Pl.p a.2]
  dep := max (Pl.dep α) (Pl.dep β) + 1
  hp := fun f a => by simp only [pyD, pyL, Pl.hp]; rfl
  lay := fun a => by simp only [PyData.canLay0, PyData.canLayAll0, Pl.lay, Bool.and_self]
  depth := fun a => by
    simp only [PyData.depth, PyData.depthAll]
    have := Pl.depth a.1
    have := Pl.depth a.2
    omega
  fl := fun n a => by simp only [D.lt, D.ltAll, Pl.fl, Bool.and_self]
  eq := fun a b => by
    simp only [PyData.eqv, PyData.eqvAll, Pl.eq, Bool.and_true]
    obtain ⟨a1, a2⟩ := a
    obtain ⟨b1, b2⟩ := b
    simp only [Prod.mk.injEq, Bool.decide_and]
section
variable {α : Type} [DecidableEq α] [Pl α]
theorem pl_shaped (hd : Pl.dep α ≤ 64) (a : α) : SeqAt.shaped (Pl.p a) = true := by
  unfold SeqAt.shaped
  rw [Pl.lay, decide_eq_true (Nat.le_trans (Pl.depth a) hd)]
  rfl
theorem pl_py (h : VH) (a : α) : py h (Pl.d a) = some (Pl.p a) := Pl.hp _ a
theorem pl_eqW (neg : Bool) (h : VH) (hd : Pl.dep α ≤ 64) (a b : α) : eqWith neg (Pl.d a) (Pl.d b) h = some (.bl (if neg then !decide (a = b) else decide (a = b)), h) := by
  unfold eqWith
  simp only [pl_py, pl_shaped hd, Bool.and_self, if_true, Pl.eq]
end
@[simp] theorem eqWith_ii (neg : Bool) (h : VH) (a b : Int) : eqWith neg (.int a) (.int b) h = some (.bl (if neg then !decide (a = b) else decide (a = b)), h) := pl_eqW (α := Int) neg h (Nat.zero_le _) a b
@[simp] theorem dEq_i (h : VH) (a b : Int) : dEq (.int a) (.int b) h = some (.bl (decide (a = b)), h) := eqWith_ii false h a b
@[simp] theorem dNe_i (h : VH) (a b : Int) : dNe (.int a) (.int b) h = some (.bl (!decide (a = b)), h) := eqWith_ii true h a b
@[simp] theorem dEq_b (h : VH) (a b : Bool) : dEq (.bl a) (.bl b) h = some (.bl (decide (a = b)), h) := pl_eqW (α := Bool) false h (Nat.zero_le _) a b
@[simp] theorem dNe_b (h : VH) (a b : Bool) : dNe (.bl a) (.bl b) h = some (.bl (!decide (a = b)), h) := pl_eqW (α := Bool) true h (Nat.zero_le _) a b
@[simp] theorem dEq_s (h : VH) (a b : Str) : dEq (.str a) (.str b) h = some (.bl (decide (a = b)), h) := rfl
@[simp] theorem dNe_s (h : VH) (a b : Str) : dNe (.str a) (.str b) h = some (.bl (!decide (a = b)), h) := rfl
@[simp] theorem dEq_I (h : VH) (a b : List Int) : dEq (.tup (a.map .int)) (.tup (b.map .int)) h = some (.bl (decide (a = b)), h) := pl_eqW (α := List Int) false h (by decide) a b
@[simp] theorem dNe_I (h : VH) (a b : List Int) : dNe (.tup (a.map .int)) (.tup (b.map .int)) h = some (.bl (!decide (a = b)), h) := pl_eqW (α := List Int) true h (by decide) a b
@[simp] theorem dEq_In (h : VH) (a : List Int) : dEq (.tup (a.map .int)) (.tup []) h = some (.bl (decide (a = [])), h) := dEq_I h a []
@[simp] theorem dNe_In (h : VH) (a : List Int) : dNe (.tup (a.map .int)) (.tup []) h = some (.bl (!decide (a = [])), h) := dNe_I h a []
/-- lists of ints -/
theorem py_ref {h : VH} {n : Nat} {l : List D} {ps : List PyData} (e : lk h n = some l) (hp : ∀ f, pyL f l = some ps) : py h (.ref n) = some (.list ps) := by
  unfold py
  simp only [pyD, refPy, e, Option.bind_some, hp, Option.map_some]
theorem eqL (neg : Bool) {h : VH} {n m : Nat} {a b : List Int} (e1 : lk h n = some (a.map .int)) (e2 : lk h m = some (b.map .int)) : eqWith neg (.ref n) (.ref m) h = some (.bl (if neg then !decide (a = b) else decide (a = b)), h) := by
  have p1 := py_ref (ps := a.map .int) e1 fun f => pl_pyL (α := Int) f a
  have p2 := py_ref (ps := b.map .int) e2 fun f => pl_pyL (α := Int) f b
  have s1 : ∀ a : List Int, SeqAt.shaped (.list (a.map .int)) = true := fun a => by
    unfold SeqAt.shaped
    have h1 : PyData.canLay0 (.list (a.map .int)) = true := by
      simp only [PyData.canLay0]
      exact pl_lay (α := Int) a
    have h2 : PyData.depth (.list (a.map .int)) ≤ 64 := by
      simp only [PyData.depth]
      have : PyData.depthAll (a.map .int) ≤ 0 := pl_depth (α := Int) a
      omega
    rw [h1, decide_eq_true h2]
    rfl
  have e : PyData.eqv (.list (a.map .int)) (.list (b.map .int)) = decide (a = b) := by
    simp only [PyData.eqv]
    exact pl_eq (α := Int) a b
  unfold eqWith
  simp only [p1, p2, s1, Bool.and_self, if_true, e]
theorem dEq_L {h : VH} {n m : Nat} {a b : List Int} (e1 : lk h n = some (a.map .int)) (e2 : lk h m = some (b.map .int)) : dEq (.ref n) (.ref m) h = some (.bl (decide (a = b)), h) := eqL false e1 e2
theorem dNe_L {h : VH} {n m : Nat} {a b : List Int} (e1 : lk h n = some (a.map .int)) (e2 : lk h m = some (b.map .int)) : dNe (.ref n) (.ref m) h = some (.bl (!decide (a = b)), h) := eqL true e1 e2

/-! ### repr -/
mutual
/-- how large a thing is -/
def size : PyData → Nat
  | .none => 1
  | .bool _ => 1
  | .int _ => 1
  | .str x => x.length + 1
  | .list l => sizes l + 1
  | .tuple l => sizes l + 1
  | .dict _ => 0
def sizes : List PyData → Nat
  | [] => 0
  | x :: r => size x + sizes r
end
def noDict : PyData → Bool := fun d => d.canLay0
theorem strLen_app (a b : Str) : (a ++ b).length = a.length + b.length := strLen_append a b
mutual
theorem shown_len : ∀ d : PyData, d.canLay0 = true → d.showable = true → d.shown.length + 2 ≤ 2000 * size d
  | .none, _, _ => by simp only [PyData.shown, size]; decide
  | .bool b, _, _ => by
    simp only [PyData.shown, size]
    cases b <;> decide
  | .int i, _, h => by
    simp only [PyData.showable, decide_eq_true_eq] at h
    have h1 := int_text_length_le (a := i) (k := 1920) (by decide) h
    have h2 : (Str.ofString (toString i)).length = (toString i).length := ofString_length _
    simp only [PyData.shown, size]
    rw [h2]
    omega
  | .str x, h, _ => by
    simp only [PyData.shown, size]
    have h1 : (reprText x).length ≤ 10 * x.length + 2 := StrLaws.reprText_len x fun c hc => by
      simp only [PyData.canLay0, PyData.strOk] at h
      have h' := (Array.all_eq_true'.mp h) c (by simpa using hc)
      have h' : c < 0x110000 := by simpa using h'
      exact Nat.lt_trans h' (by decide)
    omega
  | .list l, h, g => by
    simp only [PyData.canLay0] at h
    simp only [PyData.showable] at g
    simp only [PyData.shown, size]
    have ih := shown_lens l h g
    cases l with
    | nil =>
      simp only [PyData.shownAll, sizes]
      decide
    | cons a r =>
      unfold listText
      rw [strLen_app]
      have z := textFrom_length_pos (PyData.shownAll (a :: r)) 1 "[" (by decide)
      have q : (textFrom 0 "[" (PyData.shownAll (a :: r))).length + 2 = (textFrom 1 "[" (PyData.shownAll (a :: r))).length := by
        simp only [PyData.shownAll, textFrom]
        rw [textFrom_length_pos _ 1 _ (by decide), textFrom_length_pos _ 2 _ (by decide)]
        simp only [strLen_app]
        have e1 : (Str.ofString (if 0 > 0 then ", " else "")).length = 0 := by decide
        have e2 : (Str.ofString (if 1 > 0 then ", " else "")).length = 2 := by decide
        omega
      have e3 : (Str.ofString "]").length = 1 := by decide
      have e4 : (Str.ofString "[").length = 1 := by decide
      omega
  | .tuple l, h, g => by
    simp only [PyData.canLay0] at h
    simp only [PyData.showable] at g
    simp only [PyData.shown, size]
    have ih := shown_lens l h g
    unfold tupleText
    simp only [strLen_app]
    have e4 : (Str.ofString "(").length = 1 := by decide
    have e5 : (Str.ofString (if ((PyData.shownAll l).length == 1) = true then ",)" else ")")).length ≤ 2 := by
      split <;> decide
    cases l with
    | nil =>
      simp only [PyData.shownAll, sizes] at *
      have : (Str.join ", " []).length = 0 := by decide
      omega
    | cons a r =>
      have z := join_length_add (PyData.shownAll (a :: r)) (by simp [PyData.shownAll])
      omega
  | .dict _, h, _ => by simp only [PyData.canLay0] at h; cases h
theorem shown_lens : ∀ l : List PyData, PyData.canLayAll0 l = true → PyData.showableAll l = true → piled (PyData.shownAll l) ≤ 2000 * sizes l
  | [], _, _ => by simp only [PyData.shownAll, sizes]; decide
  | a :: r, h, g => by
    simp only [PyData.canLayAll0, Bool.and_eq_true] at h
    simp only [PyData.showableAll, Bool.and_eq_true] at g
    simp only [PyData.shownAll, sizes, piled_cons]
    have h1 := shown_len a h.1 g.1
    have h2 := shown_lens r h.2 g.2
    omega
end
theorem reprOk_of {p : PyData} (h1 : SeqAt.shaped p = true) (h2 : p.showable = true) (h3 : size p ≤ 8000) : reprOk p = true := by
  unfold reprOk
  have z := shown_len p (depth_of_shaped h1).1 h2
  have q : p.shown.length ≤ sizeLine := le_line (by omega)
  rw [h1, h2, decide_eq_true q]
  rfl
theorem bRepr_of {h : VH} {d : D} {p : PyData} (e : py h d = some p) (hr : reprOk p = true) : bRepr [d] h = some (.str p.shown, h) := by
  unfold bRepr pureB
  simp only [one_1, Option.bind_some, e, hr, if_true, Option.map_some]
end Vq

/-! Part 16: a law's bag of cells: [cells still to come, what is left of the present one, a mixed number]. -/
namespace Vq
open PySem

/-- rc: the cells still to come, the next one first -/
structure Bag where
  rc : List Int
  m : Int
  x : Int
  hl : rc.length ≤ 63
def Bag.cells (B : Bag) : Cell := .lst (B.rc.reverse.map .int)
def Bag.top (B : Bag) (c : Nat) : Cell := .lst [.ref c, .int B.m, .int B.x]
structure IsBag (h : VH) (b c : Nat) (B : Bag) : Prop where
  hb : h[b]? = some (B.top c)
  hc : h[c]? = some B.cells
  ne : b ≠ c
def putBag (h : VH) (b c : Nat) (B : Bag) : VH := (h.set c B.cells).set b (B.top c)
section
variable {h g : VH} {b c : Nat} {B B' : Bag}
theorem lt_of_get {h : VH} {n : Nat} {d : Cell} (e : h[n]? = some d) : n < h.length := (List.getElem?_eq_some_iff.mp e).1
theorem IsBag.lb (q : IsBag h b c B) : b < h.length := lt_of_get q.hb
theorem IsBag.lc (q : IsBag h b c B) : c < h.length := lt_of_get q.hc
theorem IsBag.lkb (q : IsBag h b c B) : lk h b = some [.ref c, .int B.m, .int B.x] := by unfold lk; rw [q.hb]; rfl
theorem IsBag.lkc (q : IsBag h b c B) : lk h c = some (B.rc.reverse.map .int) := by unfold lk; rw [q.hc]; rfl
theorem put_length : (putBag h b c B).length = h.length := by simp [putBag]
theorem IsBag.put (q : IsBag h b c B) (B' : Bag) : IsBag (putBag h b c B') b c B' := by
  refine ⟨?_, ?_, q.ne⟩
  · unfold putBag
    rw [List.getElem?_set_self (by rw [List.length_set]; exact q.lb)]
  · unfold putBag
    rw [List.getElem?_set_ne q.ne, List.getElem?_set_self q.lc]
theorem put_put (hne : b ≠ c) : putBag (putBag h b c B) b c B' = putBag h b c B' := by
  unfold putBag
  rw [List.set_comm _ _ hne, List.set_set, List.set_set]
theorem IsBag.self (q : IsBag h b c B) : putBag h b c B = h := by
  unfold putBag
  have e1 : h.set c B.cells = h := by
    apply List.ext_getElem?
    intro i
    by_cases e : c = i
    · subst e
      rw [List.getElem?_set_self q.lc, q.hc]
    · rw [List.getElem?_set_ne e]
  rw [e1]
  apply List.ext_getElem?
  intro i
  by_cases e : b = i
  · subst e
    rw [List.getElem?_set_self q.lb, q.hb]
  · rw [List.getElem?_set_ne e]
theorem IsBag.app (q : IsBag h b c B) (g : VH) : IsBag (h ++ g) b c B :=
  ⟨by rw [List.getElem?_append_left q.lb]; exact q.hb, by rw [List.getElem?_append_left q.lc]; exact q.hc, q.ne⟩
theorem IsBag.put_app (q : IsBag h b c B) (g : VH) (B' : Bag) : putBag (h ++ g) b c B' = putBag h b c B' ++ g := by
  unfold putBag
  rw [List.set_append_left _ _ q.lc, List.set_append_left _ _ (by rw [List.length_set]; exact q.lb)]
theorem IsBag.lk_put (q : IsBag h b c B) {n : Nat} (h1 : n ≠ b) (h2 : n ≠ c) : lk (putBag h b c B') n = lk h n := by
  unfold lk putBag
  rw [List.getElem?_set_ne (Ne.symm h1), List.getElem?_set_ne (Ne.symm h2)]
theorem ints_lt (n : Nat) : ∀ l : List Int, D.ltAll n (l.map .int) = true
  | [] => by simp only [List.map_nil, D.ltAll]
  | a :: r => by simp only [List.map_cons, D.ltAll, D.lt, ints_lt n r, Bool.and_self]
theorem IsBag.closed (q : IsBag h b c B) (hc : Vq.closed h) (B' : Bag) : Vq.closed (putBag h b c B') := fun d hd => by
  rw [put_length]
  unfold putBag at hd
  rcases List.mem_or_eq_of_mem_set hd with hd | rfl
  · rcases List.mem_or_eq_of_mem_set hd with hd | rfl
    · exact hc d hd
    · simp only [Bag.cells, Cell.lt, ints_lt]
  · simp only [Bag.top, Cell.lt, D.ltAll, D.lt, Bool.and_true, decide_eq_true_eq]
    exact q.lc
end

def bagOf (h : VH) (b : Nat) : Option (Nat × Bag) := match h[b]? with
  | some (.lst [.ref c, .int m, .int x]) => match h[c]? with
    | some (.lst l) => if b = c then none else (intsOf l).bind fun cells => if hl : cells.length ≤ 63 then some (c, ⟨cells.reverse, m, x, by rw [List.length_reverse]; exact hl⟩) else none
    | _ => none
  | _ => none
theorem intsOf_inv : ∀ {l : List D} {ns : List Int}, intsOf l = some ns → l = ns.map .int
  | [], _, e => by cases e; rfl
  | d :: r, ns, e => by
    obtain ⟨i, e1, e⟩ := Option.bind_eq_some_iff.mp e
    obtain ⟨l, e2, rfl⟩ := Option.map_eq_some_iff.mp e
    cases d with
    | int j => cases e1; rw [intsOf_inv e2]; rfl
    | _ => cases e1
theorem bagOf_is {h : VH} {b c : Nat} {B : Bag} (e : bagOf h b = some (c, B)) : IsBag h b c B := by
  unfold bagOf at e
  split at e
  · rename_i c' m x e1
    split at e
    · rename_i l e2
      split at e
      · cases e
      · rename_i hne
        obtain ⟨ns, e3, e4⟩ := Option.bind_eq_some_iff.mp e
        by_cases hl : ns.length ≤ 63
        · rw [dif_pos hl] at e4
          cases e4
          refine ⟨e1, ?_, hne⟩
          rw [e2, intsOf_inv e3]
          simp [Bag.cells]
        · rw [dif_neg hl] at e4
          cases e4
    · cases e
  · cases e
theorem IsBag.of {h : VH} {b c : Nat} {B : Bag} (q : IsBag h b c B) : bagOf h b = some (c, B) := by
  unfold bagOf
  rw [q.hb]
  simp only [Bag.top, q.hc, Bag.cells, if_neg q.ne, intsOf_map, Option.bind_some, List.length_reverse, B.hl, dite_true, List.reverse_reverse]
theorem lstAt_of {h : VH} {n : Nat} {l : List D} (e : h[n]? = some (.lst l)) : lstAt h (.ref n) = some (n, l) := by
  show (match h[n]? with
    | some (.lst l) => some (n, l)
    | _ => none) = _
  rw [e]
theorem sLst_of {h : VH} {n : Nat} {l : List D} {k : Int} {j : Nat} (d : D) (e : h[n]? = some (.lst l)) (hj : L2.ixN l.length k = some j) : sLst (.ref n) (.int k) d h = some (h.set n (.lst (l.set j d))) := by
  show (match h[n]? with
    | some (.lst l) => (L2.ixN l.length k).map fun j => h.set n (.lst (l.set j d))
    | _ => none) = _
  rw [e]
  simp only [hj, Option.map_some]
section
variable {h : VH} {b c : Nat} {B : Bag}
theorem IsBag.setc (q : IsBag h b c B) (B' : Bag) (e : B'.rc = B.rc) : putBag h b c B' = h.set b (B'.top c) := by
  unfold putBag
  congr 1
  apply List.ext_getElem?
  intro i
  by_cases z : c = i
  · subst z
    rw [List.getElem?_set_self q.lc, q.hc]
    simp only [Bag.cells, e]
  · rw [List.getElem?_set_ne z]
theorem IsBag.set1 (q : IsBag h b c B) (v : Int) : sLst (.ref b) (.int 1) (.int v) h = some (putBag h b c ⟨B.rc, v, B.x, B.hl⟩) := by
  rw [sLst_of (j := 1) (.int v) q.hb rfl, q.setc ⟨B.rc, v, B.x, B.hl⟩ rfl]
  rfl
theorem IsBag.set2 (q : IsBag h b c B) (v : Int) : sLst (.ref b) (.int 2) (.int v) h = some (putBag h b c ⟨B.rc, B.m, v, B.hl⟩) := by
  rw [sLst_of (j := 2) (.int v) q.hb rfl, q.setc ⟨B.rc, B.m, v, B.hl⟩ rfl]
  rfl
theorem IsBag.pop {a : Int} {r : List Int} (q : IsBag h b c B) (e : B.rc = a :: r) (hl : r.length ≤ 63) : mPop (.ref c) [] h = some (.int a, putBag h b c ⟨r, B.m, B.x, hl⟩) := by
  unfold mPop
  rw [lstAt_of q.hc]
  have e1 : B.rc.reverse.map D.int = r.reverse.map D.int ++ [.int a] := by rw [e]; simp
  simp only [Option.bind_some, e1, List.isEmpty_nil, if_true, List.length_append, List.length_singleton, Nat.add_sub_cancel, List.getElem?_concat_length, Option.map_some, List.dropLast_concat]
  have e2 : putBag h b c ⟨r, B.m, B.x, hl⟩ = h.set c (.lst (r.reverse.map D.int)) := by
    unfold putBag
    apply List.ext_getElem?
    intro i
    by_cases z : b = i
    · subst z
      rw [List.getElem?_set_self (by rw [List.length_set]; exact q.lb), List.getElem?_set_ne (Ne.symm q.ne), q.hb]
      rfl
    · rw [List.getElem?_set_ne z]
      rfl
  rw [e2]
theorem IsBag.tyc (q : IsBag h b c B) : tyD "list" (.ref c) h = true := by simp [tyD, q.lkc]
end
/-- a def whose first argument is the bag, the others plain -/
def bagFn (f : List D → Bag → Option (D × Bag)) : Fn := fun ds h => match ds with
  | .ref b :: r => match bagOf h b with
    | some (c, B) => match f r B with
      | some (d, B') => .ok (d, putBag h b c B')
      | none => .bad
    | none => .bad
  | _ => .bad
theorem bagFn_of {f : List D → Bag → Option (D × Bag)} {h : VH} {b c : Nat} {B B' : Bag} {r : List D} {d : D} (q : IsBag h b c B) (e : f r B = some (d, B')) : bagFn f (.ref b :: r) h = .ok (d, putBag h b c B') := by
  unfold bagFn
  simp only [q.of, e]
theorem says_bag {f : List D → Bag → Option (D × Bag)} {F : Fn} (hp : ∀ r B d B', f r B = some (d, B') → D.flat d = true)
    (hF : ∀ h b c B r d B', closed h → IsBag h b c B → f r B = some (d, B') → ∃ g, F (.ref b :: r) h = .ok (d, putBag h b c B' ++ g)) : Says (bagFn f) F := fun ds h hc hl => by
  unfold bagFn
  split
  · rename_i d h' e
    split at e
    · rename_i b r
      cases e1 : bagOf h b with
      | none => rw [e1] at e; cases e
      | some p =>
        obtain ⟨c, B⟩ := p
        have q := bagOf_is e1
        rw [e1] at e
        simp only at e
        cases e2 : f r B with
        | none => rw [e2] at e; cases e
        | some p =>
          obtain ⟨d', B'⟩ := p
          rw [e2] at e
          cases e
          exact ⟨hF h b c B r d B' hc q e2, Nat.le_of_eq put_length.symm, q.closed hc B', lt_mono (Nat.zero_le _) d (hp r B d B' e2)⟩
    · cases e
  · rename_i x s h' e
    split at e
    · rename_i b r
      cases e1 : bagOf h b with
      | none => rw [e1] at e; cases e
      | some p =>
        rw [e1] at e
        simp only at e
        split at e <;> cases e
    · cases e
  · trivial
def offBag (b c : Nat) : D → Bool
  | .ref n => n != b && n != c
  | _ => true
/-- one whose second argument is a list or tuple of anything, of which it hands one item back: f tells which, by how many there are -/
def pickFn (f : Int → Bag → Int × Bag) : Fn := fun ds h => match ds with
  | [.ref b, s] => match bagOf h b with
    | some (c, B) => match seqOf h s with
      | some l => if offBag b c s = true ∧ l ≠ [] ∧ l.length ≤ 1000000 then (match l[(f l.length B).1.toNat]? with
        | some d => .ok (d, putBag h b c (f l.length B).2)
        | none => .bad) else .bad
      | none => .bad
    | none => .bad
  | _ => .bad
theorem pickFn_of {f : Int → Bag → Int × Bag} {h : VH} {b c : Nat} {B : Bag} {s : D} {l : List D} {d : D} (q : IsBag h b c B) (e : seqOf h s = some l) (o : offBag b c s = true) (hn : l ≠ []) (hz : l.length ≤ 1000000)
    (ed : l[(f l.length B).1.toNat]? = some d) : pickFn f [.ref b, s] h = .ok (d, putBag h b c (f l.length B).2) := by
  unfold pickFn
  simp only [q.of, e]
  rw [if_pos ⟨o, hn, hz⟩, ed]
theorem ltAll_get {n : Nat} : ∀ {l : List D} {i : Nat} {d : D}, D.ltAll n l = true → l[i]? = some d → D.lt n d = true
  | [], i, d, _, e => by simp at e
  | a :: r, 0, d, h, e => by
    simp only [D.ltAll, Bool.and_eq_true] at h
    simp at e
    rw [← e]
    exact h.1
  | a :: r, i + 1, d, h, e => by
    simp only [D.ltAll, Bool.and_eq_true] at h
    simp at e
    exact ltAll_get h.2 e
theorem seqOf_lt {h : VH} {s : D} {l : List D} (hc : closed h) (hs : D.lt h.length s = true) (e : seqOf h s = some l) : D.ltAll h.length l = true := by
  cases s with
  | tup m => cases e; simpa only [D.lt] using hs
  | ftup m => cases e; simpa only [D.lt] using hs
  | ref n =>
    have e : lk h n = some l := e
    unfold lk at e
    cases q : h[n]? with
    | none => rw [q] at e; cases e
    | some c =>
      have z := hc c (List.mem_of_getElem? q)
      rw [q] at e
      cases c <;> (cases e; exact z)
  | _ => cases e
theorem says_pick {f : Int → Bag → Int × Bag} {F : Fn}
    (hF : ∀ h b c B s l d, closed h → IsBag h b c B → seqOf h s = some l → offBag b c s = true → l ≠ [] → l.length ≤ 1000000 → l[(f l.length B).1.toNat]? = some d → ∃ g, F [.ref b, s] h = .ok (d, putBag h b c (f l.length B).2 ++ g)) : Says (pickFn f) F := fun ds h hc hl => by
  unfold pickFn
  split
  · rename_i d h' e
    split at e
    · rename_i b s
      cases e1 : bagOf h b with
      | none => rw [e1] at e; cases e
      | some p =>
        obtain ⟨c, B⟩ := p
        have q := bagOf_is e1
        rw [e1] at e
        simp only at e
        cases e2 : seqOf h s with
        | none => rw [e2] at e; cases e
        | some l =>
          rw [e2] at e
          simp only at e
          split at e
          · rename_i hcond
            obtain ⟨o, hn, hz⟩ := hcond
            cases e3 : l[(f l.length B).1.toNat]? with
            | none => rw [e3] at e; cases e
            | some d' =>
              rw [e3] at e
              cases e
              simp only [D.ltAll, Bool.and_true, Bool.and_eq_true] at hl
              exact ⟨hF h b c B s l d hc q e2 o hn hz e3, Nat.le_of_eq put_length.symm, q.closed hc _, by rw [put_length]; exact ltAll_get (seqOf_lt hc hl.2 e2) e3⟩
          · cases e
    · cases e
  · rename_i x s h' e
    split at e
    · split at e
      · split at e
        · split at e
          · split at e <;> cases e
          · cases e
        · cases e
      · cases e
    · cases e
  · trivial
end Vq

/-! Part 17: what a bag may have become; loops and comprehensions by what holds throughout. -/
namespace Vq
open PySem

@[simp] theorem le_lineS {n : Nat} (h : n ≤ 16777216) : n ≤ sizeLine := le_line h
@[simp] theorem lt_lineS {n : Nat} (h : n < 16777216) : n < sizeLine := lt_line h

/-- a bag lies here -/
def Hb (b c : Nat) (h : VH) : Prop := ∃ B, IsBag h b c B
/-- from h to h': all but the bag as it was -/
structure Keep (b c : Nat) (h h' : VH) : Prop where
  le : h.length ≤ h'.length
  bag : Hb b c h'
  get : ∀ i, i < h.length → i ≠ b → i ≠ c → h'[i]? = h[i]?
theorem Keep.refl {b c : Nat} {h : VH} (q : Hb b c h) : Keep b c h h := ⟨Nat.le_refl _, q, fun _ _ _ _ => rfl⟩
theorem Keep.trans {b c : Nat} {h h1 h2 : VH} (x : Keep b c h h1) (y : Keep b c h1 h2) : Keep b c h h2 :=
  ⟨Nat.le_trans x.le y.le, y.bag, fun i hi hb hc => (y.get i (Nat.lt_of_lt_of_le hi x.le) hb hc).trans (x.get i hi hb hc)⟩
theorem Hb.app {b c : Nat} {h : VH} (q : Hb b c h) (g : VH) : Hb b c (h ++ g) := q.elim fun B q => ⟨B, q.app g⟩
theorem Keep.app {b c : Nat} {h h1 : VH} (x : Keep b c h h1) (g : VH) : Keep b c h (h1 ++ g) :=
  x.trans ⟨by simp, x.bag.app g, fun i hi _ _ => List.getElem?_append_left hi⟩
theorem Hb.keep {b c : Nat} {h : VH} (q : Hb b c h) (g : VH) : Keep b c h (h ++ g) := (Keep.refl q).app g
theorem Hb.b_lt {b c : Nat} {h : VH} (q : Hb b c h) : b < h.length := q.elim fun _ q => q.lb
theorem Hb.c_lt {b c : Nat} {h : VH} (q : Hb b c h) : c < h.length := q.elim fun _ q => q.lc
theorem Keep.put {b c : Nat} {h : VH} {B : Bag} (q : IsBag h b c B) (B' : Bag) (g : VH) : Keep b c h (putBag h b c B' ++ g) :=
  Keep.app ⟨Nat.le_of_eq put_length.symm, ⟨B', q.put B'⟩, fun i _ hb hc => by unfold putBag; rw [List.getElem?_set_ne (Ne.symm hb), List.getElem?_set_ne (Ne.symm hc)]⟩ g
theorem lk_lt {h : VH} {n : Nat} {l : List D} (e : lk h n = some l) : n < h.length := by
  by_cases q : n < h.length
  · exact q
  · unfold lk at e
    rw [List.getElem?_eq_none (by omega)] at e
    cases e
theorem Keep.cells {b c : Nat} {h h' : VH} (x : Keep b c h h') {i : Nat} {l : List D} (hb : i ≠ b) (hc : i ≠ c) (e : lk h i = some l) : lk h' i = some l := by
  have z := x.get i (lk_lt e) hb hc
  unfold lk at e ⊢
  rw [z]
  exact e
/-- a cell that came later than the bag -/
theorem lk_new {b c n : Nat} {h0 h h' : VH} {l : List D} (q : Hb b c h0) (hn : h0.length ≤ n) (k : Keep b c h h') (e : lk h n = some l) : lk h' n = some l :=
  k.cells (by have := q.b_lt; omega) (by have := q.c_lt; omega) e
/-- a list of its own is set anew -/
theorem Keep.set {b c n : Nat} {h h' : VH} {l' : List D} (x : Keep b c h h') (hn : h.length ≤ n) (hb : n ≠ b) (hc : n ≠ c) : Keep b c h (h'.set n (.lst l')) := by
  refine ⟨by rw [List.length_set]; exact x.le, ?_, fun i l hb hc => ?_⟩
  · obtain ⟨B, q⟩ := x.bag
    refine ⟨B, ?_, ?_, q.ne⟩
    · rw [List.getElem?_set_ne hb]
      exact q.hb
    · rw [List.getElem?_set_ne hc]
      exact q.hc
  · rw [List.getElem?_set_ne (by omega)]
    exact x.get i l hb hc
theorem lk_set {h : VH} {n : Nat} {l l' : List D} (e : lk h n = some l) : lk (h.set n (.lst l')) n = some l' := by
  unfold lk
  rw [List.getElem?_set_self (lk_lt e)]
theorem lk_set_ne {h : VH} {m n : Nat} {l' : List D} (e : n ≠ m) : lk (h.set n (.lst l')) m = lk h m := by
  unfold lk
  rw [List.getElem?_set_ne e]

theorem atI_nn {α : Type} {l : List α} {i : Int} (h0 : 0 ≤ i) (h1 : i.toNat < l.length) : L2.atI l i = some l[i.toNat] := by
  unfold L2.atI L2.ixN
  rw [if_pos h0, if_pos (by omega)]
  simp [h1]
theorem atI_nat {α : Type} {l : List α} {i : Nat} (h1 : i < l.length) : L2.atI l (i : Int) = some l[i] := atI_nn (l := l) (i := (i : Int)) (by omega) (by omega)
theorem atI_end {α : Type} {l : List α} (h1 : l ≠ []) : L2.atI l (-1) = some (l.getLast h1) := by
  have : 0 < l.length := List.length_pos_iff.mpr h1
  unfold L2.atI L2.ixN
  rw [if_neg (by omega), if_pos (by omega)]
  have : (-1 + (l.length : Int)).toNat = l.length - 1 := by omega
  simp only [Option.bind_some, this]
  rw [List.getLast_eq_getElem, List.getElem?_eq_getElem]

theorem ixN_nn {n : Nat} {i : Int} (h0 : 0 ≤ i) (h1 : i.toNat < n) : L2.ixN n i = some i.toNat := by
  unfold L2.ixN
  rw [if_pos h0, if_pos (by omega)]
theorem ixN_end {n : Nat} (h1 : 0 < n) : L2.ixN n (-1) = some (n - 1) := by
  unfold L2.ixN
  rw [if_neg (by omega), if_pos (by omega)]
  congr 1
  omega
/-- stores in a list of ints -/
theorem sLst_I {h : VH} {n : Nat} {l : List Int} {i : Int} (e : h[n]? = some (.lst (l.map .int))) (h0 : 0 ≤ i) (h1 : i.toNat < l.length) (v : Int) : sLst (.ref n) (.int i) (.int v) h = some (h.set n (.lst ((l.set i.toNat v).map .int))) := by
  rw [sLst_of (.int v) e (ixN_nn h0 (by simpa using h1)), List.map_set]
theorem sLst_Ie {h : VH} {n : Nat} {l : List Int} (e : h[n]? = some (.lst (l.map .int))) (h1 : 0 < l.length) (v : Int) : sLst (.ref n) (.int (-1)) (.int v) h = some (h.set n (.lst ((l.set (l.length - 1) v).map .int))) := by
  rw [sLst_of (.int v) e (ixN_end (by simpa using h1)), List.length_map, List.map_set]
theorem lk_of {h : VH} {n : Nat} {l : List D} (e : h[n]? = some (.lst l)) : lk h n = some l := by
  unfold lk
  rw [e]
theorem set_get {h : VH} {n : Nat} {l l' : List D} (e : h[n]? = some (.lst l)) : (h.set n (.lst l'))[n]? = some (.lst l') := List.getElem?_set_self (lt_of_get e)
theorem ints_of {P : Int → Prop} : ∀ {l : List D}, (∀ d ∈ l, ∃ x, d = .int x ∧ P x) → ∃ r : List Int, l = r.map .int ∧ ∀ x ∈ r, P x
  | [], _ => ⟨[], rfl, by simp⟩
  | d :: l, h => by
    obtain ⟨x, rfl, hx⟩ := h d (List.mem_cons_self ..)
    obtain ⟨r, e, hr⟩ := ints_of (l := l) fun d hd => h d (List.mem_cons_of_mem _ hd)
    refine ⟨x :: r, by rw [e]; rfl, fun y hy => ?_⟩
    rcases List.mem_cons.mp hy with rfl | hy
    · exact hx
    · exact hr y hy
theorem Keep.cell {b c : Nat} {h0 h h' : VH} (q : Hb b c h0) {n : Nat} {cl : Cell} (hn : h0.length ≤ n) (k : Keep b c h h') (e : h[n]? = some cl) : h'[n]? = some cl := by
  have := q.b_lt
  have := q.c_lt
  rw [k.get n (lt_of_get e) (by omega) (by omega)]
  exact e
/-- only new cells -/
def Grow (h h' : VH) : Prop := ∃ g, h' = h ++ g
theorem Grow.refl (h : VH) : Grow h h := ⟨[], by simp⟩
theorem Grow.trans {h h1 h2 : VH} : Grow h h1 → Grow h1 h2 → Grow h h2
  | ⟨g, e⟩, ⟨g', e'⟩ => ⟨g ++ g', by rw [e', e, List.append_assoc]⟩
theorem Grow.app {h h1 : VH} (x : Grow h h1) (g : VH) : Grow h (h1 ++ g) := x.trans ⟨g, rfl⟩
theorem Grow.new (h g : VH) : Grow h (h ++ g) := ⟨g, rfl⟩
theorem Grow.lk {h h' : VH} (x : Grow h h') {n : Nat} {l : List D} (e : lk h n = some l) : Vq.lk h' n = some l := by
  obtain ⟨g, rfl⟩ := x
  exact lk_app e g
theorem Hb.grow {b c : Nat} {h h' : VH} (q : Hb b c h) (x : Grow h h') : Keep b c h h' := by
  obtain ⟨g, rfl⟩ := x
  exact q.keep g
/-! ### statements one after another -/
theorem turn_of {g : VG} {body : VSt} {d : D} {s s' : VS} {h h' : VH} (e : g d s h = .ok (s', h')) : turn g body d s h = body s' h' := by
  unfold turn
  rw [e]
  rfl
theorem turn_N (i : Nat) (body : VSt) (d : D) (s : VS) (h : VH) : turn (gP (pN i)) body d s h = body (s.set i (some d)) h := turn_of rfl
section
variable {f g : VSt} {s s' : VS} {h h' : VH} {d : D}
theorem seq_nx (e : f s h = .ok (.nx, s', h')) : vSeq f g s h = g s' h' := by simp [e]
theorem seq_rt (e : f s h = .ok (.rt d, s', h')) : vSeq f g s h = .ok (.rt d, s', h') := by simp [e]
end

/-! ### comprehensions, by what holds throughout -/
theorem lc_run {it : VI} {vs : List Nat} {g : VP} {t : VT} {e : VE} {s : VS} {h h1 : VH} {src : VH → Option (List D)} {ys : List D} (I : Nat → VH → List D → Prop)
    (hit : it s h = .ok (src, h1)) (hsrc : ∀ i h acc, I i h acc → src h = some ys) (hz : ys.length ≤ 16777216) (h0 : I 0 (h1 ++ [.lst []]) [])
    (hl : ∀ i h acc, I i h acc → h[h1.length]? = some (.lst acc))
    (step : ∀ i d h acc, ys[i]? = some d → I i h acc → acc.length ≤ i → ∃ s' b h2, g d (vwipe s vs) = some s' ∧ t s' h = .ok (b, h2) ∧
      if b = true then ∃ d' h3, e s' h2 = .ok (d', h3) ∧ h3[h1.length]? = some (.lst acc) ∧ I (i + 1) (h3.set h1.length (.lst (acc ++ [d']))) (acc ++ [d']) else I (i + 1) h2 acc) :
    ∃ h' acc, vLc it vs g t e s h = .ok (.ref h1.length, h') ∧ I ys.length h' acc := by
  have gen : ∀ (k i : Nat) (h : VH) (acc : List D), i + k = ys.length → acc.length ≤ i → I i h acc → ∃ h' acc', lcF src vs g t e h1.length s k i h = .ok h' ∧ I ys.length h' acc' := by
    intro k
    induction k with
    | zero =>
      intro i h acc e1 e2 hi
      have : i = ys.length := by omega
      subst this
      refine ⟨h, acc, ?_, hi⟩
      unfold lcF
      simp [hsrc _ _ _ hi]
    | succ k ih =>
      intro i h acc e1 e2 hi
      have hlt : i < ys.length := by omega
      have ei : ys[i]? = some ys[i] := List.getElem?_eq_getElem hlt
      obtain ⟨s', b, h2, eg, et, hb⟩ := step i _ h acc ei hi e2
      unfold lcF
      simp only [hsrc _ _ _ hi, ei, eg, et, noex_ok, Res.ok_bind]
      cases b with
      | false =>
        simp only [Bool.false_eq_true, if_false] at hb ⊢
        exact ih (i + 1) h2 acc (by omega) (by omega) hb
      | true =>
        simp only [if_true] at hb ⊢
        obtain ⟨d', h3, ee, e3, hi3⟩ := hb
        have pa : putAt h1.length d' h3 = .ok (h3.set h1.length (.lst (acc ++ [d']))) := by
          unfold putAt
          rw [e3]
          simp only
          rw [if_pos (lt_line (by omega))]
        simp only [ee, noex_ok, Res.ok_bind, pa]
        exact ih (i + 1) _ _ (by omega) (by simp; omega) hi3
  obtain ⟨h', acc, eq, hi⟩ := gen ys.length 0 _ [] (by omega) (Nat.zero_le _) h0
  refine ⟨h', acc, ?_, hi⟩
  unfold vLc
  simp only [hit, Res.ok_bind, hsrc _ _ _ h0, eq]
/-- each element a draw's worth: the bag may turn, the rest stands -/
theorem lc_bag {it : VI} {vs : List Nat} {g : VP} {e : VE} {s : VS} {h h1 : VH} {src : VH → Option (List D)} {ys : List D} {b c : Nat} (R : D → Prop) (q : Hb b c h1)
    (hit : it s h = .ok (src, h1)) (hsrc : ∀ h, src h = some ys) (hz : ys.length ≤ 16777216)
    (step : ∀ d h, d ∈ ys → Keep b c h1 h → ∃ s' d' h3, g d (vwipe s vs) = some s' ∧ e s' h = .ok (d', h3) ∧ R d' ∧ Keep b c h h3) :
    ∃ h' acc, vLc it vs g vYes e s h = .ok (.ref h1.length, h') ∧ h'[h1.length]? = some (.lst acc) ∧ acc.length = ys.length ∧ (∀ d ∈ acc, R d) ∧ Keep b c h1 h' := by
  have hb := q.b_lt
  have hc := q.c_lt
  obtain ⟨h', acc, e1, e2, e3, e4, e5⟩ := lc_run (t := vYes) (e := e) (vs := vs) (g := g) (fun i h acc => h[h1.length]? = some (.lst acc) ∧ acc.length = i ∧ (∀ d ∈ acc, R d) ∧ Keep b c h1 h) hit (fun _ h _ _ => hsrc h) hz
    ⟨by simp, rfl, by simp, q.keep _⟩ (fun _ _ _ i => i.1) (fun i d h acc ed hi _ => by
      obtain ⟨i1, i2, i3, i4⟩ := hi
      obtain ⟨s', d', h3, eg, ee, hr, hk⟩ := step d h (List.mem_of_getElem? ed) i4
      have lt : h1.length < h.length := lt_of_get i1
      have l3' : h3[h1.length]? = some (.lst acc) := (hk.get _ lt (by omega) (by omega)).trans i1
      refine ⟨s', true, h, eg, rfl, ?_⟩
      rw [if_pos rfl]
      refine ⟨d', h3, ee, l3', ?_, by simp [i2], ?_, ?_⟩
      · rw [List.getElem?_set_self (lt_of_get l3')]
      · intro d hd
        rcases List.mem_append.mp hd with hd | hd
        · exact i3 d hd
        · rw [List.mem_singleton.mp hd]
          exact hr
      · exact (i4.trans hk).set (Nat.le_refl _) (by omega) (by omega))
  exact ⟨h', acc, e1, e2, e3, e4, e5⟩
/-- a comprehension over range(n) that may draw -/
theorem lc_bagR {a : VA} {vs : List Nat} {g : VP} {e : VE} {s : VS} {h h1 : VH} {n : Int} {b c : Nat} (R : D → Prop) (q : Hb b c h1) (ha : a s h = .ok ([.int n], h1)) (hn : n ≤ 1000000) (h0 : -1000000 ≤ n)
    (step : ∀ (k : Nat) h, (k : Int) < n → Keep b c h1 h → ∃ s' d' h3, g (.int (k : Int)) (vwipe s vs) = some s' ∧ e s' h = .ok (d', h3) ∧ R d' ∧ Keep b c h h3) :
    ∃ h' acc, vLc (vRng1 a) vs g vYes e s h = .ok (.ref h1.length, h') ∧ h'[h1.length]? = some (.lst acc) ∧ acc.length = n.toNat ∧ (∀ d ∈ acc, R d) ∧ Keep b c h1 h' := by
  have z := lc_bag (it := vRng1 a) (vs := vs) (g := g) (e := e) (s := s) (h := h) (h1 := h1) (src := fun _ => some (rangeD 0 1 n.toNat)) (ys := rangeD 0 1 n.toNat) R q
    (vRng1_of ha (by unfold inRng; exact decide_eq_true (by omega))) (fun _ => rfl) (by simp; omega) (fun d h hd k => by
      rw [rangeD_one] at hd
      obtain ⟨i, hi, rfl⟩ := List.mem_map.mp hd
      have := List.mem_range.mp hi
      rw [Int.zero_add]
      exact step i h (by omega) k)
  rwa [show (rangeD 0 1 n.toNat).length = n.toNat by simp] at z
end Vq

/-! Part 18: list(range(..)), sorted, more methods, bits. -/
namespace Vq
open PySem PySem.Spec PyProof.Rows L2

/-! ### list(range(..)) -/
theorem reps_rng (K : PySem.W.Frag) (w : Wd) (a b : Int) : Rps K w (rangeD a 1 (b - a).toNat) (rgV a b) := by
  have gen : ∀ l : List Nat, Rps K w (l.map fun (k : Nat) => D.int (a + (k : Int) * 1)) (l.map fun i => V.int (a + (i : Nat))) := by
    intro l
    induction l with
    | nil => exact .nil
    | cons x r ih =>
      have e : a + (x : Int) * 1 = a + (x : Nat) := by omega
      refine .cons (show Rp K w (D.int (a + (x : Int) * 1)) (V.int (a + (x : Nat))) from ?_) ih
      rw [e]
      exact .int _
  exact gen _
def rgB (a b : Int) : Bool := inRng a && inRng b && decide (b - a ≤ 16777216)
theorem rgB_ok {a b : Int} (h : rgB a b = true) : RgOk a b := by
  unfold rgB inRng at h
  simp only [Bool.and_eq_true, decide_eq_true_eq] at h
  unfold RgOk
  omega
def vLR1 (f : VE) : VE := fun s h => (f s h).bind fun p => match intD p.1 with
  | some b => if rgB 0 b = true then .ok (.ref p.2.length, p.2 ++ [.lst (rangeD 0 1 (b - 0).toNat)]) else .bad
  | none => .bad
def vLR2 (f g : VE) : VE := fun s h => (f s h).bind fun p => (g s p.2).bind fun q => match intD p.1, intD q.1 with
  | some a, some b => if rgB a b = true then .ok (.ref q.2.length, q.2 ++ [.lst (rangeD a 1 (b - a).toNat)]) else .bad
  | _, _ => .bad
section
variable {X : Cx} {W : WX} {a b : Expr} {fa fb : VE} {p p2 pos pos2 : Pos}
theorem qLR1 (hc : X.calm = true) (hm : X.mg "list" = none) (hm2 : X.mg "range" = none) (ha : PE X a (gE X W fa)) (hg : Gl X "list" := by rfl) (hg2 : Gl X "range" := by rfl)
    (na : starEach [a] X.env = (false, eval a X.env) :: starEach [] X.env := by rfl)
    (nb : starEach [Expr.Call (.Name "range" p2) [a] [] pos2] X.env = (false, eval (Expr.Call (.Name "range" p2) [a] [] pos2) X.env) :: starEach [] X.env := by rfl) :
    PE X (.Call (.Name "list" p) [.Call (.Name "range" p2) [a] [] pos2] [] pos) (gE X W (vLR1 fa)) :=
  PEw (pe_listRg hc hg hm (prg_1 hg2 hm2 ha na) nb) fun σ H Q ⟨w, s, hH, ok, sl, hp⟩ => by
    subst hH
    refine gE.seq ok sl (wE w Q) hp fun d w1 v ok1 x1 sl1 r1 hp1 => ?_
    simp only at hp1
    cases e : intD d with
    | none => rw [e] at hp1; exact hp1.elim
    | some n =>
      obtain ⟨rfl, rfl⟩ := intD_rp r1 e
      rw [e] at hp1
      simp only at hp1
      by_cases h : rgB 0 n = true
      · rw [if_pos h] at hp1
        exact ⟨n, rfl, rgB_ok h, fun q hq => hp1 (w1.newL q _ _) _ (ok1.newL hq (reps_rng X.K w1 0 n)) rfl (x1.trans (Wd.ext_newL hq)) at_newL⟩
      · rw [if_neg h] at hp1
        exact hp1.elim
theorem qLR2 (hc : X.calm = true) (hm : X.mg "list" = none) (hm2 : X.mg "range" = none) (ha : PE X a (gE X W fa)) (hb : PE X b (gE X W fb)) (hg : Gl X "list" := by rfl) (hg2 : Gl X "range" := by rfl)
    (na : starEach [a, b] X.env = (false, eval a X.env) :: starEach [b] X.env := by rfl) (nb : starEach [b] X.env = (false, eval b X.env) :: starEach [] X.env := by rfl) (hp : (backTo pos2 (starEach [b] X.env)).any (·.1) = false := by rfl)
    (nc : starEach [Expr.Call (.Name "range" p2) [a, b] [] pos2] X.env = (false, eval (Expr.Call (.Name "range" p2) [a, b] [] pos2) X.env) :: starEach [] X.env := by rfl) :
    PE X (.Call (.Name "list" p) [.Call (.Name "range" p2) [a, b] [] pos2] [] pos) (gE X W (vLR2 fa fb)) :=
  PEw (pe_listRg hc hg hm (prg_2 hg2 hm2 ha hb na nb hp) nc) fun σ H Q ⟨w, s, hH, ok, sl, hp⟩ => by
    subst hH
    refine gE.seq ok sl (wE w Q) hp fun d w1 v ok1 x1 sl1 r1 hp1 => ?_
    simp only at hp1
    refine gE.seq ok1 sl1 ((wE w Q).mono x1) hp1 fun d2 w2 v2 ok2 x2 sl2 r2 hp2 => ?_
    simp only at hp2
    cases e : intD d with
    | none => rw [e] at hp2; exact hp2.elim
    | some i =>
      obtain ⟨rfl, rfl⟩ := intD_rp r1 e
      cases e2 : intD d2 with
      | none => rw [e, e2] at hp2; exact hp2.elim
      | some j =>
        obtain ⟨rfl, rfl⟩ := intD_rp r2 e2
        rw [e, e2] at hp2
        simp only at hp2
        by_cases h : rgB i j = true
        · rw [if_pos h] at hp2
          exact ⟨i, j, rfl, rfl, rgB_ok h, fun q hq => hp2 (w2.newL q _ _) _ (ok2.newL hq (reps_rng X.K w2 i j)) rfl ((x1.trans x2).trans (Wd.ext_newL hq)) at_newL⟩
        · rw [if_neg h] at hp2
          exact hp2.elim
end

/-! ### sorted: ints, pairs of ints -/
def leP (x y : Int × Int) : Bool := decide (x.1 < y.1) || (decide (x.1 = y.1) && decide (x.2 ≤ y.2))
def srtI (l : List Int) : List Int := l.mergeSort fun x y => decide (x ≤ y)
def srtP (l : List (Int × Int)) : List (Int × Int) := l.mergeSort leP
theorem srtI_perm (l : List Int) : (srtI l).Perm l := List.mergeSort_perm ..
theorem srtP_perm (l : List (Int × Int)) : (srtP l).Perm l := List.mergeSort_perm ..
theorem srtI_sorted (l : List Int) : (srtI l).Pairwise (· ≤ ·) := by
  have z := List.pairwise_mergeSort (le := fun (x y : Int) => decide (x ≤ y)) (fun a b c h1 h2 => by simp at *; omega) (fun a b => by simp; omega) l
  exact z.imp fun h => by simpa using h
theorem leP_trans (a b c : Int × Int) (h1 : leP a b = true) (h2 : leP b c = true) : leP a c = true := by
  unfold leP at *
  simp at *
  omega
theorem leP_total (a b : Int × Int) : (leP a b || leP b a) = true := by
  unfold leP
  simp
  omega
theorem srtP_sorted (l : List (Int × Int)) : (srtP l).Pairwise fun x y => leP x y = true := List.pairwise_mergeSort leP_trans leP_total l
theorem sortedI_uniq {l m : List Int} (p : l.Perm m) (h1 : l.Pairwise (· ≤ ·)) (h2 : m.Pairwise (· ≤ ·)) : l = m :=
  p.eq_of_pairwise (fun a b _ _ h g => Int.le_antisymm h g) h1 h2
theorem leP_anti {a b : Int × Int} (h : leP a b = true) (g : leP b a = true) : a = b := by
  unfold leP at *
  obtain ⟨a1, a2⟩ := a
  obtain ⟨b1, b2⟩ := b
  simp at *
  omega
theorem sortedP_uniq {l m : List (Int × Int)} (p : l.Perm m) (h1 : l.Pairwise fun x y => leP x y = true) (h2 : m.Pairwise fun x y => leP x y = true) : l = m :=
  p.eq_of_pairwise (fun a b _ _ h g => leP_anti h g) h1 h2
end Vq
namespace Vq
open PySem PySem.Spec PyProof.Rows L2
def rSortedPT (K : PySem.W.Frag) : List V → Hp → VK → Prop := fun vs H Q => ∃ (a : Addr) (xs : List V) (k : V → Int × Int), vs = [V.ref a] ∧ SqL K H a xs ∧ (∀ x ∈ xs, ∃ t, x = V.ref t ∧ SqT K H t [.int (k x).1, .int (k x).2]) ∧
  ∀ ys p, SrtO.Srtd (ltP k) ys → SrtO.Stb (ltP k) ys xs → H p = none → Q (.ref p) (upd H p (.lst ys))
section
variable {X : Cx}
theorem cr_sortedPT : CallR X (.builtin "sorted") (rSortedPT X.K) := by
  intro pins s σ H vs us Q I r h
  obtain ⟨a, xs, k, rfl, hs, hx, q⟩ := h
  obtain ⟨its, rv, hl, hz⟩ := I.list hs
  obtain ⟨u, rfl, ru⟩ := vals1 r
  obtain rfl : u = Value.ref a := ru
  obtain ⟨e1, e2⟩ := refs_back rv fun x m => by
    obtain ⟨t, e, _⟩ := hx x m
    exact ⟨t, e⟩
  refine SrtO.sorted_pairsO (k := fun u => k (backV u)) hl.isList (by rw [← rv.length]; exact hz) (fun v hv => ?_) fun h' d out h1 h2 kp hd hn => ?_
  · obtain ⟨t, rfl⟩ := e2 v hv
    have hm : V.ref t ∈ xs := by rw [e1]; exact List.mem_map.mpr ⟨_, hv, rfl⟩
    obtain ⟨t', e, ht⟩ := hx _ hm
    cases e
    obtain ⟨its2, r2, ⟨o, ho, hc, n, hd⟩, _⟩ := I.tuple ht
    obtain ⟨u1, u2, e3, ri, rj⟩ := vals2 r2
    obtain ⟨t1, rfl⟩ := ri
    obtain ⟨t2, rfl⟩ := rj
    subst e3
    exact ⟨t, o, t1, t2, n, rfl, ho, hc, hd⟩
  · have h3 : ∀ u ∈ out, ∃ a, u = Value.ref a := fun u hu => e2 u (h2.perm.mem_iff.mp hu)
    obtain ⟨n, hn⟩ := hn
    have hb : SrtO.Stb (ltP k) (out.map backV) xs := by
      rw [e1]
      exact SrtO.Stb.map (ltP_swo k) backV h2
    refine ⟨.ref d, upd H d (.lst (out.map backV)), I.laid (t' := s.toks) kp hd ⟨?_, out, n, vals_back h3, hn⟩, rfl, q _ d (SrtO.srtd_map h1) hb (I.hok.fresh hd)⟩
    rw [hb.len]
    exact hz
/-- pairs of ints, at their addresses -/
inductive PairAt (K : PySem.W.Frag) (H : Hp) : List V → List (Int × Int) → Prop where
  | nil : PairAt K H [] []
  | cons {t : Addr} {p : Int × Int} {xs : List V} {ps : List (Int × Int)} (h : SqT K H t [.int p.1, .int p.2]) (r : PairAt K H xs ps) : PairAt K H (V.ref t :: xs) (p :: ps)
open Classical in
noncomputable def keyOf (K : PySem.W.Frag) (H : Hp) (x : V) : Int × Int := if h : ∃ p : Int × Int, ∃ t, x = V.ref t ∧ SqT K H t [.int p.1, .int p.2] then choose h else (0, 0)
theorem keyOf_is {pins : List (Addr × Obj)} {s : Shared} {σ : L2.St} {H : Hp} (I : Inv X pins σ H s) {t : Addr} {p : Int × Int} (h : SqT X.K H t [.int p.1, .int p.2]) : keyOf X.K H (V.ref t) = p := by
  have hex : ∃ p : Int × Int, ∃ t', V.ref t = V.ref t' ∧ SqT X.K H t' [.int p.1, .int p.2] := ⟨p, t, rfl, h⟩
  unfold keyOf
  rw [dif_pos hex]
  obtain ⟨t', e, q⟩ := Classical.choose_spec hex
  cases e
  have := I.tuple_inj q h
  simp only [List.cons.injEq, V.int.injEq, and_true] at this
  exact Prod.ext this.1 this.2
theorem keys_of {pins : List (Addr × Obj)} {s : Shared} {σ : L2.St} {H : Hp} (I : Inv X pins σ H s) : ∀ {xs : List V} {ps : List (Int × Int)}, PairAt X.K H xs ps →
    xs.map (keyOf X.K H) = ps ∧ ∀ x ∈ xs, ∃ t, x = V.ref t ∧ SqT X.K H t [.int (keyOf X.K H x).1, .int (keyOf X.K H x).2]
  | _, _, .nil => ⟨rfl, by simp⟩
  | _, _, .cons (t := t) (p := p) h r => by
    obtain ⟨e, hx⟩ := keys_of I r
    have k := keyOf_is I h
    refine ⟨by rw [List.map_cons, k, e], fun x hm => ?_⟩
    rcases List.mem_cons.mp hm with rfl | hm
    · exact ⟨t, rfl, by rw [k]; exact h⟩
    · exact hx x hm
def rSorted2 (K : PySem.W.Frag) : List V → Hp → VK → Prop := fun vs H Q => L2.rSortedI K vs H Q ∨ ∃ (a : Addr) (xs : List V) (ps : List (Int × Int)), vs = [V.ref a] ∧ SqL K H a xs ∧ PairAt K H xs ps ∧
  ∀ (k : V → Int × Int) ys p, xs.map k = ps → SrtO.Srtd (ltP k) ys → ys.Perm xs → H p = none → Q (.ref p) (upd H p (.lst ys))
theorem cr_sorted2 : CallR X (.builtin "sorted") (rSorted2 X.K) := by
  rintro pins s σ H vs us Q I r (h | ⟨a, xs, ps, rfl, h1, h2, q⟩)
  · exact cr_sortedI pins s σ H vs us Q I r h
  · obtain ⟨e, hx⟩ := keys_of I h2
    exact cr_sortedPT pins s σ H _ us Q I r ⟨a, xs, _, rfl, h1, hx, fun ys p so st hp => q _ ys p e so st.perm hp⟩
end
def pD (p : Int × Int) : D := .tup [.int p.1, .int p.2]
def pairD : D → Option (Int × Int)
  | .tup [.int i, .int j] => some (i, j)
  | _ => none
theorem pairD_inv {d : D} {p : Int × Int} (e : pairD d = some p) : d = pD p := by
  unfold pairD at e
  split at e
  · cases e; rfl
  · cases e
def pairsOf : List D → Option (List (Int × Int))
  | [] => some []
  | d :: r => (pairD d).bind fun i => (pairsOf r).map fun l => i :: l
theorem pairsOf_inv : ∀ {l : List D} {ps : List (Int × Int)}, pairsOf l = some ps → l = ps.map pD
  | [], ps, e => by cases e; rfl
  | d :: r, ps, e => by
    obtain ⟨i, e1, e⟩ := Option.bind_eq_some_iff.mp e
    obtain ⟨l, e2, rfl⟩ := Option.map_eq_some_iff.mp e
    rw [pairD_inv e1, pairsOf_inv e2]
    rfl
@[simp] theorem pairsOf_map (ps : List (Int × Int)) : pairsOf (ps.map pD) = some ps := by
  induction ps with
  | nil => rfl
  | cons p r ih => simp [pairsOf, ih, pairD, pD]
/-- which pair lies at an address -/

def bSorted : List D → VH → Option (D × VH) := fun xs h => (one xs).bind fun d => match d with
  | .ref n => (lk h n).bind fun l => match intsOf l with
    | some ns => some (.ref h.length, h ++ [.lst ((srtI ns).map .int)])
    | none => (pairsOf l).map fun ps => (.ref h.length, h ++ [.lst ((srtP ps).map pD)])
  | _ => none
theorem pairAt_of {K : PySem.W.Frag} {w : Wd} : ∀ {ps : List (Int × Int)} {vs : List V}, Rps K w (ps.map pD) vs → PairAt K w.H vs ps
  | [], _, .nil => .nil
  | p :: ps, _, .cons h r => by
    cases h with
    | tup hs rs =>
      cases rs with
      | cons a rs =>
        cases a
        cases rs with
        | cons b rs =>
          cases b
          cases rs
          exact .cons hs (pairAt_of r)
/-- a rearrangement keeps what each stands for -/
theorem reps_perm {K : PySem.W.Frag} {w : Wd} {ps : List (Int × Int)} {us ys : List V} {k : V → Int × Int} (r : Rps K w (ps.map pD) us) (e : us.map k = ps) (st : ys.Perm us) : Rps K w ((ys.map k).map pD) ys := by
  have one : ∀ {us : List V} {ps : List (Int × Int)}, Rps K w (ps.map pD) us → us.map k = ps → ∀ z ∈ us, Rp K w (pD (k z)) z := by
    intro us
    induction us with
    | nil => intro ps _ _ z hz; cases hz
    | cons u us ih =>
      intro ps r e z hz
      subst e
      cases r with
      | cons h r =>
        rcases List.mem_cons.mp hz with rfl | hz
        · exact h
        · exact ih r rfl z hz
  have gen : ∀ zs : List V, (∀ z ∈ zs, z ∈ us) → Rps K w ((zs.map k).map pD) zs := by
    intro zs
    induction zs with
    | nil => intro _; exact .nil
    | cons z r' ih =>
      intro hz
      exact .cons (one r e z (hz z (List.mem_cons_self ..))) (ih fun x hx => hz x (List.mem_cons_of_mem _ hx))
  exact gen ys fun z hz => st.mem_iff.mp hz
theorem sorted_cd (K : PySem.W.Frag) : CallD K (rSorted2 K) bSorted := fun w xs vs Q ok r h => by
  unfold bSorted at h
  cases e1 : one xs with
  | none => rw [e1] at h; exact h.elim
  | some d =>
    obtain ⟨v, _, rfl, rd⟩ := one_rps r e1
    rw [e1] at h
    simp only [Option.bind_some] at h
    cases rd with
    | @ref n hn =>
      simp only at h
      cases e2 : lk w.h n with
      | none => rw [e2] at h; exact h.elim
      | some l =>
        rw [e2] at h
        simp only [Option.bind_some] at h
        obtain ⟨us, h1, h2⟩ := lk_sq ok e2
        cases e3 : intsOf l with
        | some ns =>
          rw [e3] at h
          have hu : us = ns.map V.int := intsOf_rps h2 e3
          rw [hu] at h1
          refine .inl ⟨_, ns, rfl, h1, fun ns' p pm so hp => ?_⟩
          have e : ns' = srtI ns := sortedI_uniq (pm.trans (srtI_perm ns).symm) so (srtI_sorted ns)
          rw [e]
          exact h (w.newL p _ _) _ (ok.newL hp (reps_ints K w.ι w.h.length w.H (srtI ns))) rfl (Wd.ext_newL hp) at_newL
        | none =>
          rw [e3] at h
          simp only at h
          cases e4 : pairsOf l with
          | none => rw [e4] at h; exact h.elim
          | some ps =>
            rw [e4] at h
            simp only [Option.map_some] at h
            rw [pairsOf_inv e4] at h2
            refine .inr ⟨_, us, ps, rfl, h1, pairAt_of h2, fun k ys p k1 so st hp => ?_⟩
            have e : ys.map k = srtP ps := by
              refine sortedP_uniq ?_ ?_ (srtP_sorted ps)
              · rw [← k1]
                exact (st.map k).trans (srtP_perm _).symm
              · rw [List.pairwise_map]
                exact so.imp fun {x y} hh => by
                  have := SrtO.lexB_no.mp hh
                  unfold leP
                  simp
                  omega
            have ry := reps_perm h2 k1 st
            rw [e] at ry
            exact h (w.newL p _ _) _ (ok.newL hp ry) rfl (Wd.ext_newL hp) at_newL
    | _ => exact h.elim
end Vq

namespace Vq
open PySem PySem.Spec PyProof.Rows L2
/-- xs.extend(t), t a tuple of whatever making -/
theorem ext_tup {l b : Addr} {xs ys : Array Value} {n k : Nat} {dd : Option Addr} {sl : Array (Option Value)} (h0 : ¬(!xs.isEmpty && Builtin.List.listTooLong (xs.size + ys.size)) = true) (h1 : xs.size ≤ sizeLine) (h2 : xs.size + ys.size ≤ sizeLine + 1) :
    Meets (Builtin.«list.extend» ⟨[.ref l, .ref b], []⟩) fun _ R s => s.heap.get? l = some ⟨.type "list", none, .seq xs n, #[]⟩ ∧ s.heap.get? b = some ⟨.type "tuple", dd, .seq ys k, sl⟩ ∧
      R (.ok (.ret Value.none)) { s with heap := s.heap.update l (Obj.mapSeq fun z => z ++ ys), toks := s.toks } :=
  .of_wp fun prog w A R s h => by
    obtain ⟨hp, g, dr, tk, os⟩ := s
    obtain ⟨hl, hb, h⟩ := h
    have e1 := AutoSeq1.idx_int
    have e2 := AutoSeq1.sub_tuple_tuple
    have e3 := AutoSeq1.sub_list_list
    have e4 := AutoSeq1.sub_tuple_list
    have e5 := AutoSeq1.sub_list_tuple
    have hz : (xs ++ ys).size ≤ sizeLine + 1 := by rw [Array.size_append]; exact h2
    wp_walk using (wpAny_updateSeq hl rfl (hz := h1) (_hz' := hz)), AutoSeq1.wpAny_loadPart' hl, AutoSeq1.wpAny_loadPart' hb
    exact ⟨_, rfl, h⟩
variable {X : Cx}
def rExtT (K : PySem.W.Frag) : V → List V → Hp → VK → Prop := fun x vs H Q => ∃ l b xs zs, x = V.ref l ∧ vs = [V.ref b] ∧ H l = some (.lst xs) ∧ SqT K H b zs ∧ xs.length + zs.length ≤ sizeLine ∧ Q .non (upd H l (.lst (xs ++ zs)))
theorem mt_extT : MtR X "list.extend" (rExtT X.K) := by
  intro pins s σ H x vs v us Q I rx rv h
  obtain ⟨l, b, xs, zs, rfl, rfl, hH, hB, hz, q⟩ := h
  cases rx
  obtain ⟨u, rfl, ru⟩ := rv.one
  cases ru
  obtain ⟨z, its, n, r, hl, e⟩ := I.lstM hH
  obtain ⟨its2, r2, ⟨⟨cls, dd, data, sl⟩, e2, hc, n2, hd⟩, hz2⟩ := I.tuple hB
  simp only at hc hd
  subst hc hd
  have l2 := r2.length
  have hsz : its.toArray.size + its2.toArray.size ≤ sizeLine := by
    rw [List.size_toArray, List.size_toArray]
    omega
  have hlong : ¬(!its.toArray.isEmpty && Builtin.List.listTooLong (its.toArray.size + its2.toArray.size)) = true := by
    rw [notLongL hsz, Bool.and_false]
    exact Bool.false_ne_true
  refine call_meets F.slot_list_extend ⟨_, e, rfl⟩ F.entry_list_extend (F.args_list_extend_2 _ _) (ext_tup (k := n2) (dd := dd) (sl := sl) hlong (by rw [List.size_toArray]; omega) (by omega)) ⟨e, e2, ?_⟩
  refine ⟨.non, _, I.lset (its' := its ++ its2) hH e (by simp) (r.append r2) ?_, rfl, q⟩
  rw [List.length_append]
  omega

theorem mt_ext2 : MtR X "list.extend" (fun x vs H Q => rExtend x vs H Q ∨ rExtT X.K x vs H Q) := by
  intro pins s σ H x vs v us Q I rx rv h
  rcases h with h | h
  · exact mt_extend pins s σ H x vs v us Q I rx rv h
  · exact mt_extT pins s σ H x vs v us Q I rx rv h
def mExt2 (x : D) (xs : List D) (h : VH) : Option (D × VH) := (lstAt h x).bind fun p => (one xs).bind fun d => match d with
  | .tup l => if p.2.length + l.length ≤ sizeLine then some (.non, h.set p.1 (.lst (p.2 ++ l))) else none
  | _ => mExtend x xs h
theorem ext2_mtd (K : PySem.W.Frag) : MtD K (fun x vs H Q => rExtend x vs H Q ∨ rExtT K x vs H Q) mExt2 := fun w x xs vx vs Q ok rx rs h => by
  unfold mExt2 at h
  cases e1 : lstAt w.h x with
  | none => rw [e1] at h; exact h.elim
  | some p =>
    rw [e1] at h
    simp only [Option.bind_some] at h
    cases e2 : one xs with
    | none => rw [e2] at h; exact h.elim
    | some d =>
      rw [e2] at h
      simp only [Option.bind_some] at h
      cases d with
      | tup k =>
        obtain ⟨n, l⟩ := p
        obtain ⟨rfl, en, rfl, us, g1, g2⟩ := lstAt_rp ok rx e1
        obtain ⟨v, _, rfl, rd⟩ := one_rps rs e2
        simp only at h
        by_cases hl : l.length + k.length ≤ sizeLine
        · rw [if_pos hl] at h
          cases rd with
          | tup ht rt =>
            rename_i a zs
            obtain ⟨ok', x'⟩ := ok.putL (ds := l ++ k) (vs := us ++ zs) en (g2.append rt)
            exact .inr ⟨_, _, us, zs, rfl, rfl, g1, ht, by rw [← RepL.length g2, ← RepL.length rt]; exact hl, h (w.putL n _ _) _ ok' rfl x' .non⟩
        · rw [if_neg hl] at h
          exact h.elim
      | _ => exact .inl (extend_mtd K w x xs vx vs Q ok rx rs h)
/-- xs.pop(i), i not below 0 -/
def mPopI (x : D) (xs : List D) (h : VH) : Option (D × VH) := (lstAt h x).bind fun p => (int1 xs).bind fun i => if 0 ≤ i ∧ i < 2 ^ 62 then (p.2[i.toNat]?).map fun d => (d, h.set p.1 (.lst (p.2.eraseIdx i.toNat))) else none
theorem popI_mtd (K : PySem.W.Frag) : MtD K rPopAt mPopI := fun w x xs vx vs Q ok rx rs h => by
  unfold mPopI at h
  cases e1 : lstAt w.h x with
  | none => rw [e1] at h; exact h.elim
  | some p =>
    obtain ⟨n, l⟩ := p
    obtain ⟨rfl, en, rfl, us, g1, g2⟩ := lstAt_rp ok rx e1
    rw [e1] at h
    simp only [Option.bind_some] at h
    cases e2 : int1 xs with
    | none => rw [e2] at h; exact h.elim
    | some i =>
      have ev := int1_rps rs e2
      subst ev
      rw [e2] at h
      simp only [Option.bind_some] at h
      by_cases hi : 0 ≤ i ∧ i < 2 ^ 62
      · rw [if_pos hi] at h
        cases e3 : l[i.toNat]? with
        | none => rw [e3] at h; exact h.elim
        | some d =>
          rw [e3] at h
          obtain ⟨v, ev, rv⟩ := RepL.get g2 e3
          obtain ⟨ok', x'⟩ := ok.putL (ds := l.eraseIdx i.toNat) (vs := us.eraseIdx i.toNat) en (RepL.eraseIdx _ g2)
          have hlt : i.toNat < us.length := (List.getElem?_eq_some_iff.mp ev).1
          refine ⟨_, us, i, i.toNat, v, rfl, rfl, g1, by omega, by omega, ?_, ev, h (w.putL n _ _) v ok' rfl x' (x'.rp rv)⟩
          unfold seqIndex?
          rw [if_neg (show ¬ i < 0 by omega)]
          have : (decide (0 ≤ i) && decide (i < (us.length : Int))) = true := by
            rw [decide_eq_true hi.1, decide_eq_true (show i < (us.length : Int) by omega)]
            rfl
          rw [if_pos this]
      · rw [if_neg hi] at h
        exact h.elim
/-- where the first like y stands -/
def findF (y : D) : List D → Option Nat
  | [] => none
  | d :: r => if eqF d y = true then some 0 else (findF y r).map (· + 1)
theorem findF_is {y : D} : ∀ {l : List D} {j : Nat}, findF y l = some j → ∃ d, l[j]? = some d ∧ eqF d y = true ∧ ∀ (m : Nat) (z : D), m < j → l[m]? = some z → eqF z y = false
  | [], _, e => by cases e
  | d :: r, j, e => by
    unfold findF at e
    by_cases h : eqF d y = true
    · rw [if_pos h] at e
      cases e
      exact ⟨d, rfl, h, fun m z hm => absurd hm (Nat.not_lt_zero _)⟩
    · rw [if_neg h] at e
      obtain ⟨k, ek, rfl⟩ := Option.map_eq_some_iff.mp e
      obtain ⟨x, h1, h2, h3⟩ := findF_is ek
      refine ⟨x, by simpa using h1, h2, fun m z hm hz => ?_⟩
      cases m with
      | zero =>
        cases hz
        simpa using h
      | succ m => exact h3 m z (by omega) (by simpa using hz)
def mIndex (x : D) (xs : List D) (h : VH) : Option (D × VH) := (seqOf h x).bind fun l => (one xs).bind fun y => if (flatD y && l.all flatD) = true then (findF y l).map fun j => (.int (j : Nat), h) else none
def mIdx (x : D) (xs : List D) (h : VH) : Option (D × VH) := match x with
  | .ref n => mIndex (.ref n) xs h
  | _ => none
theorem index_mtd (K : PySem.W.Frag) : MtD K (rIndex K) mIdx := fun w x xs vx vs Q ok rx rs h => by
  unfold mIdx at h
  cases x with
  | ref n =>
    simp only at h
    unfold mIndex at h
    cases e1 : lk w.h n with
    | none => rw [show seqOf w.h (.ref n) = lk w.h n from rfl, e1] at h; exact h.elim
    | some l =>
      rw [show seqOf w.h (.ref n) = lk w.h n from rfl, e1] at h
      simp only [Option.bind_some] at h
      cases rx
      obtain ⟨us, h1, h2⟩ := lk_sq ok e1
      cases e2 : one xs with
      | none => rw [e2] at h; exact h.elim
      | some y =>
        obtain ⟨v, _, rfl, ry⟩ := one_rps rs e2
        rw [e2] at h
        simp only [Option.bind_some] at h
        by_cases hf : (flatD y && l.all flatD) = true
        · rw [if_pos hf] at h
          rw [Bool.and_eq_true] at hf
          cases e3 : findF y l with
          | none => rw [e3] at h; exact h.elim
          | some j =>
            rw [e3] at h
            obtain ⟨d, g1, g2, g3⟩ := findF_is e3
            obtain ⟨z, ez, rz⟩ := RepL.get h2 g1
            have fl : ∀ {i : Nat} {e : D}, l[i]? = some e → flatD e = true := fun he => List.all_eq_true.mp hf.2 _ (List.mem_of_getElem? he)
            refine ⟨_, us, v, j, z, rfl, rfl, h1, flat_rp ry hf.1, all_flat h2 hf.2, ez, by rw [eqF_rp rz ry (fl g1) hf.1]; exact g2, fun m z' hm hz' => ?_, h w _ ok rfl (.refl w) (.int _)⟩
            have hm' : m < l.length := by
              rw [RepL.length h2]
              exact (List.getElem?_eq_some_iff.mp hz').1
            obtain ⟨u, eu, ru⟩ := RepL.get h2 (List.getElem?_eq_getElem hm')
            rw [hz'] at eu
            cases eu
            rw [eqF_rp ru ry (fl (List.getElem?_eq_getElem hm')) hf.1]
            exact g3 m _ hm (List.getElem?_eq_getElem hm')
        · rw [if_neg hf] at h
          exact h.elim
  | _ => exact h.elim
end Vq

/-! Part 19: walks from behind, bits. -/
namespace Vq
open PySem PySem.Spec PyProof.Rows L2
section
variable {X : Cx} {W : WX}
/-- from behind: the length must stay -/
def revOf (h0 : VH) (d : D) : Option (VH → Option (List D)) := match d with
  | .tup l => some fun _ => some l.reverse
  | .ref n => (lk h0 n).map fun l0 h => (lk h n).bind fun l => if l.length = l0.length then some l.reverse else none
  | _ => none
def vRev (f : VE) : VI := fun s h => (f s h).bind fun p => match revOf p.2 p.1 with
  | some src => .ok (src, p.2)
  | none => .bad
theorem rev_get {α : Type} {l : List α} {i n : Nat} (hn : l.length = n) : (l.reverse[i]? = none → n ≤ i) ∧ ∀ d, l.reverse[i]? = some d → i < n ∧ l[n - 1 - i]? = some d := by
  subst hn
  refine ⟨fun h => by simpa using h, fun d h => ?_⟩
  have hi : i < l.length := by
    have := (List.getElem?_eq_some_iff.mp h).1
    simpa using this
  rw [List.getElem?_reverse hi] at h
  exact ⟨hi, h⟩
theorem qRev {tg e : Expr} {f : VE} {p pos : Pos} (hm : X.mg "reversed" = none) (he : PE X e (gE X W f)) (hg : Gl X "reversed" := by rfl) (hs : starEach [e] X.env = (false, eval e X.env) :: starEach [] X.env := by rfl) :
    PI X tg (.Call (.Name "reversed" p) [e] [] pos) (gI X W (vRev f)) :=
  PIw (RT.pi_revA hg hm he hs) fun σ H R ⟨w, s, hH, ok, sl, hp⟩ => by
    subst hH
    unfold vRev at hp
    refine ⟨w, s, rfl, ok, sl, ?_⟩
    cases e1 : f s w.h with
    | bad => rw [e1] at hp; exact hp.elim
    | ex x s' h' => rw [e1] at hp; exact hp
    | ok p =>
      obtain ⟨d, h1⟩ := p
      rw [e1] at hp
      simp only [Res.ok_bind] at hp
      intro w1 v ok1 eh x1 r1
      cases d with
      | tup ds =>
        have r1' : RepV X.K w1.ι w1.h.length w1.H (.tup ds) v := r1
        cases r1' with
        | @tup a vs _ hq rr =>
          refine ⟨a, vs, rfl, .inr ⟨hq, hp w1 _ ok1 eh x1 fun w' i ys x' ok' e' => ?_⟩⟩
          cases e'
          have h' := x'.tup _ _ hq
          have hl := RepL.length rr
          have g := rev_get (l := ds) (i := i) hl
          refine ⟨g.1, fun d ed => ?_⟩
          obtain ⟨hi, ed'⟩ := g.2 d ed
          obtain ⟨v, ev, rv⟩ := (x'.rps rr).get ed'
          refine ⟨⟨hi, vs, v, h', ev⟩, fun x2 H' ⟨eH, ex⟩ => ⟨w', eH.symm, rfl, ok', .refl w', ?_⟩⟩
          have z := ex vs h'
          rw [ev] at z
          cases z
          exact rv
      | ref n =>
        have eh' : w1.h = h1 := eh
        have r1' : RepV X.K w1.ι w1.h.length w1.H (.ref n) v := r1
        cases r1' with
        | ref hn =>
          cases el : lk h1 n with
          | none => simp only [revOf, el, Option.map_none] at hp; exact hp.elim
          | some l0 =>
            simp only [revOf, el, Option.map_some] at hp
            obtain ⟨vs, g1, g2⟩ := lk_sq ok1 (by rw [eh']; exact el)
            refine ⟨_, vs, rfl, .inl ⟨g1, hp w1 _ ok1 eh x1 fun w' i ys x' ok' e' => ?_⟩⟩
            obtain ⟨l, e2, e3⟩ := Option.bind_eq_some_iff.mp e'
            by_cases hl : l.length = l0.length
            · rw [if_pos hl] at e3
              cases e3
              obtain ⟨us, k1, k2⟩ := lk_sq ok' e2
              rw [x'.ι n hn] at k1
              have hlv : l.length = vs.length := by rw [hl, RepL.length g2]
              have g := rev_get (l := l) (i := i) hlv
              refine ⟨g.1, fun d ed => ?_⟩
              obtain ⟨hi, ed'⟩ := g.2 d ed
              obtain ⟨v, ev, rv⟩ := RepL.get k2 ed'
              refine ⟨⟨hi, us, v, k1, ev⟩, fun x2 H' ⟨eH, ex⟩ => ⟨w', eH.symm, rfl, ok', .refl w', ?_⟩⟩
              have z := ex us k1
              rw [ev] at z
              cases z
              exact rv
            · rw [if_neg hl] at e3
              cases e3
      | _ => exact hp.elim
end

/-! ### bits -/
def shlOk (i j : Int) : Bool := decide (0 ≤ j) && decide ((Builtin.Int.intBits i : Int) + j ≤ 2 ^ 27)
def aShl := ii fun i j => if shlOk i j then some (.int (i * 2 ^ j.toNat)) else none
theorem shl_ii (K : PySem.W.Frag) : OpD K (rI CShl fun i j => .int (i * 2 ^ j.toNat)) aShl := opd_ii fun i j d H Q e q => by
  by_cases h : shlOk i j = true
  · rw [if_pos h] at e
    cases e
    unfold shlOk at h
    simp only [Bool.and_eq_true, decide_eq_true_eq] at h
    exact ⟨i, j, rfl, rfl, h, q _ fun _ => .int _⟩
  · rw [if_neg h] at e
    cases e
def aShr := ii fun i j => if 0 ≤ j then some (.int (i / 2 ^ j.toNat)) else none
theorem shr_ii (K : PySem.W.Frag) : OpD K (rI (fun _ j => 0 ≤ j) fun i j => .int (i / 2 ^ j.toNat)) aShr := opd_ii fun i j d H Q e q => by
  by_cases h : 0 ≤ j
  · rw [if_pos h] at e
    cases e
    exact ⟨i, j, rfl, rfl, h, q _ fun _ => .int _⟩
  · rw [if_neg h] at e
    cases e
def aAnd := ii fun i j => some (.int (Builtin.bitAnd i j))
theorem and_ii (K : PySem.W.Frag) : OpD K (rI0 fun i j => .int (Builtin.bitAnd i j)) aAnd := opd_ii fun i j d H Q e q => by
  cases e
  exact ⟨i, j, rfl, rfl, q _ fun _ => .int _⟩
def aOr := ii fun i j => some (.int (Builtin.bitOr i j))
theorem or_ii (K : PySem.W.Frag) : OpD K (rI0 fun i j => .int (Builtin.bitOr i j)) aOr := opd_ii fun i j d H Q e q => by
  cases e
  exact ⟨i, j, rfl, rfl, q _ fun _ => .int _⟩
def aXor := ii fun i j => some (.int (Builtin.bitXor i j))
theorem xor_ii (K : PySem.W.Frag) : OpD K (rI0 fun i j => .int (Builtin.bitXor i j)) aXor := opd_ii fun i j d H Q e q => by
  cases e
  exact ⟨i, j, rfl, rfl, q _ fun _ => .int _⟩
end Vq

/-! Part 20: constants of the text's top, isinstance, more methods. -/
namespace Vq
open PySem PySem.Spec PyProof.Rows L2
section
variable {X : Cx} {W : WX}
/-- a name that the text's top has made, an int -/
theorem qGi {x : Str} {i : Int} {pos : Pos} (hm : ∃ t, X.mg x = some (.int i t)) (hg : Gl X x := by rfl) (hd : (x == ("__debug__" : Str)) = false := by decide) : PE X (.Name x pos) (gE X W (vC (.int i))) := by
  obtain ⟨t, hm⟩ := hm
  exact PEw (pe_glob (v := .int i) hg hm ⟨t, rfl⟩ hd) fun σ H Q ⟨w, s, hH, ok, sl, hp⟩ => by
    subst hH
    exact hp w (.int i) ok rfl (.refl w) (.int i)
/-- .. a truth value -/
theorem qGb {x : Str} {b : Bool} {pos : Pos} (hm : X.mg x = some (.bool b)) (hg : Gl X x := by rfl) (hd : (x == ("__debug__" : Str)) = false := by decide) : PE X (.Name x pos) (gE X W (vC (.bl b))) :=
  PEw (pe_glob (v := .bl b) hg hm rfl hd) fun σ H Q ⟨w, s, hH, ok, sl, hp⟩ => by
    subst hH
    exact hp w (.bl b) ok rfl (.refl w) (.bl b)
/-- .. a text -/
theorem qGs {x y : Str} {pos : Pos} (hm : ∃ t, X.mg x = some (.str y t)) (hg : Gl X x := by rfl) (hd : (x == ("__debug__" : Str)) = false := by decide) : PE X (.Name x pos) (gE X W (vC (.str y))) := by
  obtain ⟨t, hm⟩ := hm
  exact PEw (pe_glob (v := .str y) hg hm ⟨t, rfl⟩ hd) fun σ H Q ⟨w, s, hH, ok, sl, hp⟩ => by
    subst hH
    exact hp w (.str y) ok rfl (.refl w) (.str y)

/-! ### isinstance -/
def tyNm : D → String
  | .non => "NoneType"
  | .bl _ => "bool"
  | .int _ => "int"
  | .str _ => "str"
  | .tup _ => "tuple"
  | .ftup _ => "tuple"
  | .ref _ => "list"
theorem tyNm_is {K : PySem.W.Frag} {w : Wd} {d : D} {v : V} (ok : w.Ok K) (r : Rp K w d v) : TyX K w.H v (.type (tyNm d)) := by
  cases r with
  | non => exact .base .non
  | bl b => exact .base (.bl b)
  | int i => exact .base (.int i)
  | str s => exact .base (.str s)
  | tup h r =>
    rcases h with (h | ⟨ob, h⟩) | ⟨o, its, n, hk, hc, _⟩
    · exact .base (.tup h)
    · exact .fTuple h
    · exact .kTuple hk hc
  | ftup h r => exact .fTuple h.choose_spec.1
  | @ref n hn =>
    have : ∃ ds, lk w.h n = some ds := by
      unfold lk
      rw [List.getElem?_eq_getElem hn]
      cases w.h[n] <;> exact ⟨_, rfl⟩
    obtain ⟨ds, e⟩ := this
    obtain ⟨vs, h, _⟩ := lk_sq ok e
    rcases h with (h | ⟨ob, h⟩) | ⟨o, its, n, hk, hc, _⟩
    · exact .base (.lst h)
    · exact .base (.frz h)
    · exact .kList hk hc
def vIsi (T : String) (f : VE) : VE := fun s h => (f s h).bind fun p => match kitB (tyNm p.1) T with
  | some b => .ok (.bl b, p.2)
  | none => .bad
theorem qIsi {e : Expr} {f : VE} {T : Str} {Ts : String} {p p2 pos : Pos} (hm : X.mg "isinstance" = none) (hmT : X.mg T = none) (he : PE X e (gE X W f)) (hv : bootBuiltins T = some (.type Ts) := by decide +kernel)
    (hg : Gl X "isinstance" := by rfl) (hgT : Gl X T := by rfl) (hn : T ≠ "__name__" := by decide) (hd : (T == ("__debug__" : Str)) = false := by decide)
    (h1 : starEach [e, .Name T p2] X.env = (false, eval e X.env) :: starEach [.Name T p2] X.env := by rfl) (h2 : starEach [.Name T p2] X.env = (false, eval (.Name T p2) X.env) :: starEach [] X.env := by rfl)
    (h3 : (backTo pos (starEach [.Name T p2] X.env)).any (·.1) = false := by rfl) :
    PE X (.Call (.Name "isinstance" p) [e, .Name T p2] [] pos) (gE X W (vIsi Ts f)) :=
  PEw (pe_callB call_isi hg hm (by decide +kernel) (pa_cons he (pa_cons (pe_bltn (v := .ty Ts) hgT hmT hv rfl hn hd) pa_nil h2) h1) (by decide) (by decide) h1 h3) fun σ H Q ⟨w, s, hH, ok, sl, hp⟩ => by
    subst hH
    refine gE.seq ok sl (wE w Q) hp fun d w1 v ok1 x1 sl1 r1 hp1 => ?_
    simp only at hp1
    cases e : kitB (tyNm d) Ts with
    | none => rw [e] at hp1; exact hp1.elim
    | some b =>
      rw [e] at hp1
      exact ⟨v, .ty Ts, .type (tyNm d), .type Ts, b, rfl, .ty Ts, tyNm_is ok1 r1, kit_ty e, hp1 w1 _ ok1 rfl x1 (.bl b)⟩
end
end Vq

/-! Part 21: values of the new words. -/
namespace Vq
open PySem PySem.Spec PyProof.Rows L2
theorem tyL_of {h : VH} {n : Nat} {l : List D} (e : lk h n = some l) : tyD "list" (.ref n) h = true := by simp [tyD, e]
theorem mAppend_of {h : VH} {n : Nat} {l : List D} {d : D} (e : h[n]? = some (.lst l)) (hz : l.length < 16777216) : mAppend (.ref n) [d] h = some (.non, h.set n (.lst (l ++ [d]))) := by
  unfold mAppend
  rw [lstAt_of e]
  simp [lt_line hz]
theorem mPopI_of {h : VH} {n : Nat} {l : List D} {i : Int} {d : D} (e : h[n]? = some (.lst l)) (h0 : 0 ≤ i) (h1 : i ≤ 1000000) (ed : l[i.toNat]? = some d) : mPopI (.ref n) [.int i] h = some (d, h.set n (.lst (l.eraseIdx i.toNat))) := by
  unfold mPopI
  rw [lstAt_of e]
  have : 0 ≤ i ∧ i < 2 ^ 62 := ⟨h0, by omega⟩
  simp only [Option.bind_some, int1_1]
  rw [if_pos this, ed]
  rfl
theorem mExt2_t {h : VH} {n : Nat} {l k : List D} (e : h[n]? = some (.lst l)) (hz : l.length + k.length ≤ 16777216) : mExt2 (.ref n) [.tup k] h = some (.non, h.set n (.lst (l ++ k))) := by
  unfold mExt2
  rw [lstAt_of e]
  simp [le_line hz]
theorem mExt2_r {h : VH} {n m : Nat} {l k : List D} (e : h[n]? = some (.lst l)) (e2 : h[m]? = some (.lst k)) (hz : l.length + k.length ≤ 16777216) : mExt2 (.ref n) [.ref m] h = some (.non, h.set n (.lst (l ++ k))) := by
  unfold mExt2 mExtend
  rw [lstAt_of e]
  simp [le_line hz, lstAt_of e2]
theorem intsOf_pD (p : Int × Int) (r : List (Int × Int)) : intsOf ((p :: r).map pD) = none := rfl
theorem bSorted_I {h : VH} {n : Nat} {l : List Int} (e : lk h n = some (l.map .int)) : bSorted [.ref n] h = some (.ref h.length, h ++ [.lst ((srtI l).map .int)]) := by
  unfold bSorted
  simp [e]
theorem bSorted_P {h : VH} {n : Nat} {l : List (Int × Int)} (e : lk h n = some (l.map pD)) : bSorted [.ref n] h = some (.ref h.length, h ++ [.lst ((srtP l).map pD)]) := by
  cases l with
  | nil =>
    have z := bSorted_I (l := []) e
    rw [z]
    have a1 : srtI [] = [] := by simp [srtI]
    have a2 : srtP [] = [] := by simp [srtP]
    rw [a1, a2]
    rfl
  | cons p r =>
    unfold bSorted
    have : intsOf (pD p :: r.map pD) = none := intsOf_pD p r
    have h2 : pairsOf (pD p :: r.map pD) = some (p :: r) := pairsOf_map (p :: r)
    simp [e, this, h2]
theorem dAdd_L {h : VH} {n m : Nat} {a b : List D} (e1 : h[n]? = some (.lst a)) (e2 : h[m]? = some (.lst b)) (hz : a.length + b.length ≤ 16777216) : dAdd (.ref n) (.ref m) h = some (.ref h.length, h ++ [.lst (a ++ b)]) := by
  unfold dAdd orD aAdd ii tAddT tAddL
  simp [e1, e2, le_line hz]
theorem sIx_nn {n d : Nat} {i : Int} (h0 : 0 ≤ i) : HT.sIx n d (some i) = min i.toNat n := by
  show (if i < 0 then (i + (n : Int)).toNat else min i.toNat n) = _
  rw [if_neg (by omega)]
theorem cut_to (l : List D) {i : Int} (h0 : 0 ≤ i) : cutD l none (some i) = l.take i.toNat := by
  unfold cutD
  rw [sIx_nn h0, show HT.sIx l.length 0 none = 0 from rfl]
  simp only [List.drop_zero, Nat.sub_zero]
  rcases Nat.le_total i.toNat l.length with h | h
  · rw [Nat.min_eq_left h]
  · rw [Nat.min_eq_right h, List.take_of_length_le (Nat.le_refl _), List.take_of_length_le h]
theorem cut_from (l : List D) {i : Int} (h0 : 0 ≤ i) : cutD l (some i) none = l.drop i.toNat := by
  unfold cutD
  rw [sIx_nn h0, show HT.sIx l.length l.length none = l.length from rfl]
  rcases Nat.le_total i.toNat l.length with h | h
  · rw [Nat.min_eq_left h, List.take_of_length_le (by simp)]
  · rw [Nat.min_eq_right h, List.drop_eq_nil_of_le h, List.drop_eq_nil_of_le (Nat.le_refl _)]
    simp
theorem slD_to {h : VH} {n : Nat} {l : List D} {i : Int} (e : lk h n = some l) (h0 : 0 ≤ i) : slD (.ref n) none (some i) h = some (.ref h.length, h ++ [.lst (l.take i.toNat)]) := by
  unfold slD
  simp [e, cut_to l h0]
theorem slD_from {h : VH} {n : Nat} {l : List D} {i : Int} (e : lk h n = some l) (h0 : 0 ≤ i) : slD (.ref n) (some i) none h = some (.ref h.length, h ++ [.lst (l.drop i.toNat)]) := by
  unfold slD
  simp [e, cut_from l h0]
/-- lists of plain data of one kind -/
theorem eqLp {α : Type} [DecidableEq α] [Pl α] (hd : Pl.dep α ≤ 60) (neg : Bool) {h : VH} {n m : Nat} {a b : List α} (e1 : lk h n = some (a.map Pl.d)) (e2 : lk h m = some (b.map Pl.d)) :
    eqWith neg (.ref n) (.ref m) h = some (.bl (if neg then !decide (a = b) else decide (a = b)), h) := by
  have p1 := py_ref (ps := a.map Pl.p) e1 fun f => pl_pyL f a
  have p2 := py_ref (ps := b.map Pl.p) e2 fun f => pl_pyL f b
  have sh : ∀ a : List α, SeqAt.shaped (.list (a.map Pl.p)) = true := fun a => by
    unfold SeqAt.shaped
    have h1 : PyData.canLay0 (.list (a.map Pl.p)) = true := by
      simp only [PyData.canLay0]
      exact pl_lay a
    have h2 : PyData.depth (.list (a.map Pl.p)) ≤ 64 := by
      simp only [PyData.depth]
      have : PyData.depthAll (a.map Pl.p) ≤ Pl.dep α := pl_depth a
      omega
    rw [h1, decide_eq_true h2]
    rfl
  have e : PyData.eqv (.list (a.map Pl.p)) (.list (b.map Pl.p)) = decide (a = b) := by
    simp only [PyData.eqv]
    exact pl_eq a b
  unfold eqWith
  simp only [p1, p2, sh, Bool.and_self, if_true, e]
theorem dNe_P {h : VH} {n m : Nat} {a b : List (Int × Int)} (e1 : lk h n = some (a.map pD)) (e2 : lk h m = some (b.map pD)) : dNe (.ref n) (.ref m) h = some (.bl (!decide (a = b)), h) := eqLp (α := Int × Int) (by decide) true e1 e2
theorem dEq_P {h : VH} {n m : Nat} {a b : List (Int × Int)} (e1 : lk h n = some (a.map pD)) (e2 : lk h m = some (b.map pD)) : dEq (.ref n) (.ref m) h = some (.bl (decide (a = b)), h) := eqLp (α := Int × Int) (by decide) false e1 e2
end Vq

/-! Part 22: repr of plain data of any mixture. -/
namespace Vq
open PySem PySem.Spec PyProof.Rows L2
def pyOf (d : D) : PyData := (pyD (fun _ => none) d).getD .none
/-- plain: no list within, at most k deep, all of it may be shown -/
structure PlD (k : Nat) (d : D) : Prop where
  hp : ∀ f, pyD f d = some (pyOf d)
  lay : (pyOf d).canLay0 = true
  dep : (pyOf d).depth ≤ k
  sho : (pyOf d).showable = true
def sz (d : D) : Nat := size (pyOf d)
theorem PlD.mono {k j : Nat} {d : D} (h : PlD k d) (hk : k ≤ j) : PlD j d := ⟨h.hp, h.lay, Nat.le_trans h.dep hk, h.sho⟩
theorem PlD.of {k : Nat} {d : D} {p : PyData} (hp : ∀ f, pyD f d = some p) (lay : p.canLay0 = true) (dep : p.depth ≤ k) (sho : p.showable = true) : PlD k d := by
  have e : pyOf d = p := by
    unfold pyOf
    rw [hp]
    rfl
  refine ⟨fun f => ?_, ?_, ?_, ?_⟩ <;> rw [e]
  · exact hp f
  · exact lay
  · exact dep
  · exact sho
theorem pyOf_i (i : Int) : pyOf (.int i) = .int i := rfl
theorem pl_non : PlD 0 .non := .of (p := .none) (fun f => pyD_n f) (by simp only [PyData.canLay0]) (by simp only [PyData.depth, Nat.le_refl]) (by simp only [PyData.showable])
theorem pl_bl (b : Bool) : PlD 0 (.bl b) := .of (p := .bool b) (fun f => pyD_b f b) (by simp only [PyData.canLay0]) (by simp only [PyData.depth, Nat.le_refl]) (by simp only [PyData.showable])
theorem pl_str {x : Str} (h : PyData.strOk x = true) : PlD 0 (.str x) := .of (p := .str x) (fun f => pyD_s f x) (by simp only [PyData.canLay0]; exact h) (by simp only [PyData.depth, Nat.le_refl]) (by simp only [PyData.showable])
theorem pl_int {i : Int} (h : i.natAbs.log2 < 1920) : PlD 0 (.int i) := .of (p := .int i) (fun f => pyD_i f i) (by simp only [PyData.canLay0]) (by simp only [PyData.depth, Nat.le_refl]) (by simp only [PyData.showable, decide_eq_true_eq]; exact h)
theorem pl_small {i : Int} (h0 : -(10 ^ 400) ≤ i) (h1 : i ≤ 10 ^ 400) : PlD 0 (.int i) := by
  refine pl_int ?_
  have t : (10 ^ 400 : Nat) < 2 ^ 1920 := by decide +kernel
  by_cases h : i.natAbs = 0
  · rw [h]
    decide
  · rw [Nat.log2_lt h]
    have : i.natAbs ≤ 10 ^ 400 := by omega
    omega
theorem plL {k : Nat} : ∀ {l : List D}, (∀ d ∈ l, PlD k d) → (∀ f, pyL f l = some (l.map pyOf)) ∧ PyData.canLayAll0 (l.map pyOf) = true ∧ PyData.depthAll (l.map pyOf) ≤ k ∧ PyData.showableAll (l.map pyOf) = true
  | [], _ => ⟨fun f => pyL_nil f, by simp only [List.map_nil, PyData.canLayAll0], by simp only [List.map_nil, PyData.depthAll, Nat.zero_le], by simp only [List.map_nil, PyData.showableAll]⟩
  | d :: r, h => by
    obtain ⟨a, b, c, e⟩ := plL (l := r) fun x hx => h x (List.mem_cons_of_mem _ hx)
    have q := h d (List.mem_cons_self ..)
    refine ⟨fun f => ?_, ?_, ?_, ?_⟩
    · simp only [pyL, q.hp, a, List.map_cons]
      rfl
    · simp only [List.map_cons, PyData.canLayAll0, q.lay, b, Bool.and_self]
    · simp only [List.map_cons, PyData.depthAll]
      exact Nat.max_le.mpr ⟨q.dep, c⟩
    · simp only [List.map_cons, PyData.showableAll, q.sho, e, Bool.and_self]
theorem pyOf_tup {k : Nat} {l : List D} (h : ∀ d ∈ l, PlD k d) : pyOf (.tup l) = .tuple (l.map pyOf) := by
  unfold pyOf
  simp only [pyD, (plL h).1]
  rfl
theorem pl_tup {k : Nat} {l : List D} (h : ∀ d ∈ l, PlD k d) : PlD (k + 1) (.tup l) := by
  obtain ⟨a, b, c, e⟩ := plL h
  refine .of (p := .tuple (l.map pyOf)) (fun f => ?_) ?_ ?_ ?_
  · simp only [pyD, a]
    rfl
  · simp only [PyData.canLay0]
    exact b
  · simp only [PyData.depth]
    exact Nat.succ_le_succ c
  · simp only [PyData.showable]
    exact e
theorem sizes_map : ∀ l : List D, sizes (l.map pyOf) = (l.map sz).sum
  | [] => by simp only [List.map_nil, sizes, List.sum_nil]
  | d :: r => by
    simp only [List.map_cons, sizes, List.sum_cons, sizes_map r]
    rfl
theorem sz_tup {k : Nat} {l : List D} (h : ∀ d ∈ l, PlD k d) : sz (.tup l) = (l.map sz).sum + 1 := by
  unfold sz
  rw [pyOf_tup h]
  simp only [size]
  rw [sizes_map]
  rfl
theorem sz_int (i : Int) : sz (.int i) = 1 := by
  unfold sz
  rw [pyOf_i]
  simp only [size]
theorem repr_D {k : Nat} {d : D} (q : PlD k d) (hk : k ≤ 64) (hs : sz d ≤ 8000) (h : VH) : bRepr [d] h = some (.str (pyOf d).shown, h) := by
  refine bRepr_of (q.hp _) (reprOk_of ?_ q.sho hs)
  unfold SeqAt.shaped
  rw [q.lay, decide_eq_true (Nat.le_trans q.dep hk)]
  rfl
def txtL (l : List D) : Str := (PyData.list (l.map pyOf)).shown
theorem repr_L {k : Nat} {h : VH} {n : Nat} {l : List D} (e : lk h n = some l) (q : ∀ d ∈ l, PlD k d) (hk : k ≤ 60) (hs : (l.map sz).sum + 1 ≤ 8000) : bRepr [.ref n] h = some (.str (txtL l), h) := by
  obtain ⟨a, b, c, s⟩ := plL q
  refine bRepr_of (py_ref e a) (reprOk_of ?_ ?_ ?_)
  · unfold SeqAt.shaped
    have h1 : PyData.canLay0 (.list (l.map pyOf)) = true := by
      simp only [PyData.canLay0]
      exact b
    have h2 : PyData.depth (.list (l.map pyOf)) ≤ 64 := by
      simp only [PyData.depth]
      omega
    rw [h1, decide_eq_true h2]
    rfl
  · simp only [PyData.showable]
    exact s
  · simp only [size]
    rw [sizes_map]
    exact hs
/-- a list whose items may be lists -/
theorem repr_ps {h : VH} {n : Nat} {l : List D} {ps : List PyData} (e : lk h n = some l) (hp : pyL (refPy h 5) l = some ps) (lay : PyData.canLayAll0 ps = true) (dep : PyData.depthAll ps ≤ 60) (sho : PyData.showableAll ps = true) (hs : sizes ps + 1 ≤ 8000) :
    bRepr [.ref n] h = some (.str (PyData.list ps).shown, h) := by
  have pe : py h (.ref n) = some (.list ps) := by
    unfold py
    simp only [pyD]
    show (lk h n).bind (fun l => (pyL (refPy h 5) l).map PyData.list) = _
    rw [e]
    simp only [Option.bind_some, hp, Option.map_some]
  refine bRepr_of pe (reprOk_of ?_ ?_ ?_)
  · unfold SeqAt.shaped
    have h1 : PyData.canLay0 (.list ps) = true := by
      simp only [PyData.canLay0]
      exact lay
    have h2 : PyData.depth (.list ps) ≤ 64 := by
      simp only [PyData.depth]
      omega
    rw [h1, decide_eq_true h2]
    rfl
  · simp only [PyData.showable]
    exact sho
  · simp only [size]
    exact hs
theorem refPy_I {h : VH} {a : Nat} {r : List Int} (e : lk h a = some (r.map .int)) : refPy h 5 a = some (.list (r.map .int)) := by
  have z := pl_pyL (α := Int) (refPy h 4) r
  have z' : pyL (refPy h 4) (r.map D.int) = some (r.map PyData.int) := z
  show (lk h a).bind (fun l => (pyL (refPy h 4) l).map PyData.list) = _
  rw [e]
  simp only [Option.bind_some, z', Option.map_some]
def listI (r : List Int) : PyData := .list (r.map .int)
theorem pyL_refs {h : VH} : ∀ {as : List Nat} {rs : List (List Int)}, as.length = rs.length → (∀ (k : Nat) (h1 : k < as.length) (h2 : k < rs.length), lk h as[k] = some (rs[k].map .int)) → pyL (refPy h 5) (as.map .ref) = some (rs.map listI)
  | [], [], _, _ => by simp only [List.map_nil, pyL]
  | [], _ :: _, e, _ => by simp at e
  | _ :: _, [], e, _ => by simp at e
  | a :: as, r :: rs, e, q => by
    have h0 := refPy_I (q 0 (by simp) (by simp))
    have ih := pyL_refs (h := h) (as := as) (rs := rs) (by simpa using e) fun k h1 h2 => q (k + 1) (by simpa using h1) (by simpa using h2)
    simp only [List.map_cons, pyL, pyD, ih]
    rw [show refPy h 5 a = some (listI r) from h0]
    rfl
end Vq

/-! Q23: a tuple display times a number, 0 and less too. -/
namespace Vq
open PySem PySem.Spec PyProof.Rows L2

theorem tuple_mul0 (l : Addr) (items : Array Value) (n : Nat) (dd : Option Addr) (sl : Array (Option Value)) (x : Int) (u : Tok)
    (c0 : (decide (x < -(2 ^ 63)) || decide (x ≥ 2 ^ 63)) = false) (c1 : (items.isEmpty || x == 1) = false) (c2 : (decide (x ≤ 0) || items.isEmpty) = true) :
    Meets (Builtin.«tuple.__mul__» ⟨[.ref l, .int x u], []⟩) (fun _ R s => s.heap.get? l = some { cls := .type "tuple", dict := dd, data := .seq items n, slots := sl } ∧
      R (.ok (.ret (Value.ref s.heap.objs.size))) { s with heap := s.heap.push { cls := Value.type "tuple", data := Data.seq #[] }, toks := s.toks }) := by
  refine .of_wp fun prog w A R s h => ?_
  obtain ⟨hp, g, d, tk, os⟩ := s
  obtain ⟨hl, h⟩ := h
  have f1 := AutoSeq1.idx_int
  wp_walk using wpAny_loadPart' hl
  repeat (first
    | (refine wpAny_ite_false (decide_eq_false (by rw [c0]; exact fun z => nomatch z)) ?_; wp_walk using wpAny_loadPart' hl)
    | (refine wpAny_ite_false (decide_eq_false (by rw [c1]; exact Bool.false_ne_true)) ?_; wp_walk using wpAny_loadPart' hl)
    | (refine wpAny_ite_true (decide_eq_true c2) ?_; wp_walk using wpAny_loadPart' hl))
  exact ⟨_, rfl, h⟩
/-- t * k, k at most 0: a new empty tuple -/
def rRep0 (K : PySem.W.Frag) : R2 := fun x y H Q => ∃ l k xs, x = .ref l ∧ y = .int k ∧ SqT K H l xs ∧ xs ≠ [] ∧ -(2 ^ 63) ≤ k ∧ k ≤ 0 ∧ ∀ p, H p = none → Q (.ref p) (upd H p (.tup []))
theorem op_rep0 {X : Cx} : OpR X (binaryOp .Mult) (rRep0 X.K) := by
  rintro pins s σ H x y v u Q I rx ry ⟨l, k, xs, rfl, rfl, hT, hne, k1, k2, q⟩
  cases rx
  obtain ⟨t, rfl⟩ := ry
  obtain ⟨its, r, ⟨⟨cls, dd, data, sl⟩, ho, hc, n, hd⟩, hs⟩ := I.tuple hT
  simp only at hc hd
  subst hc hd
  have hle : its.length = xs.length := r.length.symm
  have hn : its ≠ [] := fun e => hne (by
    rw [e] at hle
    exact List.eq_nil_of_length_eq_zero hle.symm)
  have hi : its.toArray.isEmpty = false := by
    cases its with
    | nil => exact absurd rfl hn
    | cons a b => rfl
  have c0 : (decide (k < -(2 ^ 63)) || decide (k ≥ 2 ^ 63)) = false := by
    rw [decide_eq_false (by omega), decide_eq_false (by omega)]
    rfl
  have c1 : (its.toArray.isEmpty || k == 1) = false := by
    rw [hi, Bool.false_or]
    exact beq_eq_false_iff_ne.mpr (by omega)
  have c2 : (decide (k ≤ 0) || its.toArray.isEmpty) = true := by
    rw [decide_eq_true k2]
    rfl
  refine wpAny_binaryOp_repeat_ref (T := "tuple") (U := "int") (by decide) ⟨_, ho, rfl⟩ (fun s' => typeIs_int s' k t) noFill_tuple_mul F.fills_int_mul F.slot_int_rmul repeat_tuple F.slot_int_index.lookup
    (call_meets F.slot_int_rmul (typeIs_int s k t) F.entry_int_rmul (F.args_int_rmul_2 _ _) (int_rmul_tuple k t l its.toArray n dd sl)
      ⟨ho, rfl, ⟨_, ho, rfl⟩, call_meets F.slot_tuple_mul ⟨_, ho, rfl⟩ F.entry_tuple_mul (F.args_tuple_mul_2 _ _) (tuple_mul0 l its.toArray n dd sl k t c0 c1 c2) ⟨ho, ?_⟩⟩)
  refine ⟨.ref s.heap.objs.size, _, I.laid (t' := s.toks) (o := .tup []) (fun b ob q => Heap.get?_push_of_some _ q) (Nat.le_refl _) ?_, rfl, q _ (I.hok.fresh (Nat.le_refl _))⟩
  exact ⟨Nat.zero_le _, _, .nil, IsTup.new _ _⟩
def tMulZ : D → D → VH → Option (D × VH) := fun x y h => match x, y with
  | .tup l, .int k => if -(2 ^ 63) ≤ k ∧ k ≤ 0 ∧ l ≠ [] then some (.tup [], h) else none
  | _, _ => none
theorem mulZ_opd (K : PySem.W.Frag) : OpD K (rRep0 K) tMulZ := fun w x y vx vy Q ok rx ry h => by
  cases rx with
  | @tup a vs ds hx rx =>
    cases ry with
    | int k =>
      unfold tMulZ at h
      simp only at h
      by_cases h2 : -(2 ^ 63) ≤ k ∧ k ≤ 0 ∧ ds ≠ []
      · rw [if_pos h2] at h
        refine ⟨a, k, vs, rfl, rfl, hx, fun z => h2.2.2 ?_, h2.1, h2.2.1, fun p hp => ?_⟩
        · subst z
          cases rx
          rfl
        · exact h (w.tupAt p (.tup _)) _ (ok.tupAt hp) rfl (Wd.ext_tupAt hp) (.tup (SqT.of upd_same) .nil)
      · rw [if_neg h2] at h
        exact h.elim
    | _ => exact h.elim
  | _ => cases ry <;> exact h.elim
/-- a tuple display times a number -/
def dMulZ : D → D → VH → Option (D × VH) := orD tMulZ tMulT
theorem mulZ_opdd (K : PySem.W.Frag) : OpD K (orR (rRep0 K) (orR (rRep1 K) (rRepT K))) dMulZ := opd_orD (mulZ_opd K) (mulT_opd K)
theorem mulZ_opr {X : Cx} : OpR X (binaryOp .Mult) (orR (rRep0 X.K) (orR (rRep1 X.K) (rRepT X.K))) := OpR.or op_rep0 (OpR.or op_rep1 op_repT)
end Vq

/-! Part 24: bit_length, tuple(reversed(..)). -/
namespace Vq
open PySem PySem.Spec PyProof.Rows L2
section
variable {X : Cx} {W : WX} {o e : Expr} {fo fe : VE} {p p2 pos pos2 apos : Pos}
def vBits (o : VE) : VE := fun s h => (o s h).bind fun p => match p.1 with
  | .int i => .ok (.int (Builtin.Int.intBits i : Nat), p.2)
  | _ => .bad
theorem qBits (ho : PE X o (gE X W fo)) (hbase : attributeBase o "bit_length" X.env (eval o X.env) = eval o X.env := by rfl) (hline : (apos.endLine == pos.line) = true := by rfl) : PE X (.Call (.Attribute o "bit_length" apos) [] [] pos) (gE X W (vBits fo)) :=
  PEw (pe_bits ho hbase hline) fun σ H Q ⟨w, s, hH, ok, sl, hp⟩ => by
    subst hH
    refine gE.seq ok sl (wE w Q) hp fun d w1 v ok1 x1 sl1 r1 hp1 => ?_
    cases r1 with
    | int i => exact ⟨i, rfl, hp1 w1 _ ok1 rfl x1 (.int _)⟩
    | _ => exact hp1.elim
def vTRev (f : VE) : VE := fun s h => (f s h).bind fun p => match p.1 with
  | .ref n => match lk p.2 n with
    | some l => .ok (.tup l.reverse, p.2)
    | none => .bad
  | _ => .bad
theorem qTRev (hc : X.calm = true) (hm : X.mg "tuple" = none) (hm2 : X.mg "reversed" = none) (he : PE X e (gE X W fe)) (hg : Gl X "tuple" := by rfl) (hg2 : Gl X "reversed" := by rfl)
    (hs : starEach [e] X.env = (false, eval e X.env) :: starEach [] X.env := by rfl)
    (hs2 : starEach [.Call (.Name "reversed" p2) [e] [] pos2] X.env = (false, eval (.Call (.Name "reversed" p2) [e] [] pos2) X.env) :: starEach [] X.env := by rfl) :
    PE X (.Call (.Name "tuple" p) [.Call (.Name "reversed" p2) [e] [] pos2] [] pos) (gE X W (vTRev fe)) :=
  PEw (RT.pe_tupRev hc hg hm hg2 hm2 he hs hs2) fun σ H Q ⟨w, s, hH, ok, sl, hp⟩ => by
    subst hH
    refine gE.seq ok sl (wE w Q) hp fun d w1 v ok1 x1 sl1 r1 hp1 => ?_
    cases r1 with
    | @ref n hn =>
      simp only at hp1
      cases el : lk w1.h n with
      | none => rw [el] at hp1; exact hp1.elim
      | some l =>
        rw [el] at hp1
        obtain ⟨us, h1, h2⟩ := lk_sq ok1 el
        exact ⟨_, us, rfl, h1, fun q hq => hp1 (w1.tupAt q (.tup us.reverse)) _ (ok1.tupAt hq) rfl (x1.trans (Wd.ext_tupAt hq)) (.tup (SqT.of upd_same) ((Wd.ext_tupAt hq).rps h2.reverse))⟩
    | _ => exact hp1.elim
end
section
variable {s : VS} {h : VH}
@[simp] theorem vBits_ap (o : VE) : vBits o s h = (o s h).bind fun p => match p.1 with
  | .int i => .ok (.int (Builtin.Int.intBits i : Nat), p.2)
  | _ => .bad := rfl
@[simp] theorem vTRev_ap (f : VE) : vTRev f s h = (f s h).bind fun p => match p.1 with
  | .ref n => match lk p.2 n with
    | some l => .ok (.tup l.reverse, p.2)
    | none => .bad
  | _ => .bad := rfl
end
end Vq

/-! Part 25: tuples whose object is known, their index method. -/
namespace Vq
open PySem PySem.Spec PyProof.Rows L2
section
variable {X : Cx}
/-- tuple(e) of a list, the new object told -/
def rFz (K : PySem.W.Frag) : List V → Hp → VK → Prop := fun xs H Q => ∃ p ys, xs = [.ref p] ∧ SqL K H p ys ∧ ∀ (l : Addr) (ob : Obj), ob.cls = .type "tuple" → ob.dict = none → H l = none → Q (.ref l) (upd H l (.frz ob (.tup ys)))
theorem call_tuple_fz : CallR X (.type "tuple") (rFz X.K) := by
  intro pins s σ H xs us Q I r h
  obtain ⟨p, ys, rfl, hq, q⟩ := h
  obtain ⟨u, rfl, rx⟩ := vals1 r
  cases rx
  obtain ⟨its, r', pl, hz⟩ := I.list hq
  have hlen := r'.length
  refine call_tuple_list pl.isList (fun h' kp => ?_) (by simp only [List.size_toArray] <;> omega)
  have I1 : Inv X pins σ H { s with heap := h' } := I.kept (t' := s.toks) kp
  have I2 : Inv X pins σ (upd H h'.objs.size (.frz { cls := .type "tuple", data := .seq its.toArray } (.tup ys))) { s with heap := h'.push { cls := .type "tuple", data := .seq its.toArray } } :=
    I1.laid (t' := s.toks) (fun b o e => Heap.get?_push_of_some _ e) (Nat.le_refl _) (show ObjOk X.prog X.w _ _ _ (.frz { cls := .type "tuple", data := .seq its.toArray } (.tup ys)) from ⟨Heap.get?_push_size _ rfl, hz, its, r', IsTup.new _ _⟩)
  exact ⟨.ref h'.objs.size, _, I2, rfl, q _ _ rfl rfl (I1.hok.fresh (Nat.le_refl _))⟩
def bFz : List D → VH → Option (D × VH) := pureB fun l h => (one l).bind fun d => match d with
  | .ref n => (lk h n).map .ftup
  | _ => none
theorem fz_cd (K : PySem.W.Frag) : CallD K (rFz K) bFz := fun w xs vs Q ok r h => by
  unfold bFz pureB at h
  cases e1 : one xs with
  | none => simp only [e1] at h; exact h.elim
  | some d =>
    obtain ⟨v, _, rfl, rd⟩ := one_rps r e1
    simp only [e1, Option.bind_some] at h
    cases rd with
    | @ref n hn =>
      cases e2 : lk w.h n with
      | none => simp only [e2] at h; exact h.elim
      | some l =>
        simp only [e2, Option.map_some] at h
        obtain ⟨us, h1, h2⟩ := lk_sq ok e2
        exact ⟨_, us, rfl, h1, fun p ob c dn hp => h (w.tupAt p (.frz ob (.tup us))) _ (ok.tupAt hp) rfl (Wd.ext_tupAt hp) (.ftup ⟨ob, upd_same, c, dn⟩ ((Wd.ext_tupAt hp).rps h2))⟩
    | _ => exact h.elim
/-! ### t.index(x), flat items -/
def rTIdx (K : PySem.W.Frag) : V → List V → Hp → VK → Prop := fun x xs H Q => ∃ (a : Addr) (ys : List V) (y : V) (j : Nat) (z : V), x = V.ref a ∧ xs = [y] ∧ SqT K H a ys ∧ flatV y = true ∧ ys.all flatV = true ∧ ys[j]? = some z ∧ eqV z y = true ∧
  (∀ (m : Nat) (z' : V), m < j → ys[m]? = some z' → eqV z' y = false) ∧ Q (.int (j : Nat)) H
theorem mt_tindex : MtR X "tuple.index" (rTIdx X.K) := by
  intro pins s σ H x xs v us Q I rx rxs h
  obtain ⟨a, ys, y, j, z, rfl, rfl, hs, fy, fys, hz, hzj, hno, q⟩ := h
  cases rx
  cases rxs with
  | cons ry rt =>
    rename_i uy ut
    cases rt
    obtain ⟨its, rv, pl, hlen⟩ := I.tuple hs
    obtain ⟨⟨cls, dd, data, sl⟩, ho, hc, n, hd⟩ := pl
    simp only at hc hd
    subst hc hd
    obtain ⟨u, hu, ru⟩ := rv.get hz
    obtain ⟨hjl, hje⟩ := List.getElem?_eq_some_iff.mp hu
    have hvl := rv.length
    have hj : j < its.toArray.size := by simpa using hjl
    refine call_meets PySem.F.slot_tuple_index ⟨_, ho, rfl⟩ PySem.F.entry_tuple_index (PySem.F.args_tuple_index_2 _ _)
      (TI.tuple_indexAt a its.toArray n dd sl uy (eqU y) j hj ?_ ?_) ⟨ho, fun u' hu' => mem_eqAt ry fy rv fys u' (by simpa using hu'), ?_⟩
    · have e1 : its.toArray[j] = u := by simpa using hje
      rw [e1, eqU_of ru (flat_at fys hz)]
      exact hzj
    · intro m hm hmj
      have hml : m < its.length := by simpa using hm
      have hmy : m < ys.length := by omega
      have hy' : ys[m]? = some ys[m] := List.getElem?_eq_getElem hmy
      obtain ⟨u2, hu2, ru2⟩ := rv.get hy'
      obtain ⟨_, hme⟩ := List.getElem?_eq_some_iff.mp hu2
      have e1 : its.toArray[m] = u2 := by simpa using hme
      rw [e1, eqU_of ru2 (flat_at fys hy')]
      exact hno m _ hmj hy'
    · exact ⟨.int (j : Nat), H, I.tok _, ⟨_, rfl⟩, q⟩
def tTBM (K : PySem.W.Frag) (r : V → List V → Hp → VK → Prop) (to : TE) (t : TA) : TE := fun σ H Q => to σ H fun x H1 => (∃ a vs, x = .ref a ∧ TpL H1 a vs) ∧ t σ H1 fun xs H2 => r x xs H2 Q
variable {o e : Expr} {es : List Expr} {to : TE} {t : TA} {name : Str} {apos cpos : Pos} {id : String} {r : V → List V → Hp → VK → Prop}
theorem pe_tbm (slot : Slot "tuple" name id) (hty : typeOf (.builtin id) = pure (.type "method_descriptor")) (hm : MtR X id r) (ho : PE X o to) (ha : PA X (e :: es) t)
    (hbase : attributeBase o name X.env (eval o X.env) = eval o X.env := by rfl)
    (hfew : ((backTo cpos (starEach (e :: es) X.env)).all (fun x => !x.1) && (backToKw cpos (keywordEach [] X.env)).all (fun x => x.1.isSome)
      && decide ((e :: es).length + ([] : List Keyword).length + (if ([] : List Keyword).isEmpty then 0 else 1) < 30)) = true := by rfl)
    (hline : (apos.endLine == cpos.line) = true := by rfl) (hs : starEach (e :: es) X.env = (false, eval e X.env) :: starEach es X.env := by rfl) (hplain : (backTo cpos (starEach es X.env)).any (·.1) = false := by rfl) :
    PE X (.Call (.Attribute o name apos) (e :: es) [] cpos) (tTBM X.K r to t) := by
  refine ⟨fun pins s σ H Q I h => ?_⟩
  refine wpAny_Call_method_late hbase hfew hline rfl (thn (ho.run pins s σ H _ I h) fun v s1 ⟨x, H1, I1, r1, ty, q1⟩ => ?_)
  have r0 := r1
  obtain ⟨a, vs, rfl, ob, hk, hc, hd⟩ := ty
  cases r1
  obtain ⟨ho1, _⟩ := (show ObjOk X.prog X.w H1 s1.heap a (.frz ob (.tup vs)) from I1.hok a _ hk)
  refine ⟨"tuple", id, PySem.F.plainAttrs_tuple, slot, hty, ⟨ob, ho1, hc⟩, fun b e => by cases e; exact ⟨ob, ho1, hd⟩, ?_⟩
  have hA := ha.run cpos pins s1 σ H1 _ I1 q1
  rw [hs] at hA ⊢
  refine Calls.callWith_builtin (by show (false || (backTo cpos (starEach es X.env)).any (·.1)) = false; rw [hplain] <;> rfl) (Calls.evalArgs_plain ?_)
  exact thn hA fun us s2 ⟨vs, H2, I2, r2, q2⟩ => hm pins s2 σ H2 _ vs _ us Q I2 r0 r2 q2
variable {W : WX} {fo : VE} {g : VA}
def mTIdx (l : List D) (xs : List D) (h : VH) : Option (D × VH) := (one xs).bind fun y => if (flatD y && l.all flatD) = true then (findF y l).map fun j => (.int (j : Nat), h) else none
def vTIdx (o : VE) (a : VA) : VE := fun s h => (o s h).bind fun p => match p.1 with
  | .ftup l => (a s p.2).bind fun q => lift (mTIdx l q.1 q.2)
  | _ => .bad
theorem qTIdx (ho : PE X o (gE X W fo)) (ha : PA X (e :: es) (gA X W g))
    (hbase : attributeBase o "index" X.env (eval o X.env) = eval o X.env := by rfl)
    (hfew : ((backTo cpos (starEach (e :: es) X.env)).all (fun x => !x.1) && (backToKw cpos (keywordEach [] X.env)).all (fun x => x.1.isSome)
      && decide ((e :: es).length + ([] : List Keyword).length + (if ([] : List Keyword).isEmpty then 0 else 1) < 30)) = true := by rfl)
    (hline : (apos.endLine == cpos.line) = true := by rfl) (hs : starEach (e :: es) X.env = (false, eval e X.env) :: starEach es X.env := by rfl) (hplain : (backTo cpos (starEach es X.env)).any (·.1) = false := by rfl) :
    PE X (.Call (.Attribute o "index" apos) (e :: es) [] cpos) (gE X W (vTIdx fo g)) :=
  PEw (pe_tbm PySem.F.slot_tuple_index PySem.F.type_tuple_index mt_tindex ho ha hbase hfew hline hs hplain) fun σ H Q ⟨w, s, hH, ok, sl, hp⟩ => by
    subst hH
    refine gE.seq ok sl (wE w Q) hp fun d w1 v ok1 x1 sl1 r1 hp1 => ?_
    simp only at hp1
    cases r1 with
    | @ftup a vs l hk rr =>
      refine ⟨⟨a, vs, rfl, hk⟩, ?_⟩
      simp only at hp1
      refine gA.seq ok1 sl1 ((wE w Q).mono x1) hp1 fun ds w2 us ok2 x2 sl2 r2 hp2 => ?_
      have hp3 := (PstE.lift hp2).mono (x1.trans x2)
      unfold mTIdx at hp3
      cases e2 : one ds with
      | none => rw [e2] at hp3; exact hp3.elim
      | some y =>
        obtain ⟨v, _, rfl, ry⟩ := one_rps r2 e2
        rw [e2] at hp3
        simp only [Option.bind_some] at hp3
        by_cases hf : (flatD y && l.all flatD) = true
        · rw [if_pos hf] at hp3
          rw [Bool.and_eq_true] at hf
          cases e3 : findF y l with
          | none => rw [e3] at hp3; exact hp3.elim
          | some j =>
            rw [e3] at hp3
            obtain ⟨d, g1, g2, g3⟩ := findF_is e3
            have rr2 := x2.rps rr
            obtain ⟨z, ez, rz⟩ := RepL.get rr2 g1
            have fl : ∀ {i : Nat} {e : D}, l[i]? = some e → flatD e = true := fun he => List.all_eq_true.mp hf.2 _ (List.mem_of_getElem? he)
            refine ⟨_, vs, v, j, z, rfl, rfl, (x2.tp _ _ hk).sq, flat_rp ry hf.1, all_flat rr2 hf.2, ez, by rw [eqF_rp rz ry (fl g1) hf.1]; exact g2, fun m z' hm hz' => ?_, hp3 w2 _ ok2 rfl (.refl w2) (.int _)⟩
            have hm' : m < l.length := by
              rw [RepL.length rr2]
              exact (List.getElem?_eq_some_iff.mp hz').1
            obtain ⟨u', eu, ru⟩ := RepL.get rr2 (List.getElem?_eq_getElem hm')
            rw [hz'] at eu
            cases eu
            rw [eqF_rp ru ry (fl (List.getElem?_eq_getElem hm')) hf.1]
            exact g3 m _ hm (List.getElem?_eq_getElem hm')
        · rw [if_neg hf] at hp3
          exact hp3.elim
    | _ => exact hp1.elim
end
section
variable {s : VS} {h : VH}
@[simp] theorem vTIdx_ap (o : VE) (a : VA) : vTIdx o a s h = (o s h).bind fun p => match p.1 with
  | .ftup l => (a s p.2).bind fun q => lift (mTIdx l q.1 q.2)
  | _ => .bad := rfl
@[simp] theorem bFz_r (n : Nat) : bFz [.ref n] h = ((lk h n).map .ftup).map fun d => (d, h) := rfl
@[simp] theorem seqOf_f (l : List D) : seqOf h (.ftup l) = some l := rfl
end
end Vq

namespace K03
open PySem PySem.Spec PyProof.Rows L2 Vq
def topS (i : Nat) : Stmt := PySem.Challenge.pw_comparenets_k03_whole_standard_by_names.main.body.getD i (.Pass ⟨0, 0, 0, 0⟩)
abbrev s_joined_nets : Stmt := topS 1
abbrev N_joined_nets : List Str := ["one", "other"]
abbrev P_joined_nets : List Str := ["one", "other"]
theorem sc_joined_nets : FnScope N_joined_nets P_joined_nets (defScope s_joined_nets) := ⟨rfl, rfl, rfl, by decide +kernel, rfl, by decide +kernel, by decide +kernel⟩
abbrev s_made_row : Stmt := topS 3
abbrev N_made_row : List Str := ["net", "row", "found", "i", "j"]
abbrev P_made_row : List Str := ["net", "row"]
theorem sc_made_row : FnScope N_made_row P_made_row (defScope s_made_row) := ⟨rfl, rfl, rfl, by decide +kernel, rfl, by decide +kernel, by decide +kernel⟩
abbrev s_is_ascending : Stmt := topS 4
abbrev N_is_ascending : List Str := ["row", "one", "other"]
abbrev P_is_ascending : List Str := ["row"]
theorem sc_is_ascending : FnScope N_is_ascending P_is_ascending (defScope s_is_ascending) := ⟨rfl, rfl, rfl, by decide +kernel, rfl, by decide +kernel, by decide +kernel⟩
abbrev s_is_standard : Stmt := topS 5
abbrev N_is_standard : List Str := ["net", "i", "j"]
abbrev P_is_standard : List Str := ["net"]
theorem sc_is_standard : FnScope N_is_standard P_is_standard (defScope s_is_standard) := ⟨rfl, rfl, rfl, by decide +kernel, rfl, by decide +kernel, by decide +kernel⟩
abbrev s_does_sort_row : Stmt := topS 6
abbrev N_does_sort_row : List Str := ["net", "row"]
abbrev P_does_sort_row : List Str := ["net", "row"]
theorem sc_does_sort_row : FnScope N_does_sort_row P_does_sort_row (defScope s_does_sort_row) := ⟨rfl, rfl, rfl, by decide +kernel, rfl, by decide +kernel, by decide +kernel⟩
abbrev s_renamed_net : Stmt := topS 8
abbrev N_renamed_net : List Str := ["net", "names", "i", "j"]
abbrev P_renamed_net : List Str := ["net", "names"]
theorem sc_renamed_net : FnScope N_renamed_net P_renamed_net (defScope s_renamed_net) := ⟨rfl, rfl, rfl, by decide +kernel, rfl, by decide +kernel, by decide +kernel⟩
abbrev s_mirrored_net : Stmt := topS 9
abbrev N_mirrored_net : List Str := ["n", "net", "i", "j"]
abbrev P_mirrored_net : List Str := ["n", "net"]
theorem sc_mirrored_net : FnScope N_mirrored_net P_mirrored_net (defScope s_mirrored_net) := ⟨rfl, rfl, rfl, by decide +kernel, rfl, by decide +kernel, by decide +kernel⟩
abbrev s_standard_net : Stmt := topS 10
abbrev N_standard_net : List Str := ["n", "net", "names", "found", "i", "j", "low", "high"]
abbrev P_standard_net : List Str := ["n", "net"]
theorem sc_standard_net : FnScope N_standard_net P_standard_net (defScope s_standard_net) := ⟨rfl, rfl, rfl, by decide +kernel, rfl, by decide +kernel, by decide +kernel⟩
abbrev s_law_own_bag : Stmt := topS 12
abbrev N_law_own_bag : List Str := ["script", "cells", "mixed", "cell"]
abbrev P_law_own_bag : List Str := ["script"]
theorem sc_law_own_bag : FnScope N_law_own_bag P_law_own_bag (defScope s_law_own_bag) := ⟨rfl, rfl, rfl, by decide +kernel, rfl, by decide +kernel, by decide +kernel⟩
abbrev s_law_draw : Stmt := topS 13
abbrev N_law_draw : List Str := ["bag", "below", "found"]
abbrev P_law_draw : List Str := ["bag", "below"]
theorem sc_law_draw : FnScope N_law_draw P_law_draw (defScope s_law_draw) := ⟨rfl, rfl, rfl, by decide +kernel, rfl, by decide +kernel, by decide +kernel⟩
abbrev s_law_pick : Stmt := topS 14
abbrev N_law_pick : List Str := ["bag", "some"]
abbrev P_law_pick : List Str := ["bag", "some"]
theorem sc_law_pick : FnScope N_law_pick P_law_pick (defScope s_law_pick) := ⟨rfl, rfl, rfl, by decide +kernel, rfl, by decide +kernel, by decide +kernel⟩
abbrev s_law_pair : Stmt := topS 15
abbrev N_law_pair : List Str := ["bag", "n", "i"]
abbrev P_law_pair : List Str := ["bag", "n"]
theorem sc_law_pair : FnScope N_law_pair P_law_pair (defScope s_law_pair) := ⟨rfl, rfl, rfl, by decide +kernel, rfl, by decide +kernel, by decide +kernel⟩
abbrev s_law_great : Stmt := topS 16
abbrev N_law_great : List Str := ["bag", "found", "turn"]
abbrev P_law_great : List Str := ["bag"]
theorem sc_law_great : FnScope N_law_great P_law_great (defScope s_law_great) := ⟨rfl, rfl, rfl, by decide +kernel, rfl, by decide +kernel, by decide +kernel⟩
abbrev s_law_row : Stmt := topS 17
abbrev N_law_row : List Str := ["bag", "n", "kind", "items", "rest", "w"]
abbrev P_law_row : List Str := ["bag", "n"]
theorem sc_law_row : FnScope N_law_row P_law_row (defScope s_law_row) := ⟨rfl, rfl, rfl, by decide +kernel, rfl, by decide +kernel, by decide +kernel⟩
abbrev s_law_made : Stmt := topS 18
abbrev N_law_made : List Str := ["net", "row", "items", "i", "j", "held"]
abbrev P_law_made : List Str := ["net", "row"]
theorem sc_law_made : FnScope N_law_made P_law_made (defScope s_law_made) := ⟨rfl, rfl, rfl, by decide +kernel, rfl, by decide +kernel, by decide +kernel⟩
abbrev s_law_wires : Stmt := topS 19
abbrev N_law_wires : List Str := ["bag", "n", "rest", "found", "w"]
abbrev P_law_wires : List Str := ["bag", "n"]
theorem sc_law_wires : FnScope N_law_wires P_law_wires (defScope s_law_wires) := ⟨rfl, rfl, rfl, by decide +kernel, rfl, by decide +kernel, by decide +kernel⟩
abbrev s_law_sorting : Stmt := topS 20
abbrev N_law_sorting : List Str := ["bag", "n", "mode", "plain", "found", "names", "most", "a", "b", "held", "w"]
abbrev P_law_sorting : List Str := ["bag", "n", "mode"]
theorem sc_law_sorting : FnScope N_law_sorting P_law_sorting (defScope s_law_sorting) := ⟨rfl, rfl, rfl, by decide +kernel, rfl, by decide +kernel, by decide +kernel⟩
abbrev s_law_net : Stmt := topS 21
abbrev N_law_net : List Str := ["bag", "n", "many", "style", "found", "turn", "i", "j", "is_turned"]
abbrev P_law_net : List Str := ["bag", "n", "many", "style"]
theorem sc_law_net : FnScope N_law_net P_law_net (defScope s_law_net) := ⟨rfl, rfl, rfl, by decide +kernel, rfl, by decide +kernel, by decide +kernel⟩
abbrev s_law_some_net : Stmt := topS 22
abbrev N_law_some_net : List Str := ["bag", "n", "kind"]
abbrev P_law_some_net : List Str := ["bag", "n"]
theorem sc_law_some_net : FnScope N_law_some_net P_law_some_net (defScope s_law_some_net) := ⟨rfl, rfl, rfl, by decide +kernel, rfl, by decide +kernel, by decide +kernel⟩
abbrev s_law_standard : Stmt := topS 23
abbrev N_law_standard : List Str := ["n", "net", "own", "names", "i", "j", "low", "high"]
abbrev P_law_standard : List Str := ["n", "net"]
theorem sc_law_standard : FnScope N_law_standard P_law_standard (defScope s_law_standard) := ⟨rfl, rfl, rfl, by decide +kernel, rfl, by decide +kernel, by decide +kernel⟩
abbrev s_law_failing : Stmt := topS 24
abbrev N_law_failing : List Str := ["n", "net", "bits", "w", "mask", "k", "i", "j", "low", "high", "wrong", "at"]
abbrev P_law_failing : List Str := ["n", "net"]
theorem sc_law_failing : FnScope N_law_failing P_law_failing (defScope s_law_failing) := ⟨rfl, rfl, rfl, by decide +kernel, rfl, by decide +kernel, by decide +kernel⟩
abbrev s_law_does_go : Stmt := topS 25
abbrev N_law_does_go : List Str := ["failing", "net", "told", "row", "goes", "found", "due"]
abbrev P_law_does_go : List Str := ["failing", "net", "told", "row"]
theorem sc_law_does_go : FnScope N_law_does_go P_law_does_go (defScope s_law_does_go) := ⟨rfl, rfl, rfl, by decide +kernel, rfl, by decide +kernel, by decide +kernel⟩
abbrev s_law_is_standard_right : Stmt := topS 26
abbrev N_law_is_standard_right : List Str := ["n", "net", "row", "own", "names", "made", "kept", "in_order", "told", "back", "further", "failing", "name", "i", "j"]
abbrev P_law_is_standard_right : List Str := ["n", "net", "row"]
theorem sc_law_is_standard_right : FnScope N_law_is_standard_right P_law_is_standard_right (defScope s_law_is_standard_right) := ⟨rfl, rfl, rfl, by decide +kernel, rfl, by decide +kernel, by decide +kernel⟩
abbrev s_law_is_mirror_right : Stmt := topS 27
abbrev N_law_is_mirror_right : List Str := ["n", "net", "row", "due", "kept", "made", "told", "turned", "other", "i", "j", "x"]
abbrev P_law_is_mirror_right : List Str := ["n", "net", "row"]
theorem sc_law_is_mirror_right : FnScope N_law_is_mirror_right P_law_is_mirror_right (defScope s_law_is_mirror_right) := ⟨rfl, rfl, rfl, by decide +kernel, rfl, by decide +kernel, by decide +kernel⟩
abbrev s_law_is_renamed_right : Stmt := topS 28
abbrev N_law_is_renamed_right : List Str := ["n", "net", "names", "row", "due", "kept", "made", "told", "undone", "led", "other", "found", "w", "i", "j"]
abbrev P_law_is_renamed_right : List Str := ["n", "net", "names", "row"]
theorem sc_law_is_renamed_right : FnScope N_law_is_renamed_right P_law_is_renamed_right (defScope s_law_is_renamed_right) := ⟨rfl, rfl, rfl, by decide +kernel, rfl, by decide +kernel, by decide +kernel⟩
abbrev s_law_are_all_right : Stmt := topS 29
abbrev N_law_are_all_right : List Str := ["bag", "n", "net", "row", "names"]
abbrev P_law_are_all_right : List Str := ["bag", "n", "net"]
theorem sc_law_are_all_right : FnScope N_law_are_all_right P_law_are_all_right (defScope s_law_are_all_right) := ⟨rfl, rfl, rfl, by decide +kernel, rfl, by decide +kernel, by decide +kernel⟩
abbrev s_law_are_great_right : Stmt := topS 30
abbrev N_law_are_great_right : List Str := ["bag", "n", "one", "other", "great", "due", "turn"]
abbrev P_law_are_great_right : List Str := ["bag", "n"]
theorem sc_law_are_great_right : FnScope N_law_are_great_right P_law_are_great_right (defScope s_law_are_great_right) := ⟨rfl, rfl, rfl, by decide +kernel, rfl, by decide +kernel, by decide +kernel⟩
abbrev s_law : Stmt := topS 31
abbrev N_law : List Str := ["script", "bag", "n", "mode"]
abbrev P_law : List Str := ["script"]
theorem sc_law : FnScope N_law P_law (defScope s_law) := ⟨rfl, rfl, rfl, by decide +kernel, rfl, by decide +kernel, by decide +kernel⟩
/-- what the text's top has made -/
structure Txt (K : PySem.W.Frag) (mg : Str → Option Value) where
  a_joined_nets : Addr
  d_joined_nets : FuncData
  g_joined_nets : mg "joined_nets" = some (.ref a_joined_nets)
  k_joined_nets : PySem.W.keepIn K (.ref a_joined_nets) = true
  f_joined_nets : Fun K "joined_nets" "joined_nets" s_joined_nets a_joined_nets d_joined_nets
  b_joined_nets : BindP K d_joined_nets P_joined_nets
  a_made_row : Addr
  d_made_row : FuncData
  g_made_row : mg "made_row" = some (.ref a_made_row)
  k_made_row : PySem.W.keepIn K (.ref a_made_row) = true
  f_made_row : Fun K "made_row" "made_row" s_made_row a_made_row d_made_row
  b_made_row : BindP K d_made_row P_made_row
  a_is_ascending : Addr
  d_is_ascending : FuncData
  g_is_ascending : mg "is_ascending" = some (.ref a_is_ascending)
  k_is_ascending : PySem.W.keepIn K (.ref a_is_ascending) = true
  f_is_ascending : Fun K "is_ascending" "is_ascending" s_is_ascending a_is_ascending d_is_ascending
  b_is_ascending : BindP K d_is_ascending P_is_ascending
  a_is_standard : Addr
  d_is_standard : FuncData
  g_is_standard : mg "is_standard" = some (.ref a_is_standard)
  k_is_standard : PySem.W.keepIn K (.ref a_is_standard) = true
  f_is_standard : Fun K "is_standard" "is_standard" s_is_standard a_is_standard d_is_standard
  b_is_standard : BindP K d_is_standard P_is_standard
  a_does_sort_row : Addr
  d_does_sort_row : FuncData
  g_does_sort_row : mg "does_sort_row" = some (.ref a_does_sort_row)
  k_does_sort_row : PySem.W.keepIn K (.ref a_does_sort_row) = true
  f_does_sort_row : Fun K "does_sort_row" "does_sort_row" s_does_sort_row a_does_sort_row d_does_sort_row
  b_does_sort_row : BindP K d_does_sort_row P_does_sort_row
  a_renamed_net : Addr
  d_renamed_net : FuncData
  g_renamed_net : mg "renamed_net" = some (.ref a_renamed_net)
  k_renamed_net : PySem.W.keepIn K (.ref a_renamed_net) = true
  f_renamed_net : Fun K "renamed_net" "renamed_net" s_renamed_net a_renamed_net d_renamed_net
  b_renamed_net : BindP K d_renamed_net P_renamed_net
  a_mirrored_net : Addr
  d_mirrored_net : FuncData
  g_mirrored_net : mg "mirrored_net" = some (.ref a_mirrored_net)
  k_mirrored_net : PySem.W.keepIn K (.ref a_mirrored_net) = true
  f_mirrored_net : Fun K "mirrored_net" "mirrored_net" s_mirrored_net a_mirrored_net d_mirrored_net
  b_mirrored_net : BindP K d_mirrored_net P_mirrored_net
  a_standard_net : Addr
  d_standard_net : FuncData
  g_standard_net : mg "standard_net" = some (.ref a_standard_net)
  k_standard_net : PySem.W.keepIn K (.ref a_standard_net) = true
  f_standard_net : Fun K "standard_net" "standard_net" s_standard_net a_standard_net d_standard_net
  b_standard_net : BindP K d_standard_net P_standard_net
  a_law_own_bag : Addr
  d_law_own_bag : FuncData
  g_law_own_bag : mg "_law_own_bag" = some (.ref a_law_own_bag)
  k_law_own_bag : PySem.W.keepIn K (.ref a_law_own_bag) = true
  f_law_own_bag : Fun K "_law_own_bag" "_law_own_bag" s_law_own_bag a_law_own_bag d_law_own_bag
  b_law_own_bag : BindP K d_law_own_bag P_law_own_bag
  a_law_draw : Addr
  d_law_draw : FuncData
  g_law_draw : mg "_law_draw" = some (.ref a_law_draw)
  k_law_draw : PySem.W.keepIn K (.ref a_law_draw) = true
  f_law_draw : Fun K "_law_draw" "_law_draw" s_law_draw a_law_draw d_law_draw
  b_law_draw : BindP K d_law_draw P_law_draw
  a_law_pick : Addr
  d_law_pick : FuncData
  g_law_pick : mg "_law_pick" = some (.ref a_law_pick)
  k_law_pick : PySem.W.keepIn K (.ref a_law_pick) = true
  f_law_pick : Fun K "_law_pick" "_law_pick" s_law_pick a_law_pick d_law_pick
  b_law_pick : BindP K d_law_pick P_law_pick
  a_law_pair : Addr
  d_law_pair : FuncData
  g_law_pair : mg "_law_pair" = some (.ref a_law_pair)
  k_law_pair : PySem.W.keepIn K (.ref a_law_pair) = true
  f_law_pair : Fun K "_law_pair" "_law_pair" s_law_pair a_law_pair d_law_pair
  b_law_pair : BindP K d_law_pair P_law_pair
  a_law_great : Addr
  d_law_great : FuncData
  g_law_great : mg "_law_great" = some (.ref a_law_great)
  k_law_great : PySem.W.keepIn K (.ref a_law_great) = true
  f_law_great : Fun K "_law_great" "_law_great" s_law_great a_law_great d_law_great
  b_law_great : BindP K d_law_great P_law_great
  a_law_row : Addr
  d_law_row : FuncData
  g_law_row : mg "_law_row" = some (.ref a_law_row)
  k_law_row : PySem.W.keepIn K (.ref a_law_row) = true
  f_law_row : Fun K "_law_row" "_law_row" s_law_row a_law_row d_law_row
  b_law_row : BindP K d_law_row P_law_row
  a_law_made : Addr
  d_law_made : FuncData
  g_law_made : mg "_law_made" = some (.ref a_law_made)
  k_law_made : PySem.W.keepIn K (.ref a_law_made) = true
  f_law_made : Fun K "_law_made" "_law_made" s_law_made a_law_made d_law_made
  b_law_made : BindP K d_law_made P_law_made
  a_law_wires : Addr
  d_law_wires : FuncData
  g_law_wires : mg "_law_wires" = some (.ref a_law_wires)
  k_law_wires : PySem.W.keepIn K (.ref a_law_wires) = true
  f_law_wires : Fun K "_law_wires" "_law_wires" s_law_wires a_law_wires d_law_wires
  b_law_wires : BindP K d_law_wires P_law_wires
  a_law_sorting : Addr
  d_law_sorting : FuncData
  g_law_sorting : mg "_law_sorting" = some (.ref a_law_sorting)
  k_law_sorting : PySem.W.keepIn K (.ref a_law_sorting) = true
  f_law_sorting : Fun K "_law_sorting" "_law_sorting" s_law_sorting a_law_sorting d_law_sorting
  b_law_sorting : BindP K d_law_sorting P_law_sorting
  a_law_net : Addr
  d_law_net : FuncData
  g_law_net : mg "_law_net" = some (.ref a_law_net)
  k_law_net : PySem.W.keepIn K (.ref a_law_net) = true
  f_law_net : Fun K "_law_net" "_law_net" s_law_net a_law_net d_law_net
  b_law_net : BindP K d_law_net P_law_net
  a_law_some_net : Addr
  d_law_some_net : FuncData
  g_law_some_net : mg "_law_some_net" = some (.ref a_law_some_net)
  k_law_some_net : PySem.W.keepIn K (.ref a_law_some_net) = true
  f_law_some_net : Fun K "_law_some_net" "_law_some_net" s_law_some_net a_law_some_net d_law_some_net
  b_law_some_net : BindP K d_law_some_net P_law_some_net
  a_law_standard : Addr
  d_law_standard : FuncData
  g_law_standard : mg "_law_standard" = some (.ref a_law_standard)
  k_law_standard : PySem.W.keepIn K (.ref a_law_standard) = true
  f_law_standard : Fun K "_law_standard" "_law_standard" s_law_standard a_law_standard d_law_standard
  b_law_standard : BindP K d_law_standard P_law_standard
  a_law_failing : Addr
  d_law_failing : FuncData
  g_law_failing : mg "_law_failing" = some (.ref a_law_failing)
  k_law_failing : PySem.W.keepIn K (.ref a_law_failing) = true
  f_law_failing : Fun K "_law_failing" "_law_failing" s_law_failing a_law_failing d_law_failing
  b_law_failing : BindP K d_law_failing P_law_failing
  a_law_does_go : Addr
  d_law_does_go : FuncData
  g_law_does_go : mg "_law_does_go" = some (.ref a_law_does_go)
  k_law_does_go : PySem.W.keepIn K (.ref a_law_does_go) = true
  f_law_does_go : Fun K "_law_does_go" "_law_does_go" s_law_does_go a_law_does_go d_law_does_go
  b_law_does_go : BindP K d_law_does_go P_law_does_go
  a_law_is_standard_right : Addr
  d_law_is_standard_right : FuncData
  g_law_is_standard_right : mg "_law_is_standard_right" = some (.ref a_law_is_standard_right)
  k_law_is_standard_right : PySem.W.keepIn K (.ref a_law_is_standard_right) = true
  f_law_is_standard_right : Fun K "_law_is_standard_right" "_law_is_standard_right" s_law_is_standard_right a_law_is_standard_right d_law_is_standard_right
  b_law_is_standard_right : BindP K d_law_is_standard_right P_law_is_standard_right
  a_law_is_mirror_right : Addr
  d_law_is_mirror_right : FuncData
  g_law_is_mirror_right : mg "_law_is_mirror_right" = some (.ref a_law_is_mirror_right)
  k_law_is_mirror_right : PySem.W.keepIn K (.ref a_law_is_mirror_right) = true
  f_law_is_mirror_right : Fun K "_law_is_mirror_right" "_law_is_mirror_right" s_law_is_mirror_right a_law_is_mirror_right d_law_is_mirror_right
  b_law_is_mirror_right : BindP K d_law_is_mirror_right P_law_is_mirror_right
  a_law_is_renamed_right : Addr
  d_law_is_renamed_right : FuncData
  g_law_is_renamed_right : mg "_law_is_renamed_right" = some (.ref a_law_is_renamed_right)
  k_law_is_renamed_right : PySem.W.keepIn K (.ref a_law_is_renamed_right) = true
  f_law_is_renamed_right : Fun K "_law_is_renamed_right" "_law_is_renamed_right" s_law_is_renamed_right a_law_is_renamed_right d_law_is_renamed_right
  b_law_is_renamed_right : BindP K d_law_is_renamed_right P_law_is_renamed_right
  a_law_are_all_right : Addr
  d_law_are_all_right : FuncData
  g_law_are_all_right : mg "_law_are_all_right" = some (.ref a_law_are_all_right)
  k_law_are_all_right : PySem.W.keepIn K (.ref a_law_are_all_right) = true
  f_law_are_all_right : Fun K "_law_are_all_right" "_law_are_all_right" s_law_are_all_right a_law_are_all_right d_law_are_all_right
  b_law_are_all_right : BindP K d_law_are_all_right P_law_are_all_right
  a_law_are_great_right : Addr
  d_law_are_great_right : FuncData
  g_law_are_great_right : mg "_law_are_great_right" = some (.ref a_law_are_great_right)
  k_law_are_great_right : PySem.W.keepIn K (.ref a_law_are_great_right) = true
  f_law_are_great_right : Fun K "_law_are_great_right" "_law_are_great_right" s_law_are_great_right a_law_are_great_right d_law_are_great_right
  b_law_are_great_right : BindP K d_law_are_great_right P_law_are_great_right
  a_law : Addr
  d_law : FuncData
  g_law : mg "law" = some (.ref a_law)
  k_law : PySem.W.keepIn K (.ref a_law) = true
  f_law : Fun K "law" "law" s_law a_law d_law
  b_law : BindP K d_law P_law
  n_all : mg "all" = none
  n_int : mg "int" = none
  n_len : mg "len" = none
  n_list : mg "list" = none
  n_max : mg "max" = none
  n_min : mg "min" = none
  n_range : mg "range" = none
  n_repr : mg "repr" = none
  n_reversed : mg "reversed" = none
  n_sorted : mg "sorted" = none
  n_tuple : mg "tuple" = none
  n_zip : mg "zip" = none
variable {P : Program} {w : World} {K : PySem.W.Frag} {mg : Str → Option Value} {base : Heap}
theorem kw0 (T : Txt K mg) : BindK T.d_does_sort_row P_does_sort_row ["row", "net"] 0 (permL [1, 0]) := bindK_of T.f_does_sort_row ["row", "net"] 0 [1, 0] fun _ _ _ _ _ _ us ws h1 h2 => match us, ws, h1, h2 with | [], [_, _], _, _ => rfl
theorem kw1 (T : Txt K mg) : BindK T.d_standard_net P_standard_net ["net", "n"] 0 (permL [1, 0]) := bindK_of T.f_standard_net ["net", "n"] 0 [1, 0] fun _ _ _ _ _ _ us ws h1 h2 => match us, ws, h1, h2 with | [], [_, _], _, _ => rfl
theorem kw2 (T : Txt K mg) : BindK T.d_made_row P_made_row ["row", "net"] 0 (permL [1, 0]) := bindK_of T.f_made_row ["row", "net"] 0 [1, 0] fun _ _ _ _ _ _ us ws h1 h2 => match us, ws, h1, h2 with | [], [_, _], _, _ => rfl
theorem kw3 (T : Txt K mg) : BindK T.d_mirrored_net P_mirrored_net ["net", "n"] 0 (permL [1, 0]) := bindK_of T.f_mirrored_net ["net", "n"] 0 [1, 0] fun _ _ _ _ _ _ us ws h1 h2 => match us, ws, h1, h2 with | [], [_, _], _, _ => rfl
theorem kw4 (T : Txt K mg) : BindK T.d_renamed_net P_renamed_net ["names", "net"] 0 (permL [1, 0]) := bindK_of T.f_renamed_net ["names", "net"] 0 [1, 0] fun _ _ _ _ _ _ us ws h1 h2 => match us, ws, h1, h2 with | [], [_, _], _, _ => rfl
def m_joined_nets : VSt :=
  (vRet (vOp dAdd (vVar 0) (vVar 1)))
theorem ok_joined_nets (T : Txt K mg) : FnG P w K mg base 1 T.a_joined_nets T.d_joined_nets P_joined_nets (mF 2 (m_joined_nets)) :=
  fnG_of T.f_joined_nets sc_joined_nets fun cdv A outer s H E a =>
    (qsOne (qRet (qOp add_opr (add_opd _) (qV (i := 0) rfl (.inl rfl)) (qV (i := 1) rfl (.inl rfl)))))
def B1_made_row : VSt :=
  (vIfS (vTr (vOp aGt (vOp dIx (vVar 2) (vVar 3)) (vOp dIx (vVar 2) (vVar 4)))) (vAsg (vTup (vCons (vOp dIx (vVar 2) (vVar 4)) (vCons (vOp dIx (vVar 2) (vVar 3)) vNil))) (gTupl 2 (gsCons (gSubs sLst (vVar 2) (vVar 3)) (gsCons (gSubs sLst (vVar 2) (vVar 4)) gsNil)))) vPass)
def L1_made_row : VSt :=
  (vFor (vIt (vVar 0)) (gP (pTup 2 (psCons (pN 3) (psCons (pN 4) psNil)))) B1_made_row)
def m_made_row : VSt :=
  (vSeq (vAsg (vBl bList (vCons (vVar 1) vNil)) (gName 2))
    (vSeq L1_made_row
    (vRet (vBl bTup (vCons (vVar 2) vNil)))))
theorem ok_made_row (T : Txt K mg) : FnG P w K mg base 1 T.a_made_row T.d_made_row P_made_row (mF 5 (m_made_row)) :=
  fnG_of T.f_made_row sc_made_row fun cdv A outer s H E a =>
    (qsCons (qSet (i := 2) sc_made_row.nd (qTy call_list_of (list_cd _) T.n_list (qa (qV (i := 1) rfl (.inl rfl)) qa0)) rfl (.inl rfl))
    (qsCons (qFor a.ps rfl (qIt (qV (i := 0) rfl (.inl rfl))) (qgP (vs := [3, 4]) (pg_tup rfl (pgs_cons (pg_name (i := 3) sc_made_row.nd rfl (.inl rfl)) (pgs_cons (pg_name (i := 4) sc_made_row.nd rfl (.inl rfl)) pgs_nil))) (tgd_tup (tgsd_cons (tgd_name (by decide)) (tgsd_cons (tgd_name (by decide)) tgsd_nil)))) (qsOne (qIfS (qCmT op_gt (gt_ii _) (qIx ix_seq (ix_opd _) (qV (i := 2) rfl (.inl rfl)) (qV (i := 3) rfl (.inl rfl))) (qIx ix_seq (ix_opd _) (qV (i := 2) rfl (.inl rfl)) (qV (i := 4) rfl (.inl rfl)))) (qsOne (qAsg (qTup (qa (qIx ix_seq (ix_opd _) (qV (i := 2) rfl (.inl rfl)) (qV (i := 4) rfl (.inl rfl))) (qa (qIx ix_seq (ix_opd _) (qV (i := 2) rfl (.inl rfl)) (qV (i := 3) rfl (.inl rfl))) qa0))) (qgT rfl (qgs (qgS set_list (lst_setd _) (qV (i := 2) rfl (.inl rfl)) (qV (i := 3) rfl (.inl rfl))) (qgs (qgS set_list (lst_setd _) (qV (i := 2) rfl (.inl rfl)) (qV (i := 4) rfl (.inl rfl))) qgs0))))) qsNil)))
    (qsOne (qRet (qTy call_tuple_of (tup_cd _) T.n_tuple (qa (qV (i := 2) rfl (.inl rfl)) qa0))))))
def E1_is_ascending : VE :=
  (vOp aLe (vVar 1) (vVar 2))
def C1_is_ascending : VE :=
  (vLc (vZip (vCons (vVar 0) (vCons (vSl (vVar 0) (oSome (vC (.int 1))) oNone) vNil))) [1, 2] (pTup 2 (psCons (pN 1) (psCons (pN 2) psNil))) vYes E1_is_ascending)
def m_is_ascending : VSt :=
  (vRet (vBl bAll (vCons C1_is_ascending vNil)))
theorem ok_is_ascending (T : Txt K mg) : FnG P w K mg base 1 T.a_is_ascending T.d_is_ascending P_is_ascending (mF 3 (m_is_ascending)) :=
  fnG_of T.f_is_ascending sc_is_ascending fun cdv A outer s H E a =>
    (qsOne (qRet (qBl (cr_all rfl) (all_cd _) T.n_all (qa (qLc (own := [("one", 1), ("other", 2)]) rfl sc_is_ascending.nd (qZip T.n_zip (qa (qV (i := 0) rfl (.inl rfl)) (qa (qSl (qV (i := 0) rfl (.inl rfl)) (qo qI) qo0) qa0))) (blkOk_by (N := N_is_ascending) (sc := defScope s_is_ascending) (own := [("one", 1), ("other", 2)]) (by decide +kernel)) (tgd_tup (tgsd_cons (tgd_name (by decide)) (tgsd_cons (tgd_name (by decide)) tgsd_nil))) (fun _ _ _ _ _ => (pg_tup rfl (pgs_cons (pg_name (i := 1) sc_is_ascending.nd rfl (.inl rfl)) (pgs_cons (pg_name (i := 2) sc_is_ascending.nd rfl (.inl rfl)) pgs_nil)))) (fun _ _ _ _ _ => (qYes _ _)) (fun _ _ _ _ _ => (qCm op_le (le_ii _) (qV (i := 1) rfl (.inl rfl)) (qV (i := 2) rfl (.inl rfl))))) qa0))))
def E1_is_standard : VE :=
  (vOp aLt (vVar 1) (vVar 2))
def C1_is_standard : VE :=
  (vLc (vIt (vVar 0)) [1, 2] (pTup 2 (psCons (pN 1) (psCons (pN 2) psNil))) vYes E1_is_standard)
def m_is_standard : VSt :=
  (vRet (vBl bAll (vCons C1_is_standard vNil)))
theorem ok_is_standard (T : Txt K mg) : FnG P w K mg base 1 T.a_is_standard T.d_is_standard P_is_standard (mF 3 (m_is_standard)) :=
  fnG_of T.f_is_standard sc_is_standard fun cdv A outer s H E a =>
    (qsOne (qRet (qBl (cr_all rfl) (all_cd _) T.n_all (qa (qLc (own := [("i", 1), ("j", 2)]) rfl sc_is_standard.nd (qIt (qV (i := 0) rfl (.inl rfl))) (blkOk_by (N := N_is_standard) (sc := defScope s_is_standard) (own := [("i", 1), ("j", 2)]) (by decide +kernel)) (tgd_tup (tgsd_cons (tgd_name (by decide)) (tgsd_cons (tgd_name (by decide)) tgsd_nil))) (fun _ _ _ _ _ => (pg_tup rfl (pgs_cons (pg_name (i := 1) sc_is_standard.nd rfl (.inl rfl)) (pgs_cons (pg_name (i := 2) sc_is_standard.nd rfl (.inl rfl)) pgs_nil)))) (fun _ _ _ _ _ => (qYes _ _)) (fun _ _ _ _ _ => (qCm op_lt (lt_ii _) (qV (i := 1) rfl (.inl rfl)) (qV (i := 2) rfl (.inl rfl))))) qa0))))
def m_does_sort_row (F_is_ascending F_made_row : Fn) : VSt :=
  (vRet (vCall 1 F_is_ascending (vCons (vCall 2 F_made_row (vCons (vVar 0) (vCons (vVar 1) vNil))) vNil)))
theorem ok_does_sort_row (T : Txt K mg) {F_is_ascending F_made_row : Fn} (G_is_ascending : FnG P w K mg base 1 T.a_is_ascending T.d_is_ascending P_is_ascending F_is_ascending) (G_made_row : FnG P w K mg base 1 T.a_made_row T.d_made_row P_made_row F_made_row) : FnG P w K mg base 2 T.a_does_sort_row T.d_does_sort_row P_does_sort_row (mF 2 (m_does_sort_row F_is_ascending F_made_row)) :=
  fnG_of T.f_does_sort_row sc_does_sort_row fun cdv A outer s H E a =>
    (qsOne (qRet (qCall G_is_ascending (a.mono (by decide)) T.g_is_ascending T.k_is_ascending T.b_is_ascending (qa (qCall G_made_row (a.mono (by decide)) T.g_made_row T.k_made_row T.b_made_row (qa (qV (i := 0) rfl (.inl rfl)) (qa (qV (i := 1) rfl (.inl rfl)) qa0))) qa0))))
def E1_renamed_net : VE :=
  (vTup (vCons (vOp dIx (vVar 1) (vVar 2)) (vCons (vOp dIx (vVar 1) (vVar 3)) vNil)))
def C1_renamed_net : VE :=
  (vLc (vIt (vVar 0)) [2, 3] (pTup 2 (psCons (pN 2) (psCons (pN 3) psNil))) vYes E1_renamed_net)
def m_renamed_net : VSt :=
  (vRet (vBl bTup (vCons C1_renamed_net vNil)))
theorem ok_renamed_net (T : Txt K mg) : FnG P w K mg base 1 T.a_renamed_net T.d_renamed_net P_renamed_net (mF 4 (m_renamed_net)) :=
  fnG_of T.f_renamed_net sc_renamed_net fun cdv A outer s H E a =>
    (qsOne (qRet (qTy call_tuple_of (tup_cd _) T.n_tuple (qa (qLc (own := [("i", 2), ("j", 3)]) rfl sc_renamed_net.nd (qIt (qV (i := 0) rfl (.inl rfl))) (blkOk_by (N := N_renamed_net) (sc := defScope s_renamed_net) (own := [("i", 2), ("j", 3)]) (by decide +kernel)) (tgd_tup (tgsd_cons (tgd_name (by decide)) (tgsd_cons (tgd_name (by decide)) tgsd_nil))) (fun _ _ _ _ _ => (pg_tup rfl (pgs_cons (pg_name (i := 2) sc_renamed_net.nd rfl (.inl rfl)) (pgs_cons (pg_name (i := 3) sc_renamed_net.nd rfl (.inl rfl)) pgs_nil)))) (fun _ _ _ _ _ => (qYes _ _)) (fun _ _ _ _ _ => (qTup (qa (qIx ix_seq (ix_opd _) (qV (i := 1) rfl (.inr (.inl rfl))) (qV (i := 2) rfl (.inl rfl))) (qa (qIx ix_seq (ix_opd _) (qV (i := 1) rfl (.inr (.inl rfl))) (qV (i := 3) rfl (.inl rfl))) qa0))))) qa0))))
def E1_mirrored_net : VE :=
  (vTup (vCons (vOp aSub (vOp aSub (vVar 0) (vC (.int 1))) (vVar 3)) (vCons (vOp aSub (vOp aSub (vVar 0) (vC (.int 1))) (vVar 2)) vNil)))
def C1_mirrored_net : VE :=
  (vLc (vIt (vVar 1)) [2, 3] (pTup 2 (psCons (pN 2) (psCons (pN 3) psNil))) vYes E1_mirrored_net)
def m_mirrored_net : VSt :=
  (vRet (vBl bTup (vCons C1_mirrored_net vNil)))
theorem ok_mirrored_net (T : Txt K mg) : FnG P w K mg base 1 T.a_mirrored_net T.d_mirrored_net P_mirrored_net (mF 4 (m_mirrored_net)) :=
  fnG_of T.f_mirrored_net sc_mirrored_net fun cdv A outer s H E a =>
    (qsOne (qRet (qTy call_tuple_of (tup_cd _) T.n_tuple (qa (qLc (own := [("i", 2), ("j", 3)]) rfl sc_mirrored_net.nd (qIt (qV (i := 1) rfl (.inl rfl))) (blkOk_by (N := N_mirrored_net) (sc := defScope s_mirrored_net) (own := [("i", 2), ("j", 3)]) (by decide +kernel)) (tgd_tup (tgsd_cons (tgd_name (by decide)) (tgsd_cons (tgd_name (by decide)) tgsd_nil))) (fun _ _ _ _ _ => (pg_tup rfl (pgs_cons (pg_name (i := 2) sc_mirrored_net.nd rfl (.inl rfl)) (pgs_cons (pg_name (i := 3) sc_mirrored_net.nd rfl (.inl rfl)) pgs_nil)))) (fun _ _ _ _ _ => (qYes _ _)) (fun _ _ _ _ _ => (qTup (qa (qOp op_sub (sub_ii _) (qOp op_sub (sub_ii _) (qV (i := 0) rfl (.inr (.inl rfl))) qI) (qV (i := 3) rfl (.inl rfl))) (qa (qOp op_sub (sub_ii _) (qOp op_sub (sub_ii _) (qV (i := 0) rfl (.inr (.inl rfl))) qI) (qV (i := 2) rfl (.inl rfl))) qa0))))) qa0))))
def B1_standard_net : VSt :=
  (vSeq (vPar 6 7 (vCons (vBl bMin (vCons (vOp dIx (vVar 2) (vVar 4)) (vCons (vOp dIx (vVar 2) (vVar 5)) vNil))) (vCons (vBl bMax (vCons (vOp dIx (vVar 2) (vVar 4)) (vCons (vOp dIx (vVar 2) (vVar 5)) vNil))) vNil)))
    (vSeq (vDrop (vMt "list" mAppend (vVar 3) (vCons (vTup (vCons (vVar 6) (vCons (vVar 7) vNil))) vNil)))
    (vAsg (vTup (vCons (vVar 6) (vCons (vVar 7) vNil))) (gTupl 2 (gsCons (gSubs sLst (vVar 2) (vVar 4)) (gsCons (gSubs sLst (vVar 2) (vVar 5)) gsNil))))))
def L1_standard_net : VSt :=
  (vFor (vIt (vVar 1)) (gP (pTup 2 (psCons (pN 4) (psCons (pN 5) psNil)))) B1_standard_net)
def m_standard_net : VSt :=
  (vSeq (vPar 2 3 (vCons (vLR1 (vVar 0)) (vCons (vLst vNil) vNil)))
    (vSeq L1_standard_net
    (vRet (vTup (vCons (vBl bTup (vCons (vVar 3) vNil)) (vCons (vBl bTup (vCons (vVar 2) vNil)) vNil))))))
theorem ok_standard_net (T : Txt K mg) : FnG P w K mg base 1 T.a_standard_net T.d_standard_net P_standard_net (mF 8 (m_standard_net)) :=
  fnG_of T.f_standard_net sc_standard_net fun cdv A outer s H E a =>
    (qsCons (qPar2 (i := 2) (j := 3) rfl sc_standard_net.nd (qa (qLR1 rfl T.n_list T.n_range (qV (i := 0) rfl (.inl rfl))) (qa (qLst qa0) qa0)))
    (qsCons (qFor a.ps rfl (qIt (qV (i := 1) rfl (.inl rfl))) (qgP (vs := [4, 5]) (pg_tup rfl (pgs_cons (pg_name (i := 4) sc_standard_net.nd rfl (.inl rfl)) (pgs_cons (pg_name (i := 5) sc_standard_net.nd rfl (.inl rfl)) pgs_nil))) (tgd_tup (tgsd_cons (tgd_name (by decide)) (tgsd_cons (tgd_name (by decide)) tgsd_nil)))) (qsCons (qPar2 (i := 6) (j := 7) rfl sc_standard_net.nd (qa (qBl (cr_minS rfl) (min_cd _) T.n_min (qa (qIx ix_seq (ix_opd _) (qV (i := 2) rfl (.inl rfl)) (qV (i := 4) rfl (.inl rfl))) (qa (qIx ix_seq (ix_opd _) (qV (i := 2) rfl (.inl rfl)) (qV (i := 5) rfl (.inl rfl))) qa0))) (qa (qBl (cr_maxS rfl) (max_cd _) T.n_max (qa (qIx ix_seq (ix_opd _) (qV (i := 2) rfl (.inl rfl)) (qV (i := 4) rfl (.inl rfl))) (qa (qIx ix_seq (ix_opd _) (qV (i := 2) rfl (.inl rfl)) (qV (i := 5) rfl (.inl rfl))) qa0))) qa0)))
    (qsCons (qDrop (qMt PySem.F.plainAttrs_list PySem.F.slot_list_append PySem.F.type_list_append mt_append (append_mtd _) (qV (i := 3) rfl (.inl rfl)) (qa (qTup (qa (qV (i := 6) rfl (.inl rfl)) (qa (qV (i := 7) rfl (.inl rfl)) qa0))) qa0)))
    (qsOne (qAsg (qTup (qa (qV (i := 6) rfl (.inl rfl)) (qa (qV (i := 7) rfl (.inl rfl)) qa0))) (qgT rfl (qgs (qgS set_list (lst_setd _) (qV (i := 2) rfl (.inl rfl)) (qV (i := 4) rfl (.inl rfl))) (qgs (qgS set_list (lst_setd _) (qV (i := 2) rfl (.inl rfl)) (qV (i := 5) rfl (.inl rfl))) qgs0))))))))
    (qsOne (qRet (qTup (qa (qTy call_tuple_of (tup_cd _) T.n_tuple (qa (qV (i := 3) rfl (.inl rfl)) qa0)) (qa (qTy call_tuple_of (tup_cd _) T.n_tuple (qa (qV (i := 2) rfl (.inl rfl)) qa0)) qa0)))))))
def T1_law_own_bag : VT :=
  (vTr (vOp aGt (vVar 3) (vOp dMul (vC (.int 2)) (vOp aPow (vC (.int 10)) (vC (.int 9))))))
def E1_law_own_bag : VE :=
  (vOp aFdv (vVar 3) (vC (.int 2)))
def C1_law_own_bag : VE :=
  (vLc (vRev (vBl bList (vCons (vVar 1) vNil))) [3] (pN 3) T1_law_own_bag E1_law_own_bag)
def B1_law_own_bag : VSt :=
  (vAsg (vOp aMod (vBl bInt (vCons (vOp dAdd (vOp dAdd (vOp dMul (vVar 2) (vC (.int 69621))) (vOp aMod (vBl bInt (vCons (vVar 3) vNil)) (vC (.int 2147483629)))) (vC (.int 17))) vNil)) (vC (.int 2147483647))) (gName 2))
def L1_law_own_bag : VSt :=
  (vFor (vIt (vVar 1)) (gP (pN 3)) B1_law_own_bag)
def E2_law_own_bag : VE :=
  (vIf (vTr (vOp aGe (vBl bInt (vCons (vVar 3) vNil)) (vC (.int 0)))) (vOp dMul (vBl bInt (vCons (vVar 3) vNil)) (vC (.int 2))) (vOp aSub (vC (.int 1)) (vOp dMul (vBl bInt (vCons (vVar 3) vNil)) (vC (.int 2)))))
def C2_law_own_bag : VE :=
  (vLc (vIt (vSl (vVar 0) oNone (oSome (vC (.int 63))))) [3] (pN 3) vYes E2_law_own_bag)
def m_law_own_bag : VSt :=
  (vSeq (vAsg C2_law_own_bag (gName 1))
    (vSeq (vAsg (vOp dAdd (vC (.int 918273)) (vOp dMul (vC (.int 31)) (vBl bLen (vCons (vVar 1) vNil)))) (gName 2))
    (vSeq L1_law_own_bag
    (vRet (vLst (vCons C1_law_own_bag (vCons (vC (.int 0)) (vCons (vVar 2) vNil))))))))
theorem ok_law_own_bag (T : Txt K mg) : FnG P w K mg base 1 T.a_law_own_bag T.d_law_own_bag P_law_own_bag (mF 4 (m_law_own_bag)) :=
  fnG_of T.f_law_own_bag sc_law_own_bag fun cdv A outer s H E a =>
    (qsCons (qSetLc (i := 1) (own := [("cell", 3)]) rfl sc_law_own_bag.nd rfl rfl (sw_true rfl rfl rfl (by decide +kernel)) (qIt (qSl (qV (i := 0) rfl (.inl rfl)) qo0 (qo qI))) (blkOk_by (N := N_law_own_bag) (sc := defScope s_law_own_bag) (own := [("cell", 3)]) (by decide +kernel)) (tgd_name (by decide)) (fun _ _ _ _ _ => (pg_name (i := 3) sc_law_own_bag.nd rfl (.inl rfl))) (fun _ _ _ _ _ => (qYes _ _)) (fun _ _ _ _ _ => (qIf (qCmT op_ge (ge_ii _) (qTy call_int1 (int_cd _) T.n_int (qa (qV (i := 3) rfl (.inl rfl)) qa0)) qI) (qOp mul_opr (mul_opd _) (qTy call_int1 (int_cd _) T.n_int (qa (qV (i := 3) rfl (.inl rfl)) qa0)) qI) (qOp op_sub (sub_ii _) qI (qOp mul_opr (mul_opd _) (qTy call_int1 (int_cd _) T.n_int (qa (qV (i := 3) rfl (.inl rfl)) qa0)) qI)))))
    (qsCons (qSet (i := 2) sc_law_own_bag.nd (qOp add_opr (add_opd _) qI (qOp mul_opr (mul_opd _) qI (qBl call_len (len_cd _) T.n_len (qa (qV (i := 1) rfl (.inl rfl)) qa0)))) rfl (.inl rfl))
    (qsCons (qFor a.ps rfl (qIt (qV (i := 1) rfl (.inl rfl))) (qgP (vs := [3]) (pg_name (i := 3) sc_law_own_bag.nd rfl (.inl rfl)) (tgd_name (by decide))) (qsOne (qSet (i := 2) sc_law_own_bag.nd (qOp op_modN (mod_ii _) (qTy call_int1 (int_cd _) T.n_int (qa (qOp add_opr (add_opd _) (qOp add_opr (add_opd _) (qOp mul_opr (mul_opd _) (qV (i := 2) rfl (.inl rfl)) qI) (qOp op_modN (mod_ii _) (qTy call_int1 (int_cd _) T.n_int (qa (qV (i := 3) rfl (.inl rfl)) qa0)) qI)) qI) qa0)) qI) rfl (.inl rfl))))
    (qsOne (qRet (qLst (qa (qLc (own := [("cell", 3)]) rfl sc_law_own_bag.nd (qRev T.n_reversed (qTy call_list_of (list_cd _) T.n_list (qa (qV (i := 1) rfl (.inl rfl)) qa0))) (blkOk_by (N := N_law_own_bag) (sc := defScope s_law_own_bag) (own := [("cell", 3)]) (by decide +kernel)) (tgd_name (by decide)) (fun _ _ _ _ _ => (pg_name (i := 3) sc_law_own_bag.nd rfl (.inl rfl))) (fun _ _ _ _ _ => (pts_one (qCmT op_gt (gt_ii _) (qV (i := 3) rfl (.inl rfl)) (qOp mul_opr (mul_opd _) qI (qOp op_powB (pow_ii _) qI qI))))) (fun _ _ _ _ _ => (qOp fdv_opr (fdv_ii _) (qV (i := 3) rfl (.inl rfl)) qI))) (qa qI (qa (qV (i := 2) rfl (.inl rfl)) qa0)))))))))
def S1_law_draw : VSt :=
  (vAsg (vOp aMod (vBl bInt (vCons (vOp dAdd (vOp dMul (vOp dIx (vVar 0) (vC (.int 2))) (vC (.int 48271))) (vC (.int 29))) vNil)) (vC (.int 2147483647))) (gSubs sLst (vVar 0) (vC (.int 2))))
def S2_law_draw : VSt :=
  (vIfS (vTr (vOp aGt (vOp dIx (vVar 0) (vC (.int 1))) (vC (.int 0)))) (vSeq (vAsg (vOp aMod (vBl bInt (vCons (vOp dIx (vVar 0) (vC (.int 1))) vNil)) (vVar 1)) (gName 2))
    (vSeq (vAsg (vOp aFdv (vBl bInt (vCons (vOp dIx (vVar 0) (vC (.int 1))) vNil)) (vVar 1)) (gSubs sLst (vVar 0) (vC (.int 1))))
    (vRet (vVar 2)))) vPass)
def S3_law_draw : VSt :=
  (vIfS (vAndT (vTr (vOp dEq (vOp dIx (vVar 0) (vC (.int 1))) (vC (.int 0)))) (vTr (vOp dNe (vOp dIx (vVar 0) (vC (.int 0))) (vLst vNil)))) (vAsg (vMt "list" mPop (vOp dIx (vVar 0) (vC (.int 0))) vNil) (gSubs sLst (vVar 0) (vC (.int 1)))) vPass)
def m_law_draw : VSt :=
  (vSeq S3_law_draw
    (vSeq S2_law_draw
    (vSeq S1_law_draw
    (vRet (vOp aMod (vBl bInt (vCons (vOp aFdv (vOp aMod (vBl bInt (vCons (vOp dMul (vOp dIx (vVar 0) (vC (.int 2))) (vOp dIx (vVar 0) (vC (.int 2)))) vNil)) (vC (.int 2147483629))) (vC (.int 11))) vNil)) (vVar 1))))))
theorem ok_law_draw (T : Txt K mg) : FnG P w K mg base 1 T.a_law_draw T.d_law_draw P_law_draw (mF 3 (m_law_draw)) :=
  fnG_of T.f_law_draw sc_law_draw fun cdv A outer s H E a =>
    (qsCons (qIfS (PW.pt (qAndT (qCmT (eq_opr a.hu) (eq_opd _) (qIx ix_seq (ix_opd _) (qV (i := 0) rfl (.inl rfl)) qI) qI) (qAnd1 (qCmT (ne_opr a.hu) (ne_opd _) (qIx ix_seq (ix_opd _) (qV (i := 0) rfl (.inl rfl)) qI) (qLst qa0))))) (qsOne (qAsg (qMt0 PySem.F.plainAttrs_list PySem.F.slot_list_pop PySem.F.type_list_pop mt_pop (pop_mtd _) (qIx ix_seq (ix_opd _) (qV (i := 0) rfl (.inl rfl)) qI)) (qgS set_list (lst_setd _) (qV (i := 0) rfl (.inl rfl)) qI))) qsNil)
    (qsCons (qIfS (qCmT op_gt (gt_ii _) (qIx ix_seq (ix_opd _) (qV (i := 0) rfl (.inl rfl)) qI) qI) (qsCons (qSet (i := 2) sc_law_draw.nd (qOp op_modN (mod_ii _) (qTy call_int1 (int_cd _) T.n_int (qa (qIx ix_seq (ix_opd _) (qV (i := 0) rfl (.inl rfl)) qI) qa0)) (qV (i := 1) rfl (.inl rfl))) rfl (.inl rfl))
    (qsCons (qAsg (qOp fdv_opr (fdv_ii _) (qTy call_int1 (int_cd _) T.n_int (qa (qIx ix_seq (ix_opd _) (qV (i := 0) rfl (.inl rfl)) qI) qa0)) (qV (i := 1) rfl (.inl rfl))) (qgS set_list (lst_setd _) (qV (i := 0) rfl (.inl rfl)) qI))
    (qsOne (qRet (qV (i := 2) rfl (.inl rfl)))))) qsNil)
    (qsCons (qAsg (qOp op_modN (mod_ii _) (qTy call_int1 (int_cd _) T.n_int (qa (qOp add_opr (add_opd _) (qOp mul_opr (mul_opd _) (qIx ix_seq (ix_opd _) (qV (i := 0) rfl (.inl rfl)) qI) qI) qI) qa0)) qI) (qgS set_list (lst_setd _) (qV (i := 0) rfl (.inl rfl)) qI))
    (qsOne (qRet (qOp op_modN (mod_ii _) (qTy call_int1 (int_cd _) T.n_int (qa (qOp fdv_opr (fdv_ii _) (qOp op_modN (mod_ii _) (qTy call_int1 (int_cd _) T.n_int (qa (qOp mul_opr (mul_opd _) (qIx ix_seq (ix_opd _) (qV (i := 0) rfl (.inl rfl)) qI) (qIx ix_seq (ix_opd _) (qV (i := 0) rfl (.inl rfl)) qI)) qa0)) qI) qI) qa0)) (qV (i := 1) rfl (.inl rfl))))))))
def m_law_pick (F_law_draw : Fn) : VSt :=
  (vRet (vOp dIx (vVar 1) (vCall 2 F_law_draw (vCons (vVar 0) (vCons (vBl bLen (vCons (vVar 1) vNil)) vNil)))))
theorem ok_law_pick (T : Txt K mg) {F_law_draw : Fn} (G_law_draw : FnG P w K mg base 1 T.a_law_draw T.d_law_draw P_law_draw F_law_draw) : FnG P w K mg base 2 T.a_law_pick T.d_law_pick P_law_pick (mF 2 (m_law_pick F_law_draw)) :=
  fnG_of T.f_law_pick sc_law_pick fun cdv A outer s H E a =>
    (qsOne (qRet (qIx ix_seq (ix_opd _) (qV (i := 1) rfl (.inl rfl)) (qCall G_law_draw (a.mono (by decide)) T.g_law_draw T.k_law_draw T.b_law_draw (qa (qV (i := 0) rfl (.inl rfl)) (qa (qBl call_len (len_cd _) T.n_len (qa (qV (i := 1) rfl (.inl rfl)) qa0)) qa0))))))
def m_law_pair (F_law_draw : Fn) : VSt :=
  (vSeq (vAsg (vCall 2 F_law_draw (vCons (vVar 0) (vCons (vVar 1) vNil))) (gName 2))
    (vRet (vTup (vCons (vVar 2) (vCons (vOp aMod (vBl bInt (vCons (vOp dAdd (vOp dAdd (vVar 2) (vC (.int 1))) (vCall 2 F_law_draw (vCons (vVar 0) (vCons (vOp aSub (vVar 1) (vC (.int 1))) vNil)))) vNil)) (vVar 1)) vNil)))))
theorem ok_law_pair (T : Txt K mg) {F_law_draw : Fn} (G_law_draw : FnG P w K mg base 1 T.a_law_draw T.d_law_draw P_law_draw F_law_draw) : FnG P w K mg base 2 T.a_law_pair T.d_law_pair P_law_pair (mF 3 (m_law_pair F_law_draw)) :=
  fnG_of T.f_law_pair sc_law_pair fun cdv A outer s H E a =>
    (qsCons (qSet (i := 2) sc_law_pair.nd (qCall G_law_draw (a.mono (by decide)) T.g_law_draw T.k_law_draw T.b_law_draw (qa (qV (i := 0) rfl (.inl rfl)) (qa (qV (i := 1) rfl (.inl rfl)) qa0))) rfl (.inl rfl))
    (qsOne (qRet (qTup (qa (qV (i := 2) rfl (.inl rfl)) (qa (qOp op_modN (mod_ii _) (qTy call_int1 (int_cd _) T.n_int (qa (qOp add_opr (add_opd _) (qOp add_opr (add_opd _) (qV (i := 2) rfl (.inl rfl)) qI) (qCall G_law_draw (a.mono (by decide)) T.g_law_draw T.k_law_draw T.b_law_draw (qa (qV (i := 0) rfl (.inl rfl)) (qa (qOp op_sub (sub_ii _) (qV (i := 1) rfl (.inl rfl)) qI) qa0)))) qa0)) (qV (i := 1) rfl (.inl rfl))) qa0))))))
def B1_law_great (F_law_draw : Fn) : VSt :=
  (vAsg (vOp dAdd (vOp dMul (vVar 1) (vOp aPow (vC (.int 10)) (vC (.int 7)))) (vCall 2 F_law_draw (vCons (vVar 0) (vCons (vOp aPow (vC (.int 10)) (vC (.int 7))) vNil)))) (gName 1))
def L1_law_great (F_law_draw : Fn) : VSt :=
  (vFor (vRng1 (vCons (vC (.int 5)) vNil)) (gP (pN 2)) (B1_law_great F_law_draw))
def m_law_great (F_law_draw : Fn) : VSt :=
  (vSeq (vAsg (vC (.int 0)) (gName 1))
    (vSeq (L1_law_great F_law_draw)
    (vRet (vOp aSub (vOp aMod (vBl bInt (vCons (vVar 1) vNil)) (vOp dAdd (vOp dMul (vC (.int 2)) (vOp aPow (vC (.int 10)) (vC (.int 30)))) (vC (.int 1)))) (vOp aPow (vC (.int 10)) (vC (.int 30)))))))
theorem ok_law_great (T : Txt K mg) {F_law_draw : Fn} (G_law_draw : FnG P w K mg base 1 T.a_law_draw T.d_law_draw P_law_draw F_law_draw) : FnG P w K mg base 2 T.a_law_great T.d_law_great P_law_great (mF 3 (m_law_great F_law_draw)) :=
  fnG_of T.f_law_great sc_law_great fun cdv A outer s H E a =>
    (qsCons (qSet (i := 1) sc_law_great.nd qI rfl (.inl rfl))
    (qsCons (qFor a.ps rfl (qRng1 T.n_range (qa qI qa0)) (qgP (vs := [2]) (pg_name (i := 2) sc_law_great.nd rfl (.inl rfl)) (tgd_name (by decide))) (qsOne (qSet (i := 1) sc_law_great.nd (qOp add_opr (add_opd _) (qOp mul_opr (mul_opd _) (qV (i := 1) rfl (.inl rfl)) (qOp op_powB (pow_ii _) qI qI)) (qCall G_law_draw (a.mono (by decide)) T.g_law_draw T.k_law_draw T.b_law_draw (qa (qV (i := 0) rfl (.inl rfl)) (qa (qOp op_powB (pow_ii _) qI qI) qa0)))) rfl (.inl rfl))))
    (qsOne (qRet (qOp op_sub (sub_ii _) (qOp op_modN (mod_ii _) (qTy call_int1 (int_cd _) T.n_int (qa (qV (i := 1) rfl (.inl rfl)) qa0)) (qOp add_opr (add_opd _) (qOp mul_opr (mul_opd _) qI (qOp op_powB (pow_ii _) qI qI)) qI)) (qOp op_powB (pow_ii _) qI qI))))))
def S1_law_row (F_law_draw F_law_great F_law_pick : Fn) : VSt :=
  (vIfS (vAndT (vTr (vOp dEq (vVar 2) (vC (.int 6)))) (vTr (vOp aGt (vVar 1) (vC (.int 1))))) (vSeq (vAsg (vCall 2 F_law_draw (vCons (vVar 0) (vCons (vOp aSub (vVar 1) (vC (.int 1))) vNil))) (gName 5))
    (vRet (vBl bTup (vCons (vOp dAdd (vOp dAdd (vSl (vVar 3) oNone (oSome (vVar 5))) (vLst (vCons (vOp dIx (vVar 3) (vOp dAdd (vVar 5) (vC (.int 1)))) (vCons (vOp dIx (vVar 3) (vVar 5)) vNil)))) (vSl (vVar 3) (oSome (vOp dAdd (vVar 5) (vC (.int 2)))) oNone)) vNil)))) vPass)
def S2_law_row (F_law_draw F_law_great F_law_pick : Fn) : VSt :=
  (vIfS (vTr (vOp aGt (vVar 2) (vC (.int 4)))) (vAsg (vBl bSorted (vCons (vVar 3) vNil)) (gName 3)) vPass)
def B1_law_row (F_law_draw F_law_great F_law_pick : Fn) : VSt :=
  (vIfS (vTr (vOp dEq (vVar 2) (vC (.int 0)))) (vDrop (vMt "list" mAppend (vVar 3) (vCons (vCall 2 F_law_draw (vCons (vVar 0) (vCons (vC (.int 2)) vNil))) vNil))) (vIfS (vTr (vOp dEq (vVar 2) (vC (.int 1)))) (vDrop (vMt "list" mAppend (vVar 3) (vCons (vOp aSub (vCall 2 F_law_draw (vCons (vVar 0) (vCons (vC (.int 5)) vNil))) (vC (.int 2))) vNil))) (vIfS (vTr (vOp dEq (vVar 2) (vC (.int 2)))) (vDrop (vMt "list" mAppend (vVar 3) (vCons (vCall 1 F_law_great (vCons (vVar 0) vNil)) vNil))) (vIfS (vTr (vOp dEq (vVar 2) (vC (.int 3)))) (vDrop (vMt "list" mAppend (vVar 3) (vCons (vCall 2 F_law_pick (vCons (vVar 0) (vCons (vLst (vCons (vOp aPow (vC (.int 10)) (vC (.int 30))) (vCons (vUn uNeg (vOp aPow (vC (.int 10)) (vC (.int 30)))) (vCons (vOp aSub (vOp aPow (vC (.int 10)) (vC (.int 30))) (vC (.int 1))) (vCons (vOp aSub (vC (.int 1)) (vOp aPow (vC (.int 10)) (vC (.int 30)))) (vCons (vC (.int 0)) (vCons (vOp aSub (vC (.int 2)) (vOp aPow (vC (.int 10)) (vC (.int 30)))) vNil))))))) vNil))) vNil))) (vIfS (vTr (vOp dEq (vVar 2) (vC (.int 4)))) (vDrop (vMt "list" mAppend (vVar 3) (vCons (vMt "list" mPopI (vVar 4) (vCons (vCall 2 F_law_draw (vCons (vVar 0) (vCons (vBl bLen (vCons (vVar 4) vNil)) vNil))) vNil)) vNil))) (vDrop (vMt "list" mAppend (vVar 3) (vCons (vOp aSub (vCall 2 F_law_draw (vCons (vVar 0) (vCons (vC (.int 40)) vNil))) (vC (.int 20))) vNil))))))))
def L1_law_row (F_law_draw F_law_great F_law_pick : Fn) : VSt :=
  (vFor (vRng1 (vCons (vVar 1) vNil)) (gP (pN 5)) (B1_law_row F_law_draw F_law_great F_law_pick))
def S3_law_row (F_law_draw F_law_great F_law_pick : Fn) : VSt :=
  (vPar3 2 3 4 (vCons (vCall 2 F_law_draw (vCons (vVar 0) (vCons (vC (.int 7)) vNil))) (vCons (vLst vNil) (vCons (vLR1 (vVar 1)) vNil))))
def m_law_row (F_law_draw F_law_great F_law_pick : Fn) : VSt :=
  (vSeq (S3_law_row F_law_draw F_law_great F_law_pick)
    (vSeq (L1_law_row F_law_draw F_law_great F_law_pick)
    (vSeq (S2_law_row F_law_draw F_law_great F_law_pick)
    (vSeq (S1_law_row F_law_draw F_law_great F_law_pick)
    (vRet (vBl bTup (vCons (vVar 3) vNil)))))))
theorem ok_law_row (T : Txt K mg) {F_law_draw F_law_great F_law_pick : Fn} (G_law_draw : FnG P w K mg base 1 T.a_law_draw T.d_law_draw P_law_draw F_law_draw) (G_law_great : FnG P w K mg base 2 T.a_law_great T.d_law_great P_law_great F_law_great) (G_law_pick : FnG P w K mg base 2 T.a_law_pick T.d_law_pick P_law_pick F_law_pick) : FnG P w K mg base 3 T.a_law_row T.d_law_row P_law_row (mF 6 (m_law_row F_law_draw F_law_great F_law_pick)) :=
  fnG_of T.f_law_row sc_law_row fun cdv A outer s H E a =>
    (qsCons (qPar3 (i := 2) (j := 3) (l := 4) rfl sc_law_row.nd (qa (qCall G_law_draw (a.mono (by decide)) T.g_law_draw T.k_law_draw T.b_law_draw (qa (qV (i := 0) rfl (.inl rfl)) (qa qI qa0))) (qa (qLst qa0) (qa (qLR1 rfl T.n_list T.n_range (qV (i := 1) rfl (.inl rfl))) qa0))))
    (qsCons (qFor a.ps rfl (qRng1 T.n_range (qa (qV (i := 1) rfl (.inl rfl)) qa0)) (qgP (vs := [5]) (pg_name (i := 5) sc_law_row.nd rfl (.inl rfl)) (tgd_name (by decide))) (qsOne (qIfS (qCmT (eq_opr a.hu) (eq_opd _) (qV (i := 2) rfl (.inl rfl)) qI) (qsOne (qDrop (qMt PySem.F.plainAttrs_list PySem.F.slot_list_append PySem.F.type_list_append mt_append (append_mtd _) (qV (i := 3) rfl (.inl rfl)) (qa (qCall G_law_draw (a.mono (by decide)) T.g_law_draw T.k_law_draw T.b_law_draw (qa (qV (i := 0) rfl (.inl rfl)) (qa qI qa0))) qa0)))) (qsOne (qIfS (qCmT (eq_opr a.hu) (eq_opd _) (qV (i := 2) rfl (.inl rfl)) qI) (qsOne (qDrop (qMt PySem.F.plainAttrs_list PySem.F.slot_list_append PySem.F.type_list_append mt_append (append_mtd _) (qV (i := 3) rfl (.inl rfl)) (qa (qOp op_sub (sub_ii _) (qCall G_law_draw (a.mono (by decide)) T.g_law_draw T.k_law_draw T.b_law_draw (qa (qV (i := 0) rfl (.inl rfl)) (qa qI qa0))) qI) qa0)))) (qsOne (qIfS (qCmT (eq_opr a.hu) (eq_opd _) (qV (i := 2) rfl (.inl rfl)) qI) (qsOne (qDrop (qMt PySem.F.plainAttrs_list PySem.F.slot_list_append PySem.F.type_list_append mt_append (append_mtd _) (qV (i := 3) rfl (.inl rfl)) (qa (qCall G_law_great (a.mono (by decide)) T.g_law_great T.k_law_great T.b_law_great (qa (qV (i := 0) rfl (.inl rfl)) qa0)) qa0)))) (qsOne (qIfS (qCmT (eq_opr a.hu) (eq_opd _) (qV (i := 2) rfl (.inl rfl)) qI) (qsOne (qDrop (qMt PySem.F.plainAttrs_list PySem.F.slot_list_append PySem.F.type_list_append mt_append (append_mtd _) (qV (i := 3) rfl (.inl rfl)) (qa (qCall G_law_pick (a.mono (by decide)) T.g_law_pick T.k_law_pick T.b_law_pick (qa (qV (i := 0) rfl (.inl rfl)) (qa (qLst (qa (qOp op_powB (pow_ii _) qI qI) (qa (qUn un_neg (neg_un _) (qOp op_powB (pow_ii _) qI qI)) (qa (qOp op_sub (sub_ii _) (qOp op_powB (pow_ii _) qI qI) qI) (qa (qOp op_sub (sub_ii _) qI (qOp op_powB (pow_ii _) qI qI)) (qa qI (qa (qOp op_sub (sub_ii _) qI (qOp op_powB (pow_ii _) qI qI)) qa0))))))) qa0))) qa0)))) (qsOne (qIfS (qCmT (eq_opr a.hu) (eq_opd _) (qV (i := 2) rfl (.inl rfl)) qI) (qsOne (qDrop (qMt PySem.F.plainAttrs_list PySem.F.slot_list_append PySem.F.type_list_append mt_append (append_mtd _) (qV (i := 3) rfl (.inl rfl)) (qa (qMt PySem.F.plainAttrs_list PySem.F.slot_list_pop PySem.F.type_list_pop mt_popAt (popI_mtd _) (qV (i := 4) rfl (.inl rfl)) (qa (qCall G_law_draw (a.mono (by decide)) T.g_law_draw T.k_law_draw T.b_law_draw (qa (qV (i := 0) rfl (.inl rfl)) (qa (qBl call_len (len_cd _) T.n_len (qa (qV (i := 4) rfl (.inl rfl)) qa0)) qa0))) qa0)) qa0)))) (qsOne (qDrop (qMt PySem.F.plainAttrs_list PySem.F.slot_list_append PySem.F.type_list_append mt_append (append_mtd _) (qV (i := 3) rfl (.inl rfl)) (qa (qOp op_sub (sub_ii _) (qCall G_law_draw (a.mono (by decide)) T.g_law_draw T.k_law_draw T.b_law_draw (qa (qV (i := 0) rfl (.inl rfl)) (qa qI qa0))) qI) qa0)))))))))))))))
    (qsCons (qIfS (qCmT op_gt (gt_ii _) (qV (i := 2) rfl (.inl rfl)) qI) (qsOne (qSet (i := 3) sc_law_row.nd (qBl cr_sorted2 (sorted_cd _) T.n_sorted (qa (qV (i := 3) rfl (.inl rfl)) qa0)) rfl (.inl rfl))) qsNil)
    (qsCons (qIfS (PW.pt (qAndT (qCmT (eq_opr a.hu) (eq_opd _) (qV (i := 2) rfl (.inl rfl)) qI) (qAnd1 (qCmT op_gt (gt_ii _) (qV (i := 1) rfl (.inl rfl)) qI)))) (qsCons (qSet (i := 5) sc_law_row.nd (qCall G_law_draw (a.mono (by decide)) T.g_law_draw T.k_law_draw T.b_law_draw (qa (qV (i := 0) rfl (.inl rfl)) (qa (qOp op_sub (sub_ii _) (qV (i := 1) rfl (.inl rfl)) qI) qa0))) rfl (.inl rfl))
    (qsOne (qRet (qTy call_tuple_of (tup_cd _) T.n_tuple (qa (qOp add_opr (add_opd _) (qOp add_opr (add_opd _) (qSl (qV (i := 3) rfl (.inl rfl)) qo0 (qo (qV (i := 5) rfl (.inl rfl)))) (qLst (qa (qIx ix_seq (ix_opd _) (qV (i := 3) rfl (.inl rfl)) (qOp add_opr (add_opd _) (qV (i := 5) rfl (.inl rfl)) qI)) (qa (qIx ix_seq (ix_opd _) (qV (i := 3) rfl (.inl rfl)) (qV (i := 5) rfl (.inl rfl))) qa0)))) (qSl (qV (i := 3) rfl (.inl rfl)) (qo (qOp add_opr (add_opd _) (qV (i := 5) rfl (.inl rfl)) qI)) qo0)) qa0))))) qsNil)
    (qsOne (qRet (qTy call_tuple_of (tup_cd _) T.n_tuple (qa (qV (i := 3) rfl (.inl rfl)) qa0))))))))
def B1_law_made : VSt :=
  (vIfS (vTr (vOp aLt (vOp dIx (vVar 2) (vVar 4)) (vOp dIx (vVar 2) (vVar 3)))) (vSeq (vAsg (vOp dIx (vVar 2) (vVar 3)) (gName 5))
    (vSeq (vAsg (vOp dIx (vVar 2) (vVar 4)) (gSubs sLst (vVar 2) (vVar 3)))
    (vAsg (vVar 5) (gSubs sLst (vVar 2) (vVar 4))))) vPass)
def L1_law_made : VSt :=
  (vFor (vIt (vVar 0)) (gP (pTup 2 (psCons (pN 3) (psCons (pN 4) psNil)))) B1_law_made)
def m_law_made : VSt :=
  (vSeq (vAsg (vBl bList (vCons (vVar 1) vNil)) (gName 2))
    (vSeq L1_law_made
    (vRet (vBl bTup (vCons (vVar 2) vNil)))))
theorem ok_law_made (T : Txt K mg) : FnG P w K mg base 1 T.a_law_made T.d_law_made P_law_made (mF 6 (m_law_made)) :=
  fnG_of T.f_law_made sc_law_made fun cdv A outer s H E a =>
    (qsCons (qSet (i := 2) sc_law_made.nd (qTy call_list_of (list_cd _) T.n_list (qa (qV (i := 1) rfl (.inl rfl)) qa0)) rfl (.inl rfl))
    (qsCons (qFor a.ps rfl (qIt (qV (i := 0) rfl (.inl rfl))) (qgP (vs := [3, 4]) (pg_tup rfl (pgs_cons (pg_name (i := 3) sc_law_made.nd rfl (.inl rfl)) (pgs_cons (pg_name (i := 4) sc_law_made.nd rfl (.inl rfl)) pgs_nil))) (tgd_tup (tgsd_cons (tgd_name (by decide)) (tgsd_cons (tgd_name (by decide)) tgsd_nil)))) (qsOne (qIfS (qCmT op_lt (lt_ii _) (qIx ix_seq (ix_opd _) (qV (i := 2) rfl (.inl rfl)) (qV (i := 4) rfl (.inl rfl))) (qIx ix_seq (ix_opd _) (qV (i := 2) rfl (.inl rfl)) (qV (i := 3) rfl (.inl rfl)))) (qsCons (qSet (i := 5) sc_law_made.nd (qIx ix_seq (ix_opd _) (qV (i := 2) rfl (.inl rfl)) (qV (i := 3) rfl (.inl rfl))) rfl (.inl rfl))
    (qsCons (qAsg (qIx ix_seq (ix_opd _) (qV (i := 2) rfl (.inl rfl)) (qV (i := 4) rfl (.inl rfl))) (qgS set_list (lst_setd _) (qV (i := 2) rfl (.inl rfl)) (qV (i := 3) rfl (.inl rfl))))
    (qsOne (qAsg (qV (i := 5) rfl (.inl rfl)) (qgS set_list (lst_setd _) (qV (i := 2) rfl (.inl rfl)) (qV (i := 4) rfl (.inl rfl))))))) qsNil)))
    (qsOne (qRet (qTy call_tuple_of (tup_cd _) T.n_tuple (qa (qV (i := 2) rfl (.inl rfl)) qa0))))))
def B1_law_wires (F_law_draw : Fn) : VSt :=
  (vDrop (vMt "list" mAppend (vVar 3) (vCons (vMt "list" mPopI (vVar 2) (vCons (vCall 2 F_law_draw (vCons (vVar 0) (vCons (vBl bLen (vCons (vVar 2) vNil)) vNil))) vNil)) vNil)))
def L1_law_wires (F_law_draw : Fn) : VSt :=
  (vFor (vRng1 (vCons (vVar 1) vNil)) (gP (pN 4)) (B1_law_wires F_law_draw))
def m_law_wires (F_law_draw : Fn) : VSt :=
  (vSeq (vPar 2 3 (vCons (vLR1 (vVar 1)) (vCons (vLst vNil) vNil)))
    (vSeq (L1_law_wires F_law_draw)
    (vRet (vBl bFz (vCons (vVar 3) vNil)))))
theorem ok_law_wires (T : Txt K mg) {F_law_draw : Fn} (G_law_draw : FnG P w K mg base 1 T.a_law_draw T.d_law_draw P_law_draw F_law_draw) : FnG P w K mg base 2 T.a_law_wires T.d_law_wires P_law_wires (mF 5 (m_law_wires F_law_draw)) :=
  fnG_of T.f_law_wires sc_law_wires fun cdv A outer s H E a =>
    (qsCons (qPar2 (i := 2) (j := 3) rfl sc_law_wires.nd (qa (qLR1 rfl T.n_list T.n_range (qV (i := 1) rfl (.inl rfl))) (qa (qLst qa0) qa0)))
    (qsCons (qFor a.ps rfl (qRng1 T.n_range (qa (qV (i := 1) rfl (.inl rfl)) qa0)) (qgP (vs := [4]) (pg_name (i := 4) sc_law_wires.nd rfl (.inl rfl)) (tgd_name (by decide))) (qsOne (qDrop (qMt PySem.F.plainAttrs_list PySem.F.slot_list_append PySem.F.type_list_append mt_append (append_mtd _) (qV (i := 3) rfl (.inl rfl)) (qa (qMt PySem.F.plainAttrs_list PySem.F.slot_list_pop PySem.F.type_list_pop mt_popAt (popI_mtd _) (qV (i := 2) rfl (.inl rfl)) (qa (qCall G_law_draw (a.mono (by decide)) T.g_law_draw T.k_law_draw T.b_law_draw (qa (qV (i := 0) rfl (.inl rfl)) (qa (qBl call_len (len_cd _) T.n_len (qa (qV (i := 2) rfl (.inl rfl)) qa0)) qa0))) qa0)) qa0)))))
    (qsOne (qRet (qTy call_tuple_fz (fz_cd _) T.n_tuple (qa (qV (i := 3) rfl (.inl rfl)) qa0))))))
def B1_law_sorting (F_law_draw F_law_wires : Fn) : VSt :=
  (vSeq (vDrop (vMt "list" mAppend (vVar 4) (vCons (vTup (vCons (vOp dIx (vVar 5) (vVar 7)) (vCons (vOp dIx (vVar 5) (vVar 8)) vNil))) vNil)))
    (vIfS (vAndT (vTr (vOp aGt (vVar 2) (vC (.int 0)))) (vTr (vOp dEq (vCall 2 F_law_draw (vCons (vVar 0) (vCons (vC (.int 3)) vNil))) (vC (.int 0))))) (vSeq (vAsg (vOp dIx (vVar 5) (vVar 7)) (gName 9))
    (vSeq (vAsg (vOp dIx (vVar 5) (vVar 8)) (gSubs sLst (vVar 5) (vVar 7)))
    (vAsg (vVar 9) (gSubs sLst (vVar 5) (vVar 8))))) vPass))
def L1_law_sorting (F_law_draw F_law_wires : Fn) : VSt :=
  (vFor (vRev (vBl bList (vCons (vVar 3) vNil))) (gP (pTup 2 (psCons (pN 7) (psCons (pN 8) psNil)))) (B1_law_sorting F_law_draw F_law_wires))
def S1_law_sorting (F_law_draw F_law_wires : Fn) : VSt :=
  (vIfS (vTr (vOp dEq (vVar 2) (vC (.int 2)))) (vAsg (vBl bList (vCons (vCall 2 F_law_wires (vCons (vVar 0) (vCons (vVar 1) vNil))) vNil)) (gName 5)) vPass)
def E1_law_sorting (F_law_draw F_law_wires : Fn) : VE :=
  (vTup (vCons (vVar 10) (vCons (vOp dAdd (vVar 10) (vC (.int 1))) vNil)))
def C1_law_sorting (F_law_draw F_law_wires : Fn) : VE :=
  (vLc (vRng1 (vCons (vVar 6) vNil)) [10] (pN 10) vYes (E1_law_sorting F_law_draw F_law_wires))
def B2_law_sorting (F_law_draw F_law_wires : Fn) : VSt :=
  (vDrop (vMt "list" mExt2 (vVar 3) (vCons (C1_law_sorting F_law_draw F_law_wires) vNil)))
def L2_law_sorting (F_law_draw F_law_wires : Fn) : VSt :=
  (vFor (vRev (vLR2 (vC (.int 1)) (vVar 1))) (gP (pN 6)) (B2_law_sorting F_law_draw F_law_wires))
def S2_law_sorting (F_law_draw F_law_wires : Fn) : VSt :=
  (vPar3 3 4 5 (vCons (vLst vNil) (vCons (vLst vNil) (vCons (vLR1 (vVar 1)) vNil))))
def m_law_sorting (F_law_draw F_law_wires : Fn) : VSt :=
  (vSeq (S2_law_sorting F_law_draw F_law_wires)
    (vSeq (L2_law_sorting F_law_draw F_law_wires)
    (vSeq (S1_law_sorting F_law_draw F_law_wires)
    (vSeq (L1_law_sorting F_law_draw F_law_wires)
    (vRet (vTRev (vBl bList (vCons (vVar 4) vNil))))))))
theorem ok_law_sorting (T : Txt K mg) {F_law_draw F_law_wires : Fn} (G_law_draw : FnG P w K mg base 1 T.a_law_draw T.d_law_draw P_law_draw F_law_draw) (G_law_wires : FnG P w K mg base 2 T.a_law_wires T.d_law_wires P_law_wires F_law_wires) : FnG P w K mg base 3 T.a_law_sorting T.d_law_sorting P_law_sorting (mF 11 (m_law_sorting F_law_draw F_law_wires)) :=
  fnG_of T.f_law_sorting sc_law_sorting fun cdv A outer s H E a =>
    (qsCons (qPar3 (i := 3) (j := 4) (l := 5) rfl sc_law_sorting.nd (qa (qLst qa0) (qa (qLst qa0) (qa (qLR1 rfl T.n_list T.n_range (qV (i := 1) rfl (.inl rfl))) qa0))))
    (qsCons (qFor a.ps rfl (qRev T.n_reversed (qLR2 rfl T.n_list T.n_range qI (qV (i := 1) rfl (.inl rfl)))) (qgP (vs := [6]) (pg_name (i := 6) sc_law_sorting.nd rfl (.inl rfl)) (tgd_name (by decide))) (qsOne (qDrop (qMt PySem.F.plainAttrs_list PySem.F.slot_list_extend PySem.F.type_list_extend mt_ext2 (ext2_mtd _) (qV (i := 3) rfl (.inl rfl)) (qa (qLc (own := [("w", 10)]) rfl sc_law_sorting.nd (qRng1 T.n_range (qa (qV (i := 6) rfl (.inl rfl)) qa0)) (blkOk_by (N := N_law_sorting) (sc := defScope s_law_sorting) (own := [("w", 10)]) (by decide +kernel)) (tgd_name (by decide)) (fun _ _ _ _ _ => (pg_name (i := 10) sc_law_sorting.nd rfl (.inl rfl))) (fun _ _ _ _ _ => (qYes _ _)) (fun _ _ _ _ _ => (qTup (qa (qV (i := 10) rfl (.inl rfl)) (qa (qOp add_opr (add_opd _) (qV (i := 10) rfl (.inl rfl)) qI) qa0))))) qa0)))))
    (qsCons (qIfS (qCmT (eq_opr a.hu) (eq_opd _) (qV (i := 2) rfl (.inl rfl)) qI) (qsOne (qSet (i := 5) sc_law_sorting.nd (qTy call_list_of (list_cd _) T.n_list (qa (qCall G_law_wires (a.mono (by decide)) T.g_law_wires T.k_law_wires T.b_law_wires (qa (qV (i := 0) rfl (.inl rfl)) (qa (qV (i := 1) rfl (.inl rfl)) qa0))) qa0)) rfl (.inl rfl))) qsNil)
    (qsCons (qFor a.ps rfl (qRev T.n_reversed (qTy call_list_of (list_cd _) T.n_list (qa (qV (i := 3) rfl (.inl rfl)) qa0))) (qgP (vs := [7, 8]) (pg_tup rfl (pgs_cons (pg_name (i := 7) sc_law_sorting.nd rfl (.inl rfl)) (pgs_cons (pg_name (i := 8) sc_law_sorting.nd rfl (.inl rfl)) pgs_nil))) (tgd_tup (tgsd_cons (tgd_name (by decide)) (tgsd_cons (tgd_name (by decide)) tgsd_nil)))) (qsCons (qDrop (qMt PySem.F.plainAttrs_list PySem.F.slot_list_append PySem.F.type_list_append mt_append (append_mtd _) (qV (i := 4) rfl (.inl rfl)) (qa (qTup (qa (qIx ix_seq (ix_opd _) (qV (i := 5) rfl (.inl rfl)) (qV (i := 7) rfl (.inl rfl))) (qa (qIx ix_seq (ix_opd _) (qV (i := 5) rfl (.inl rfl)) (qV (i := 8) rfl (.inl rfl))) qa0))) qa0)))
    (qsOne (qIfS (PW.pt (qAndT (qCmT op_gt (gt_ii _) (qV (i := 2) rfl (.inl rfl)) qI) (qAnd1 (qCmT (eq_opr a.hu) (eq_opd _) (qCall G_law_draw (a.mono (by decide)) T.g_law_draw T.k_law_draw T.b_law_draw (qa (qV (i := 0) rfl (.inl rfl)) (qa qI qa0))) qI)))) (qsCons (qSet (i := 9) sc_law_sorting.nd (qIx ix_seq (ix_opd _) (qV (i := 5) rfl (.inl rfl)) (qV (i := 7) rfl (.inl rfl))) rfl (.inl rfl))
    (qsCons (qAsg (qIx ix_seq (ix_opd _) (qV (i := 5) rfl (.inl rfl)) (qV (i := 8) rfl (.inl rfl))) (qgS set_list (lst_setd _) (qV (i := 5) rfl (.inl rfl)) (qV (i := 7) rfl (.inl rfl))))
    (qsOne (qAsg (qV (i := 9) rfl (.inl rfl)) (qgS set_list (lst_setd _) (qV (i := 5) rfl (.inl rfl)) (qV (i := 8) rfl (.inl rfl))))))) qsNil))))
    (qsOne (qRet (qTRev rfl T.n_tuple T.n_reversed (qTy call_list_of (list_cd _) T.n_list (qa (qV (i := 4) rfl (.inl rfl)) qa0)))))))))
def B1_law_net (F_law_draw F_law_pair : Fn) : VSt :=
  (vSeq (vAsg (vCall 2 F_law_pair (vCons (vVar 0) (vCons (vVar 1) vNil))) (gTupl 2 (gsCons (gName 6) (gsCons (gName 7) gsNil))))
    (vSeq (vAsg (vOr (vOp dEq (vVar 3) (vC (.int 1))) (vAnd (vOp dEq (vVar 3) (vC (.int 2))) (vOp dEq (vCall 2 F_law_draw (vCons (vVar 0) (vCons (vC (.int 8)) vNil))) (vC (.int 0))))) (gName 8))
    (vIfS (vTr (vOp aLt (vVar 3) (vC (.int 3)))) (vDrop (vMt "list" mAppend (vVar 4) (vCons (vIf (vTr (vVar 8)) (vTup (vCons (vBl bMax (vCons (vVar 6) (vCons (vVar 7) vNil))) (vCons (vBl bMin (vCons (vVar 6) (vCons (vVar 7) vNil))) vNil))) (vTup (vCons (vBl bMin (vCons (vVar 6) (vCons (vVar 7) vNil))) (vCons (vBl bMax (vCons (vVar 6) (vCons (vVar 7) vNil))) vNil)))) vNil))) (vDrop (vMt "list" mAppend (vVar 4) (vCons (vTup (vCons (vVar 6) (vCons (vVar 7) vNil))) vNil))))))
def L1_law_net (F_law_draw F_law_pair : Fn) : VSt :=
  (vFor (vRng1 (vCons (vVar 2) vNil)) (gP (pN 5)) (B1_law_net F_law_draw F_law_pair))
def S1_law_net (F_law_draw F_law_pair : Fn) : VSt :=
  (vIfS (vTr (vOp aLt (vVar 1) (vC (.int 2)))) (vRet (vTup vNil)) vPass)
def S2_law_net (F_law_draw F_law_pair : Fn) : VSt :=
  (vAsg (vLst vNil) (gName 4))
def m_law_net (F_law_draw F_law_pair : Fn) : VSt :=
  (vSeq (S2_law_net F_law_draw F_law_pair)
    (vSeq (S1_law_net F_law_draw F_law_pair)
    (vSeq (L1_law_net F_law_draw F_law_pair)
    (vRet (vBl bTup (vCons (vVar 4) vNil))))))
theorem ok_law_net (T : Txt K mg) {F_law_draw F_law_pair : Fn} (G_law_draw : FnG P w K mg base 1 T.a_law_draw T.d_law_draw P_law_draw F_law_draw) (G_law_pair : FnG P w K mg base 2 T.a_law_pair T.d_law_pair P_law_pair F_law_pair) : FnG P w K mg base 3 T.a_law_net T.d_law_net P_law_net (mF 9 (m_law_net F_law_draw F_law_pair)) :=
  fnG_of T.f_law_net sc_law_net fun cdv A outer s H E a =>
    (qsCons (qSet (i := 4) sc_law_net.nd (qLst qa0) rfl (.inl rfl))
    (qsCons (qIfS (qCmT op_lt (lt_ii _) (qV (i := 1) rfl (.inl rfl)) qI) (qsOne (qRet (qTup qa0))) qsNil)
    (qsCons (qFor a.ps rfl (qRng1 T.n_range (qa (qV (i := 2) rfl (.inl rfl)) qa0)) (qgP (vs := [5]) (pg_name (i := 5) sc_law_net.nd rfl (.inl rfl)) (tgd_name (by decide))) (qsCons (qAsg (qCall G_law_pair (a.mono (by decide)) T.g_law_pair T.k_law_pair T.b_law_pair (qa (qV (i := 0) rfl (.inl rfl)) (qa (qV (i := 1) rfl (.inl rfl)) qa0))) (qgT rfl (qgs (qgN (i := 6) sc_law_net.nd rfl (.inl rfl)) (qgs (qgN (i := 7) sc_law_net.nd rfl (.inl rfl)) qgs0))))
    (qsCons (qSet (i := 8) sc_law_net.nd (qOr (qCm (eq_opr a.hu) (eq_opd _) (qV (i := 3) rfl (.inl rfl)) qI) (qOne (qAnd (qCm (eq_opr a.hu) (eq_opd _) (qV (i := 3) rfl (.inl rfl)) qI) (qOne (qCm (eq_opr a.hu) (eq_opd _) (qCall G_law_draw (a.mono (by decide)) T.g_law_draw T.k_law_draw T.b_law_draw (qa (qV (i := 0) rfl (.inl rfl)) (qa qI qa0))) qI))))) rfl (.inl rfl))
    (qsOne (qIfS (qCmT op_lt (lt_ii _) (qV (i := 3) rfl (.inl rfl)) qI) (qsOne (qDrop (qMt PySem.F.plainAttrs_list PySem.F.slot_list_append PySem.F.type_list_append mt_append (append_mtd _) (qV (i := 4) rfl (.inl rfl)) (qa (qIf (qT (qV (i := 8) rfl (.inl rfl))) (qTup (qa (qBl (cr_maxS rfl) (max_cd _) T.n_max (qa (qV (i := 6) rfl (.inl rfl)) (qa (qV (i := 7) rfl (.inl rfl)) qa0))) (qa (qBl (cr_minS rfl) (min_cd _) T.n_min (qa (qV (i := 6) rfl (.inl rfl)) (qa (qV (i := 7) rfl (.inl rfl)) qa0))) qa0))) (qTup (qa (qBl (cr_minS rfl) (min_cd _) T.n_min (qa (qV (i := 6) rfl (.inl rfl)) (qa (qV (i := 7) rfl (.inl rfl)) qa0))) (qa (qBl (cr_maxS rfl) (max_cd _) T.n_max (qa (qV (i := 6) rfl (.inl rfl)) (qa (qV (i := 7) rfl (.inl rfl)) qa0))) qa0)))) qa0)))) (qsOne (qDrop (qMt PySem.F.plainAttrs_list PySem.F.slot_list_append PySem.F.type_list_append mt_append (append_mtd _) (qV (i := 4) rfl (.inl rfl)) (qa (qTup (qa (qV (i := 6) rfl (.inl rfl)) (qa (qV (i := 7) rfl (.inl rfl)) qa0))) qa0)))))))))
    (qsOne (qRet (qTy call_tuple_of (tup_cd _) T.n_tuple (qa (qV (i := 4) rfl (.inl rfl)) qa0)))))))
def S1_law_some_net (F_law_net F_law_draw F_law_pick F_law_sorting : Fn) : VSt :=
  (vIfS (vAndT (vTr (vOp aLt (vVar 2) (vC (.int 3)))) (vTr (vOp aGt (vVar 1) (vC (.int 0))))) (vRet (vOp dAdd (vCall 4 F_law_net (vCons (vVar 0) (vCons (vVar 1) (vCons (vCall 2 F_law_draw (vCons (vVar 0) (vCons (vC (.int 16)) vNil))) (vCons (vCall 2 F_law_draw (vCons (vVar 0) (vCons (vC (.int 4)) vNil))) vNil))))) (vCall 3 F_law_sorting (vCons (vVar 0) (vCons (vVar 1) (vCons (vVar 2) vNil)))))) vPass)
def S2_law_some_net (F_law_net F_law_draw F_law_pick F_law_sorting : Fn) : VSt :=
  (vAsg (vCall 2 F_law_draw (vCons (vVar 0) (vCons (vC (.int 8)) vNil))) (gName 2))
def m_law_some_net (F_law_net F_law_draw F_law_pick F_law_sorting : Fn) : VSt :=
  (vSeq (S2_law_some_net F_law_net F_law_draw F_law_pick F_law_sorting)
    (vSeq (S1_law_some_net F_law_net F_law_draw F_law_pick F_law_sorting)
    (vRet (vCall 4 F_law_net (vCons (vVar 0) (vCons (vVar 1) (vCons (vCall 2 F_law_pick (vCons (vVar 0) (vCons (vLst (vCons (vC (.int 0)) (vCons (vC (.int 1)) (vCons (vCall 2 F_law_draw (vCons (vVar 0) (vCons (vC (.int 9)) vNil))) (vCons (vCall 2 F_law_draw (vCons (vVar 0) (vCons (vC (.int 61)) vNil))) (vCons (vC (.int 60)) vNil)))))) vNil))) (vCons (vCall 2 F_law_draw (vCons (vVar 0) (vCons (vC (.int 5)) vNil))) vNil))))))))
theorem ok_law_some_net (T : Txt K mg) {F_law_net F_law_draw F_law_pick F_law_sorting : Fn} (G_law_net : FnG P w K mg base 3 T.a_law_net T.d_law_net P_law_net F_law_net) (G_law_draw : FnG P w K mg base 1 T.a_law_draw T.d_law_draw P_law_draw F_law_draw) (G_law_pick : FnG P w K mg base 2 T.a_law_pick T.d_law_pick P_law_pick F_law_pick) (G_law_sorting : FnG P w K mg base 3 T.a_law_sorting T.d_law_sorting P_law_sorting F_law_sorting) : FnG P w K mg base 4 T.a_law_some_net T.d_law_some_net P_law_some_net (mF 3 (m_law_some_net F_law_net F_law_draw F_law_pick F_law_sorting)) :=
  fnG_of T.f_law_some_net sc_law_some_net fun cdv A outer s H E a =>
    (qsCons (qSet (i := 2) sc_law_some_net.nd (qCall G_law_draw (a.mono (by decide)) T.g_law_draw T.k_law_draw T.b_law_draw (qa (qV (i := 0) rfl (.inl rfl)) (qa qI qa0))) rfl (.inl rfl))
    (qsCons (qIfS (PW.pt (qAndT (qCmT op_lt (lt_ii _) (qV (i := 2) rfl (.inl rfl)) qI) (qAnd1 (qCmT op_gt (gt_ii _) (qV (i := 1) rfl (.inl rfl)) qI)))) (qsOne (qRet (qOp add_opr (add_opd _) (qCall G_law_net (a.mono (by decide)) T.g_law_net T.k_law_net T.b_law_net (qa (qV (i := 0) rfl (.inl rfl)) (qa (qV (i := 1) rfl (.inl rfl)) (qa (qCall G_law_draw (a.mono (by decide)) T.g_law_draw T.k_law_draw T.b_law_draw (qa (qV (i := 0) rfl (.inl rfl)) (qa qI qa0))) (qa (qCall G_law_draw (a.mono (by decide)) T.g_law_draw T.k_law_draw T.b_law_draw (qa (qV (i := 0) rfl (.inl rfl)) (qa qI qa0))) qa0))))) (qCall G_law_sorting (a.mono (by decide)) T.g_law_sorting T.k_law_sorting T.b_law_sorting (qa (qV (i := 0) rfl (.inl rfl)) (qa (qV (i := 1) rfl (.inl rfl)) (qa (qV (i := 2) rfl (.inl rfl)) qa0))))))) qsNil)
    (qsOne (qRet (qCall G_law_net (a.mono (by decide)) T.g_law_net T.k_law_net T.b_law_net (qa (qV (i := 0) rfl (.inl rfl)) (qa (qV (i := 1) rfl (.inl rfl)) (qa (qCall G_law_pick (a.mono (by decide)) T.g_law_pick T.k_law_pick T.b_law_pick (qa (qV (i := 0) rfl (.inl rfl)) (qa (qLst (qa qI (qa qI (qa (qCall G_law_draw (a.mono (by decide)) T.g_law_draw T.k_law_draw T.b_law_draw (qa (qV (i := 0) rfl (.inl rfl)) (qa qI qa0))) (qa (qCall G_law_draw (a.mono (by decide)) T.g_law_draw T.k_law_draw T.b_law_draw (qa (qV (i := 0) rfl (.inl rfl)) (qa qI qa0))) (qa qI qa0)))))) qa0))) (qa (qCall G_law_draw (a.mono (by decide)) T.g_law_draw T.k_law_draw T.b_law_draw (qa (qV (i := 0) rfl (.inl rfl)) (qa qI qa0))) qa0)))))))))
def B1_law_standard : VSt :=
  (vSeq (vPar 6 7 (vCons (vBl bMin (vCons (vOp dIx (vVar 3) (vVar 4)) (vCons (vOp dIx (vVar 3) (vVar 5)) vNil))) (vCons (vBl bMax (vCons (vOp dIx (vVar 3) (vVar 4)) (vCons (vOp dIx (vVar 3) (vVar 5)) vNil))) vNil)))
    (vSeq (vDrop (vMt "list" mAppend (vVar 2) (vCons (vTup (vCons (vVar 6) (vCons (vVar 7) vNil))) vNil)))
    (vSeq (vAsg (vVar 6) (gSubs sLst (vVar 3) (vVar 4)))
    (vAsg (vVar 7) (gSubs sLst (vVar 3) (vVar 5))))))
def L1_law_standard : VSt :=
  (vFor (vIt (vVar 1)) (gP (pTup 2 (psCons (pN 4) (psCons (pN 5) psNil)))) B1_law_standard)
def m_law_standard : VSt :=
  (vSeq (vPar 2 3 (vCons (vLst vNil) (vCons (vLR1 (vVar 0)) vNil)))
    (vSeq L1_law_standard
    (vRet (vTup (vCons (vBl bTup (vCons (vVar 2) vNil)) (vCons (vBl bTup (vCons (vVar 3) vNil)) vNil))))))
theorem ok_law_standard (T : Txt K mg) : FnG P w K mg base 1 T.a_law_standard T.d_law_standard P_law_standard (mF 8 (m_law_standard)) :=
  fnG_of T.f_law_standard sc_law_standard fun cdv A outer s H E a =>
    (qsCons (qPar2 (i := 2) (j := 3) rfl sc_law_standard.nd (qa (qLst qa0) (qa (qLR1 rfl T.n_list T.n_range (qV (i := 0) rfl (.inl rfl))) qa0)))
    (qsCons (qFor a.ps rfl (qIt (qV (i := 1) rfl (.inl rfl))) (qgP (vs := [4, 5]) (pg_tup rfl (pgs_cons (pg_name (i := 4) sc_law_standard.nd rfl (.inl rfl)) (pgs_cons (pg_name (i := 5) sc_law_standard.nd rfl (.inl rfl)) pgs_nil))) (tgd_tup (tgsd_cons (tgd_name (by decide)) (tgsd_cons (tgd_name (by decide)) tgsd_nil)))) (qsCons (qPar2 (i := 6) (j := 7) rfl sc_law_standard.nd (qa (qBl (cr_minS rfl) (min_cd _) T.n_min (qa (qIx ix_seq (ix_opd _) (qV (i := 3) rfl (.inl rfl)) (qV (i := 4) rfl (.inl rfl))) (qa (qIx ix_seq (ix_opd _) (qV (i := 3) rfl (.inl rfl)) (qV (i := 5) rfl (.inl rfl))) qa0))) (qa (qBl (cr_maxS rfl) (max_cd _) T.n_max (qa (qIx ix_seq (ix_opd _) (qV (i := 3) rfl (.inl rfl)) (qV (i := 4) rfl (.inl rfl))) (qa (qIx ix_seq (ix_opd _) (qV (i := 3) rfl (.inl rfl)) (qV (i := 5) rfl (.inl rfl))) qa0))) qa0)))
    (qsCons (qDrop (qMt PySem.F.plainAttrs_list PySem.F.slot_list_append PySem.F.type_list_append mt_append (append_mtd _) (qV (i := 2) rfl (.inl rfl)) (qa (qTup (qa (qV (i := 6) rfl (.inl rfl)) (qa (qV (i := 7) rfl (.inl rfl)) qa0))) qa0)))
    (qsCons (qAsg (qV (i := 6) rfl (.inl rfl)) (qgS set_list (lst_setd _) (qV (i := 3) rfl (.inl rfl)) (qV (i := 4) rfl (.inl rfl))))
    (qsOne (qAsg (qV (i := 7) rfl (.inl rfl)) (qgS set_list (lst_setd _) (qV (i := 3) rfl (.inl rfl)) (qV (i := 5) rfl (.inl rfl)))))))))
    (qsOne (qRet (qTup (qa (qTy call_tuple_of (tup_cd _) T.n_tuple (qa (qV (i := 2) rfl (.inl rfl)) qa0)) (qa (qTy call_tuple_of (tup_cd _) T.n_tuple (qa (qV (i := 3) rfl (.inl rfl)) qa0)) qa0)))))))
def E1_law_failing : VE :=
  (vOp aAnd (vOp aShr (vVar 11) (vVar 5)) (vC (.int 1)))
def C1_law_failing : VE :=
  (vLc (vRng1 (vCons (vVar 0) vNil)) [5] (pN 5) vYes E1_law_failing)
def B1_law_failing : VSt :=
  (vSeq (vAsg (vOp aAnd (vOp dIx (vVar 2) (vVar 3)) (vOp aSub (vOp aSub (vOp aShl (vC (.int 1)) (vOp aShl (vC (.int 1)) (vVar 0))) (vC (.int 1))) (vOp dIx (vVar 2) (vOp dAdd (vVar 3) (vC (.int 1)))))) (gName 10))
    (vIfS (vTr (vOp aGt (vVar 10) (vC (.int 0)))) (vSeq (vAsg (vOp aSub (vBits (vVar 10)) (vC (.int 1))) (gName 11))
    (vRet (vBl bTup (vCons C1_law_failing vNil)))) vPass))
def L1_law_failing : VSt :=
  (vFor (vRng1 (vCons (vOp aSub (vVar 0) (vC (.int 1))) vNil)) (gP (pN 3)) B1_law_failing)
def B2_law_failing : VSt :=
  (vSeq (vPar 8 9 (vCons (vOp aAnd (vOp dIx (vVar 2) (vVar 6)) (vOp dIx (vVar 2) (vVar 7))) (vCons (vOp aOr (vOp dIx (vVar 2) (vVar 6)) (vOp dIx (vVar 2) (vVar 7))) vNil)))
    (vSeq (vAsg (vVar 8) (gSubs sLst (vVar 2) (vVar 6)))
    (vAsg (vVar 9) (gSubs sLst (vVar 2) (vVar 7)))))
def L2_law_failing : VSt :=
  (vFor (vIt (vVar 1)) (gP (pTup 2 (psCons (pN 6) (psCons (pN 7) psNil)))) B2_law_failing)
def B3_law_failing : VSt :=
  (vAsg (vOp aOr (vVar 4) (vOp aShl (vVar 4) (vOp aShl (vC (.int 1)) (vVar 5)))) (gName 4))
def L3_law_failing : VSt :=
  (vFor (vRng2 (vCons (vOp dAdd (vVar 3) (vC (.int 1))) (vCons (vVar 0) vNil))) (gP (pN 5)) B3_law_failing)
def B4_law_failing : VSt :=
  (vSeq (vAsg (vOp aShl (vOp aSub (vOp aShl (vC (.int 1)) (vOp aShl (vC (.int 1)) (vVar 3))) (vC (.int 1))) (vOp aShl (vC (.int 1)) (vVar 3))) (gName 4))
    (vSeq L3_law_failing
    (vDrop (vMt "list" mAppend (vVar 2) (vCons (vVar 4) vNil)))))
def L4_law_failing : VSt :=
  (vFor (vRng1 (vCons (vVar 0) vNil)) (gP (pN 3)) B4_law_failing)
def S1_law_failing : VSt :=
  (vAsg (vLst vNil) (gName 2))
def m_law_failing : VSt :=
  (vSeq S1_law_failing
    (vSeq L4_law_failing
    (vSeq L2_law_failing
    (vSeq L1_law_failing
    (vRet (vC .non))))))
theorem ok_law_failing (T : Txt K mg) : FnG P w K mg base 1 T.a_law_failing T.d_law_failing P_law_failing (mF 12 (m_law_failing)) :=
  fnG_of T.f_law_failing sc_law_failing fun cdv A outer s H E a =>
    (qsCons (qSet (i := 2) sc_law_failing.nd (qLst qa0) rfl (.inl rfl))
    (qsCons (qFor a.ps rfl (qRng1 T.n_range (qa (qV (i := 0) rfl (.inl rfl)) qa0)) (qgP (vs := [3]) (pg_name (i := 3) sc_law_failing.nd rfl (.inl rfl)) (tgd_name (by decide))) (qsCons (qSet (i := 4) sc_law_failing.nd (qOp op_shlW (shl_ii _) (qOp op_sub (sub_ii _) (qOp op_shlW (shl_ii _) qI (qOp op_shlW (shl_ii _) qI (qV (i := 3) rfl (.inl rfl)))) qI) (qOp op_shlW (shl_ii _) qI (qV (i := 3) rfl (.inl rfl)))) rfl (.inl rfl))
    (qsCons (qFor a.ps rfl (qRng2 T.n_range (qa (qOp add_opr (add_opd _) (qV (i := 3) rfl (.inl rfl)) qI) (qa (qV (i := 0) rfl (.inl rfl)) qa0))) (qgP (vs := [5]) (pg_name (i := 5) sc_law_failing.nd rfl (.inl rfl)) (tgd_name (by decide))) (qsOne (qSet (i := 4) sc_law_failing.nd (qOp op_or (or_ii _) (qV (i := 4) rfl (.inl rfl)) (qOp op_shlW (shl_ii _) (qV (i := 4) rfl (.inl rfl)) (qOp op_shlW (shl_ii _) qI (qV (i := 5) rfl (.inl rfl))))) rfl (.inl rfl))))
    (qsOne (qDrop (qMt PySem.F.plainAttrs_list PySem.F.slot_list_append PySem.F.type_list_append mt_append (append_mtd _) (qV (i := 2) rfl (.inl rfl)) (qa (qV (i := 4) rfl (.inl rfl)) qa0)))))))
    (qsCons (qFor a.ps rfl (qIt (qV (i := 1) rfl (.inl rfl))) (qgP (vs := [6, 7]) (pg_tup rfl (pgs_cons (pg_name (i := 6) sc_law_failing.nd rfl (.inl rfl)) (pgs_cons (pg_name (i := 7) sc_law_failing.nd rfl (.inl rfl)) pgs_nil))) (tgd_tup (tgsd_cons (tgd_name (by decide)) (tgsd_cons (tgd_name (by decide)) tgsd_nil)))) (qsCons (qPar2 (i := 8) (j := 9) rfl sc_law_failing.nd (qa (qOp op_and (and_ii _) (qIx ix_seq (ix_opd _) (qV (i := 2) rfl (.inl rfl)) (qV (i := 6) rfl (.inl rfl))) (qIx ix_seq (ix_opd _) (qV (i := 2) rfl (.inl rfl)) (qV (i := 7) rfl (.inl rfl)))) (qa (qOp op_or (or_ii _) (qIx ix_seq (ix_opd _) (qV (i := 2) rfl (.inl rfl)) (qV (i := 6) rfl (.inl rfl))) (qIx ix_seq (ix_opd _) (qV (i := 2) rfl (.inl rfl)) (qV (i := 7) rfl (.inl rfl)))) qa0)))
    (qsCons (qAsg (qV (i := 8) rfl (.inl rfl)) (qgS set_list (lst_setd _) (qV (i := 2) rfl (.inl rfl)) (qV (i := 6) rfl (.inl rfl))))
    (qsOne (qAsg (qV (i := 9) rfl (.inl rfl)) (qgS set_list (lst_setd _) (qV (i := 2) rfl (.inl rfl)) (qV (i := 7) rfl (.inl rfl))))))))
    (qsCons (qFor a.ps rfl (qRng1 T.n_range (qa (qOp op_sub (sub_ii _) (qV (i := 0) rfl (.inl rfl)) qI) qa0)) (qgP (vs := [3]) (pg_name (i := 3) sc_law_failing.nd rfl (.inl rfl)) (tgd_name (by decide))) (qsCons (qSet (i := 10) sc_law_failing.nd (qOp op_and (and_ii _) (qIx ix_seq (ix_opd _) (qV (i := 2) rfl (.inl rfl)) (qV (i := 3) rfl (.inl rfl))) (qOp op_sub (sub_ii _) (qOp op_sub (sub_ii _) (qOp op_shlW (shl_ii _) qI (qOp op_shlW (shl_ii _) qI (qV (i := 0) rfl (.inl rfl)))) qI) (qIx ix_seq (ix_opd _) (qV (i := 2) rfl (.inl rfl)) (qOp add_opr (add_opd _) (qV (i := 3) rfl (.inl rfl)) qI)))) rfl (.inl rfl))
    (qsOne (qIfS (qCmT op_gt (gt_ii _) (qV (i := 10) rfl (.inl rfl)) qI) (qsCons (qSet (i := 11) sc_law_failing.nd (qOp op_sub (sub_ii _) (qBits (qV (i := 10) rfl (.inl rfl))) qI) rfl (.inr rfl))
    (qsOne (qRet (qTy call_tuple_of (tup_cd _) T.n_tuple (qa (qLc (own := [("k", 5)]) rfl sc_law_failing.nd (qRng1 T.n_range (qa (qV (i := 0) rfl (.inl rfl)) qa0)) (blkOk_by (N := N_law_failing) (sc := defScope s_law_failing) (own := [("k", 5)]) (by decide +kernel)) (tgd_name (by decide)) (fun _ _ _ _ _ => (pg_name (i := 5) sc_law_failing.nd rfl (.inl rfl))) (fun _ _ _ _ _ => (qYes _ _)) (fun _ _ _ _ _ => (qOp op_and (and_ii _) (qOp op_shr (shr_ii _) (qV (i := 11) rfl (.inr (.inl rfl))) (qV (i := 5) rfl (.inl rfl))) qI))) qa0))))) qsNil))))
    (qsOne (qRet qN))))))
def S1_law_does_go (F_does_sort_row F_law_made : Fn) : VSt :=
  (vIfS (vTr (vOp dIsN (vVar 0) (vC .non))) (vAsg (vLst (vCons (vC (.bl true)) (vCons (vC (.bl true)) vNil))) (gName 6)) (vSeq (vDrop (vMt "list" mAppend (vVar 5) (vCons (vCall 2 F_does_sort_row (vCons (vVar 2) (vCons (vVar 0) vNil))) vNil)))
    (vDrop (vMt "list" mAppend (vVar 6) (vCons (vC (.bl false)) vNil)))))
def S2_law_does_go (F_does_sort_row F_law_made : Fn) : VSt :=
  (vPar 5 6 (vCons (vLst (vCons (vCall 2 F_does_sort_row (vCons (vVar 2) (vCons (vVar 3) vNil))) (vCons (vCallK 2 F_does_sort_row (kwP 0 2 2 [1, 0]) vNil (vCons (vVar 3) (vCons (vVar 2) vNil))) vNil))) (vCons (vLst (vCons (vVar 4) (vCons (vVar 4) vNil))) vNil)))
def S3_law_does_go (F_does_sort_row F_law_made : Fn) : VSt :=
  (vAsg (vOp dEq (vCall 2 F_law_made (vCons (vVar 1) (vCons (vVar 3) vNil))) (vBl bTup (vCons (vBl bSorted (vCons (vBl bList (vCons (vVar 3) vNil)) vNil)) vNil))) (gName 4))
def m_law_does_go (F_does_sort_row F_law_made : Fn) : VSt :=
  (vSeq (S3_law_does_go F_does_sort_row F_law_made)
    (vSeq (S2_law_does_go F_does_sort_row F_law_made)
    (vSeq (S1_law_does_go F_does_sort_row F_law_made)
    (vRet (vOp dEq (vBl bRepr (vCons (vVar 5) vNil)) (vBl bRepr (vCons (vVar 6) vNil)))))))
theorem ok_law_does_go (T : Txt K mg) {F_does_sort_row F_law_made : Fn} (G_does_sort_row : FnG P w K mg base 2 T.a_does_sort_row T.d_does_sort_row P_does_sort_row F_does_sort_row) (G_law_made : FnG P w K mg base 1 T.a_law_made T.d_law_made P_law_made F_law_made) : FnG P w K mg base 3 T.a_law_does_go T.d_law_does_go P_law_does_go (mF 7 (m_law_does_go F_does_sort_row F_law_made)) :=
  fnG_of T.f_law_does_go sc_law_does_go fun cdv A outer s H E a =>
    (qsCons (qSet (i := 4) sc_law_does_go.nd (qCm (eq_opr a.hu) (eq_opd _) (qCall G_law_made (a.mono (by decide)) T.g_law_made T.k_law_made T.b_law_made (qa (qV (i := 1) rfl (.inl rfl)) (qa (qV (i := 3) rfl (.inl rfl)) qa0))) (qTy call_tuple_of (tup_cd _) T.n_tuple (qa (qBl cr_sorted2 (sorted_cd _) T.n_sorted (qa (qTy call_list_of (list_cd _) T.n_list (qa (qV (i := 3) rfl (.inl rfl)) qa0)) qa0)) qa0))) rfl (.inl rfl))
    (qsCons (qPar2 (i := 5) (j := 6) rfl sc_law_does_go.nd (qa (qLst (qa (qCall G_does_sort_row (a.mono (by decide)) T.g_does_sort_row T.k_does_sort_row T.b_does_sort_row (qa (qV (i := 2) rfl (.inl rfl)) (qa (qV (i := 3) rfl (.inl rfl)) qa0))) (qa (qCallK0 G_does_sort_row (a.mono (by decide)) T.g_does_sort_row T.k_does_sort_row (kw0 T) (qk (qV (i := 3) rfl (.inl rfl)) (qk (qV (i := 2) rfl (.inl rfl)) qk0))) qa0))) (qa (qLst (qa (qV (i := 4) rfl (.inl rfl)) (qa (qV (i := 4) rfl (.inl rfl)) qa0))) qa0)))
    (qsCons (qIfS (qCmT op_isN (isN_opd _) (qV (i := 0) rfl (.inl rfl)) qN) (qsOne (qSet (i := 6) sc_law_does_go.nd (qLst (qa qB (qa qB qa0))) rfl (.inl rfl))) (qsCons (qDrop (qMt PySem.F.plainAttrs_list PySem.F.slot_list_append PySem.F.type_list_append mt_append (append_mtd _) (qV (i := 5) rfl (.inl rfl)) (qa (qCall G_does_sort_row (a.mono (by decide)) T.g_does_sort_row T.k_does_sort_row T.b_does_sort_row (qa (qV (i := 2) rfl (.inl rfl)) (qa (qV (i := 0) rfl (.inl rfl)) qa0))) qa0)))
    (qsOne (qDrop (qMt PySem.F.plainAttrs_list PySem.F.slot_list_append PySem.F.type_list_append mt_append (append_mtd _) (qV (i := 6) rfl (.inl rfl)) (qa qB qa0))))))
    (qsOne (qRet (qCm (eq_opr a.hu) (eq_opd _) (qBl (cr_repr a.gd a.rp) (repr_cd _) T.n_repr (qa (qV (i := 5) rfl (.inl rfl)) qa0)) (qBl (cr_repr a.gd a.rp) (repr_cd _) T.n_repr (qa (qV (i := 6) rfl (.inl rfl)) qa0))))))))
def S1_law_is_standard_right (F_law_does_go F_law_failing F_standard_net F_is_standard F_made_row F_law_made F_law_standard : Fn) : VSt :=
  (vIfS (vAndT (vTr (vOp dIsN (vCall 2 F_law_failing (vCons (vVar 0) (vCons (vVar 1) vNil))) (vC .non))) (vOrT (vTr (vOp dNe (vVar 4) (vVar 7))) (vTr (vOp dNotN (vVar 11) (vC .non))))) (vRet (vC (.bl false))) vPass)
def S2_law_is_standard_right (F_law_does_go F_law_failing F_standard_net F_is_standard F_made_row F_law_made F_law_standard : Fn) : VSt :=
  (vAsg (vCall 2 F_law_failing (vCons (vVar 0) (vCons (vVar 3) vNil))) (gName 11))
def S3_law_is_standard_right (F_law_does_go F_law_failing F_standard_net F_is_standard F_made_row F_law_made F_law_standard : Fn) : VSt :=
  (vIfS (vTr (vOp dNe (vBl bRepr (vCons (vCall 2 F_standard_net (vCons (vVar 0) (vCons (vOp dIx (vOp dIx (vVar 8) (vC (.int 1))) (vC (.int 0))) vNil))) vNil)) (vBl bRepr (vCons (vTup (vCons (vVar 3) (vCons (vVar 7) vNil))) vNil)))) (vRet (vC (.bl false))) vPass)
def E1_law_is_standard_right (F_law_does_go F_law_failing F_standard_net F_is_standard F_made_row F_law_made F_law_standard : Fn) : VE :=
  (vOp aLt (vVar 13) (vVar 14))
def C1_law_is_standard_right (F_law_does_go F_law_failing F_standard_net F_is_standard F_made_row F_law_made F_law_standard : Fn) : VE :=
  (vLc (vIt (vVar 1)) [13, 14] (pTup 2 (psCons (pN 13) (psCons (pN 14) psNil))) vYes (E1_law_is_standard_right F_law_does_go F_law_failing F_standard_net F_is_standard F_made_row F_law_made F_law_standard))
def S4_law_is_standard_right (F_law_does_go F_law_failing F_standard_net F_is_standard F_made_row F_law_made F_law_standard : Fn) : VSt :=
  (vIfS (vTr (vOp dNe (vBl bRepr (vCons (vLst (vCons (vCall 1 F_is_standard (vCons (vOp dIx (vOp dIx (vVar 8) (vC (.int 0))) (vC (.int 0))) vNil)) (vCons (vCall 1 F_is_standard (vCons (vVar 1) vNil)) vNil))) vNil)) (vBl bRepr (vCons (vLst (vCons (vC (.bl true)) (vCons (vBl bAll (vCons (C1_law_is_standard_right F_law_does_go F_law_failing F_standard_net F_is_standard F_made_row F_law_made F_law_standard) vNil)) vNil))) vNil)))) (vRet (vC (.bl false))) vPass)
def E2_law_is_standard_right (F_law_does_go F_law_failing F_standard_net F_is_standard F_made_row F_law_made F_law_standard : Fn) : VE :=
  (vOp dIx (vVar 9) (vVar 12))
def C2_law_is_standard_right (F_law_does_go F_law_failing F_standard_net F_is_standard F_made_row F_law_made F_law_standard : Fn) : VE :=
  (vLc (vIt (vVar 4)) [12] (pN 12) vYes (E2_law_is_standard_right F_law_does_go F_law_failing F_standard_net F_is_standard F_made_row F_law_made F_law_standard))
def S5_law_is_standard_right (F_law_does_go F_law_failing F_standard_net F_is_standard F_made_row F_law_made F_law_standard : Fn) : VSt :=
  (vIfS (vOrT (vTr (vOp dNe (vBl bRepr (vCons (C2_law_is_standard_right F_law_does_go F_law_failing F_standard_net F_is_standard F_made_row F_law_made F_law_standard) vNil)) (vBl bRepr (vCons (vBl bList (vCons (vVar 5) vNil)) vNil)))) (vTr (vOp dNe (vBl bRepr (vCons (vVar 10) vNil)) (vBl bRepr (vCons (vVar 5) vNil))))) (vRet (vC (.bl false))) vPass)
def S6_law_is_standard_right (F_law_does_go F_law_failing F_standard_net F_is_standard F_made_row F_law_made F_law_standard : Fn) : VSt :=
  (vAsg (vTup (vCons (vCall 2 F_made_row (vCons (vOp dIx (vOp dIx (vVar 8) (vC (.int 0))) (vC (.int 0))) (vCons (vVar 2) vNil))) (vCons (vCall 2 F_made_row (vCons (vVar 1) (vCons (vVar 2) vNil))) vNil))) (gTupl 2 (gsCons (gName 9) (gsCons (gName 10) gsNil))))
def S7_law_is_standard_right (F_law_does_go F_law_failing F_standard_net F_is_standard F_made_row F_law_made F_law_standard : Fn) : VSt :=
  (vIfS (vTr (vOp dNe (vBl bRepr (vCons (vVar 8) vNil)) (vBl bRepr (vCons (vOp dMul (vLst (vCons (vTup (vCons (vVar 3) (vCons (vVar 4) vNil))) vNil)) (vC (.int 3))) vNil)))) (vRet (vC (.bl false))) vPass)
def S8_law_is_standard_right (F_law_does_go F_law_failing F_standard_net F_is_standard F_made_row F_law_made F_law_standard : Fn) : VSt :=
  (vAsg (vLst (vCons (vCall 2 F_standard_net (vCons (vVar 0) (vCons (vVar 1) vNil))) (vCons (vCallK 2 F_standard_net (kwP 0 2 2 [1, 0]) vNil (vCons (vVar 1) (vCons (vVar 0) vNil))) (vCons (vCall 2 F_standard_net (vCons (vVar 0) (vCons (vVar 1) vNil))) vNil)))) (gName 8))
def S9_law_is_standard_right (F_law_does_go F_law_failing F_standard_net F_is_standard F_made_row F_law_made F_law_standard : Fn) : VSt :=
  (vPar3 5 6 7 (vCons (vCall 2 F_law_made (vCons (vVar 1) (vCons (vVar 2) vNil))) (vCons (vBl bRepr (vCons (vLst (vCons (vVar 1) (vCons (vVar 2) vNil))) vNil)) (vCons (vBl bTup (vCons (vLR1 (vVar 0)) vNil)) vNil))))
def S10_law_is_standard_right (F_law_does_go F_law_failing F_standard_net F_is_standard F_made_row F_law_made F_law_standard : Fn) : VSt :=
  (vAsg (vCall 2 F_law_standard (vCons (vVar 0) (vCons (vVar 1) vNil))) (gTupl 2 (gsCons (gName 3) (gsCons (gName 4) gsNil))))
def m_law_is_standard_right (F_law_does_go F_law_failing F_standard_net F_is_standard F_made_row F_law_made F_law_standard : Fn) : VSt :=
  (vSeq (S10_law_is_standard_right F_law_does_go F_law_failing F_standard_net F_is_standard F_made_row F_law_made F_law_standard)
    (vSeq (S9_law_is_standard_right F_law_does_go F_law_failing F_standard_net F_is_standard F_made_row F_law_made F_law_standard)
    (vSeq (S8_law_is_standard_right F_law_does_go F_law_failing F_standard_net F_is_standard F_made_row F_law_made F_law_standard)
    (vSeq (S7_law_is_standard_right F_law_does_go F_law_failing F_standard_net F_is_standard F_made_row F_law_made F_law_standard)
    (vSeq (S6_law_is_standard_right F_law_does_go F_law_failing F_standard_net F_is_standard F_made_row F_law_made F_law_standard)
    (vSeq (S5_law_is_standard_right F_law_does_go F_law_failing F_standard_net F_is_standard F_made_row F_law_made F_law_standard)
    (vSeq (S4_law_is_standard_right F_law_does_go F_law_failing F_standard_net F_is_standard F_made_row F_law_made F_law_standard)
    (vSeq (S3_law_is_standard_right F_law_does_go F_law_failing F_standard_net F_is_standard F_made_row F_law_made F_law_standard)
    (vSeq (S2_law_is_standard_right F_law_does_go F_law_failing F_standard_net F_is_standard F_made_row F_law_made F_law_standard)
    (vSeq (S1_law_is_standard_right F_law_does_go F_law_failing F_standard_net F_is_standard F_made_row F_law_made F_law_standard)
    (vRet (vAnd (vCall 4 F_law_does_go (vCons (vVar 11) (vCons (vVar 3) (vCons (vOp dIx (vOp dIx (vVar 8) (vC (.int 2))) (vC (.int 0))) (vCons (vVar 2) vNil))))) (vOp dEq (vBl bRepr (vCons (vLst (vCons (vVar 1) (vCons (vVar 2) vNil))) vNil)) (vVar 6))))))))))))))
theorem ok_law_is_standard_right (T : Txt K mg) {F_law_does_go F_law_failing F_standard_net F_is_standard F_made_row F_law_made F_law_standard : Fn} (G_law_does_go : FnG P w K mg base 3 T.a_law_does_go T.d_law_does_go P_law_does_go F_law_does_go) (G_law_failing : FnG P w K mg base 1 T.a_law_failing T.d_law_failing P_law_failing F_law_failing) (G_standard_net : FnG P w K mg base 1 T.a_standard_net T.d_standard_net P_standard_net F_standard_net) (G_is_standard : FnG P w K mg base 1 T.a_is_standard T.d_is_standard P_is_standard F_is_standard) (G_made_row : FnG P w K mg base 1 T.a_made_row T.d_made_row P_made_row F_made_row) (G_law_made : FnG P w K mg base 1 T.a_law_made T.d_law_made P_law_made F_law_made) (G_law_standard : FnG P w K mg base 1 T.a_law_standard T.d_law_standard P_law_standard F_law_standard) : FnG P w K mg base 4 T.a_law_is_standard_right T.d_law_is_standard_right P_law_is_standard_right (mF 15 (m_law_is_standard_right F_law_does_go F_law_failing F_standard_net F_is_standard F_made_row F_law_made F_law_standard)) :=
  fnG_of T.f_law_is_standard_right sc_law_is_standard_right fun cdv A outer s H E a =>
    (qsCons (qAsg (qCall G_law_standard (a.mono (by decide)) T.g_law_standard T.k_law_standard T.b_law_standard (qa (qV (i := 0) rfl (.inl rfl)) (qa (qV (i := 1) rfl (.inl rfl)) qa0))) (qgT rfl (qgs (qgN (i := 3) sc_law_is_standard_right.nd rfl (.inl rfl)) (qgs (qgN (i := 4) sc_law_is_standard_right.nd rfl (.inl rfl)) qgs0))))
    (qsCons (qPar3 (i := 5) (j := 6) (l := 7) rfl sc_law_is_standard_right.nd (qa (qCall G_law_made (a.mono (by decide)) T.g_law_made T.k_law_made T.b_law_made (qa (qV (i := 1) rfl (.inl rfl)) (qa (qV (i := 2) rfl (.inl rfl)) qa0))) (qa (qBl (cr_repr a.gd a.rp) (repr_cd _) T.n_repr (qa (qLst (qa (qV (i := 1) rfl (.inl rfl)) (qa (qV (i := 2) rfl (.inl rfl)) qa0))) qa0)) (qa (qTy call_tuple_of (tup_cd _) T.n_tuple (qa (qLR1 rfl T.n_list T.n_range (qV (i := 0) rfl (.inl rfl))) qa0)) qa0))))
    (qsCons (qSet (i := 8) sc_law_is_standard_right.nd (qLst (qa (qCall G_standard_net (a.mono (by decide)) T.g_standard_net T.k_standard_net T.b_standard_net (qa (qV (i := 0) rfl (.inl rfl)) (qa (qV (i := 1) rfl (.inl rfl)) qa0))) (qa (qCallK0 G_standard_net (a.mono (by decide)) T.g_standard_net T.k_standard_net (kw1 T) (qk (qV (i := 1) rfl (.inl rfl)) (qk (qV (i := 0) rfl (.inl rfl)) qk0))) (qa (qCall G_standard_net (a.mono (by decide)) T.g_standard_net T.k_standard_net T.b_standard_net (qa (qV (i := 0) rfl (.inl rfl)) (qa (qV (i := 1) rfl (.inl rfl)) qa0))) qa0)))) rfl (.inl rfl))
    (qsCons (qIfS (qCmT (ne_opr a.hu) (ne_opd _) (qBl (cr_repr a.gd a.rp) (repr_cd _) T.n_repr (qa (qV (i := 8) rfl (.inl rfl)) qa0)) (qBl (cr_repr a.gd a.rp) (repr_cd _) T.n_repr (qa (qOp mul_opr (mul_opd _) (qLst (qa (qTup (qa (qV (i := 3) rfl (.inl rfl)) (qa (qV (i := 4) rfl (.inl rfl)) qa0))) qa0)) qI) qa0))) (qsOne (qRet qB)) qsNil)
    (qsCons (qAsg (qTup (qa (qCall G_made_row (a.mono (by decide)) T.g_made_row T.k_made_row T.b_made_row (qa (qIx ix_seq (ix_opd _) (qIx ix_seq (ix_opd _) (qV (i := 8) rfl (.inl rfl)) qI) qI) (qa (qV (i := 2) rfl (.inl rfl)) qa0))) (qa (qCall G_made_row (a.mono (by decide)) T.g_made_row T.k_made_row T.b_made_row (qa (qV (i := 1) rfl (.inl rfl)) (qa (qV (i := 2) rfl (.inl rfl)) qa0))) qa0))) (qgT rfl (qgs (qgN (i := 9) sc_law_is_standard_right.nd rfl (.inr rfl)) (qgs (qgN (i := 10) sc_law_is_standard_right.nd rfl (.inl rfl)) qgs0))))
    (qsCons (qIfS (PW.pt (qOrT (qCmT (ne_opr a.hu) (ne_opd _) (qBl (cr_repr a.gd a.rp) (repr_cd _) T.n_repr (qa (qLc (own := [("name", 12)]) rfl sc_law_is_standard_right.nd (qIt (qV (i := 4) rfl (.inl rfl))) (blkOk_by (N := N_law_is_standard_right) (sc := defScope s_law_is_standard_right) (own := [("name", 12)]) (by decide +kernel)) (tgd_name (by decide)) (fun _ _ _ _ _ => (pg_name (i := 12) sc_law_is_standard_right.nd rfl (.inl rfl))) (fun _ _ _ _ _ => (qYes _ _)) (fun _ _ _ _ _ => (qIx ix_seq (ix_opd _) (qV (i := 9) rfl (.inr (.inl rfl))) (qV (i := 12) rfl (.inl rfl))))) qa0)) (qBl (cr_repr a.gd a.rp) (repr_cd _) T.n_repr (qa (qTy call_list_of (list_cd _) T.n_list (qa (qV (i := 5) rfl (.inl rfl)) qa0)) qa0))) (qOr1 (qCmT (ne_opr a.hu) (ne_opd _) (qBl (cr_repr a.gd a.rp) (repr_cd _) T.n_repr (qa (qV (i := 10) rfl (.inl rfl)) qa0)) (qBl (cr_repr a.gd a.rp) (repr_cd _) T.n_repr (qa (qV (i := 5) rfl (.inl rfl)) qa0)))))) (qsOne (qRet qB)) qsNil)
    (qsCons (qIfS (qCmT (ne_opr a.hu) (ne_opd _) (qBl (cr_repr a.gd a.rp) (repr_cd _) T.n_repr (qa (qLst (qa (qCall G_is_standard (a.mono (by decide)) T.g_is_standard T.k_is_standard T.b_is_standard (qa (qIx ix_seq (ix_opd _) (qIx ix_seq (ix_opd _) (qV (i := 8) rfl (.inl rfl)) qI) qI) qa0)) (qa (qCall G_is_standard (a.mono (by decide)) T.g_is_standard T.k_is_standard T.b_is_standard (qa (qV (i := 1) rfl (.inl rfl)) qa0)) qa0))) qa0)) (qBl (cr_repr a.gd a.rp) (repr_cd _) T.n_repr (qa (qLst (qa qB (qa (qBl (cr_all rfl) (all_cd _) T.n_all (qa (qLc (own := [("i", 13), ("j", 14)]) rfl sc_law_is_standard_right.nd (qIt (qV (i := 1) rfl (.inl rfl))) (blkOk_by (N := N_law_is_standard_right) (sc := defScope s_law_is_standard_right) (own := [("i", 13), ("j", 14)]) (by decide +kernel)) (tgd_tup (tgsd_cons (tgd_name (by decide)) (tgsd_cons (tgd_name (by decide)) tgsd_nil))) (fun _ _ _ _ _ => (pg_tup rfl (pgs_cons (pg_name (i := 13) sc_law_is_standard_right.nd rfl (.inl rfl)) (pgs_cons (pg_name (i := 14) sc_law_is_standard_right.nd rfl (.inl rfl)) pgs_nil)))) (fun _ _ _ _ _ => (qYes _ _)) (fun _ _ _ _ _ => (qCm op_lt (lt_ii _) (qV (i := 13) rfl (.inl rfl)) (qV (i := 14) rfl (.inl rfl))))) qa0)) qa0))) qa0))) (qsOne (qRet qB)) qsNil)
    (qsCons (qIfS (qCmT (ne_opr a.hu) (ne_opd _) (qBl (cr_repr a.gd a.rp) (repr_cd _) T.n_repr (qa (qCall G_standard_net (a.mono (by decide)) T.g_standard_net T.k_standard_net T.b_standard_net (qa (qV (i := 0) rfl (.inl rfl)) (qa (qIx ix_seq (ix_opd _) (qIx ix_seq (ix_opd _) (qV (i := 8) rfl (.inl rfl)) qI) qI) qa0))) qa0)) (qBl (cr_repr a.gd a.rp) (repr_cd _) T.n_repr (qa (qTup (qa (qV (i := 3) rfl (.inl rfl)) (qa (qV (i := 7) rfl (.inl rfl)) qa0))) qa0))) (qsOne (qRet qB)) qsNil)
    (qsCons (qSet (i := 11) sc_law_is_standard_right.nd (qCall G_law_failing (a.mono (by decide)) T.g_law_failing T.k_law_failing T.b_law_failing (qa (qV (i := 0) rfl (.inl rfl)) (qa (qV (i := 3) rfl (.inl rfl)) qa0))) rfl (.inl rfl))
    (qsCons (qIfS (PW.pt (qAndT (qCmT op_isN (isN_opd _) (qCall G_law_failing (a.mono (by decide)) T.g_law_failing T.k_law_failing T.b_law_failing (qa (qV (i := 0) rfl (.inl rfl)) (qa (qV (i := 1) rfl (.inl rfl)) qa0))) qN) (qAnd1 (PW.pt (qOrT (qCmT (ne_opr a.hu) (ne_opd _) (qV (i := 4) rfl (.inl rfl)) (qV (i := 7) rfl (.inl rfl))) (qOr1 (qCmT op_notN (notN_opd _) (qV (i := 11) rfl (.inl rfl)) qN))))))) (qsOne (qRet qB)) qsNil)
    (qsOne (qRet (qAnd (qCall G_law_does_go (a.mono (by decide)) T.g_law_does_go T.k_law_does_go T.b_law_does_go (qa (qV (i := 11) rfl (.inl rfl)) (qa (qV (i := 3) rfl (.inl rfl)) (qa (qIx ix_seq (ix_opd _) (qIx ix_seq (ix_opd _) (qV (i := 8) rfl (.inl rfl)) qI) qI) (qa (qV (i := 2) rfl (.inl rfl)) qa0))))) (qOne (qCm (eq_opr a.hu) (eq_opd _) (qBl (cr_repr a.gd a.rp) (repr_cd _) T.n_repr (qa (qLst (qa (qV (i := 1) rfl (.inl rfl)) (qa (qV (i := 2) rfl (.inl rfl)) qa0))) qa0)) (qV (i := 6) rfl (.inl rfl)))))))))))))))))
def S1_law_is_mirror_right (F_law_does_go F_law_failing F_made_row F_mirrored_net F_law_made : Fn) : VSt :=
  (vIfS (vTr (vOp dNe (vBl bRepr (vCons (vLst (vCons (vCall 2 F_made_row (vCons (vOp dIx (vVar 6) (vC (.int 0))) (vCons (vVar 7) vNil))) (vCons (vCallK 2 F_made_row (kwP 0 2 2 [1, 0]) vNil (vCons (vVar 7) (vCons (vOp dIx (vVar 6) (vC (.int 1))) vNil))) vNil))) vNil)) (vBl bRepr (vCons (vOp dMul (vLst (vCons (vVar 8) vNil)) (vC (.int 2))) vNil)))) (vRet (vC (.bl false))) vPass)
def E1_law_is_mirror_right (F_law_does_go F_law_failing F_made_row F_mirrored_net F_law_made : Fn) : VE :=
  (vUn uNeg (vVar 11))
def C1_law_is_mirror_right (F_law_does_go F_law_failing F_made_row F_mirrored_net F_law_made : Fn) : VE :=
  (vLc (vRev (vBl bList (vCons (vVar 5) vNil))) [11] (pN 11) vYes (E1_law_is_mirror_right F_law_does_go F_law_failing F_made_row F_mirrored_net F_law_made))
def E2_law_is_mirror_right (F_law_does_go F_law_failing F_made_row F_mirrored_net F_law_made : Fn) : VE :=
  (vUn uNeg (vVar 11))
def C2_law_is_mirror_right (F_law_does_go F_law_failing F_made_row F_mirrored_net F_law_made : Fn) : VE :=
  (vLc (vRev (vBl bList (vCons (vVar 2) vNil))) [11] (pN 11) vYes (E2_law_is_mirror_right F_law_does_go F_law_failing F_made_row F_mirrored_net F_law_made))
def S2_law_is_mirror_right (F_law_does_go F_law_failing F_made_row F_mirrored_net F_law_made : Fn) : VSt :=
  (vPar 7 8 (vCons (vBl bTup (vCons (C2_law_is_mirror_right F_law_does_go F_law_failing F_made_row F_mirrored_net F_law_made) vNil)) (vCons (vBl bTup (vCons (C1_law_is_mirror_right F_law_does_go F_law_failing F_made_row F_mirrored_net F_law_made) vNil)) vNil)))
def S3_law_is_mirror_right (F_law_does_go F_law_failing F_made_row F_mirrored_net F_law_made : Fn) : VSt :=
  (vIfS (vOrT (vTr (vOp dNe (vBl bRepr (vCons (vVar 6) vNil)) (vBl bRepr (vCons (vOp dMul (vLst (vCons (vVar 3) vNil)) (vC (.int 3))) vNil)))) (vTr (vOp dNe (vBl bRepr (vCons (vCall 2 F_mirrored_net (vCons (vVar 0) (vCons (vOp dIx (vVar 6) (vC (.int 0))) vNil))) vNil)) (vBl bRepr (vCons (vVar 1) vNil))))) (vRet (vC (.bl false))) vPass)
def S4_law_is_mirror_right (F_law_does_go F_law_failing F_made_row F_mirrored_net F_law_made : Fn) : VSt :=
  (vAsg (vLst (vCons (vCall 2 F_mirrored_net (vCons (vVar 0) (vCons (vVar 1) vNil))) (vCons (vCallK 2 F_mirrored_net (kwP 0 2 2 [1, 0]) vNil (vCons (vVar 1) (vCons (vVar 0) vNil))) (vCons (vCall 2 F_mirrored_net (vCons (vVar 0) (vCons (vVar 1) vNil))) vNil)))) (gName 6))
def E3_law_is_mirror_right (F_law_does_go F_law_failing F_made_row F_mirrored_net F_law_made : Fn) : VE :=
  (vTup (vCons (vOp aSub (vOp aSub (vVar 0) (vC (.int 1))) (vVar 10)) (vCons (vOp aSub (vOp aSub (vVar 0) (vC (.int 1))) (vVar 9)) vNil)))
def C3_law_is_mirror_right (F_law_does_go F_law_failing F_made_row F_mirrored_net F_law_made : Fn) : VE :=
  (vLc (vIt (vVar 1)) [9, 10] (pTup 2 (psCons (pN 9) (psCons (pN 10) psNil))) vYes (E3_law_is_mirror_right F_law_does_go F_law_failing F_made_row F_mirrored_net F_law_made))
def S5_law_is_mirror_right (F_law_does_go F_law_failing F_made_row F_mirrored_net F_law_made : Fn) : VSt :=
  (vPar3 3 4 5 (vCons (vBl bTup (vCons (C3_law_is_mirror_right F_law_does_go F_law_failing F_made_row F_mirrored_net F_law_made) vNil)) (vCons (vBl bRepr (vCons (vLst (vCons (vVar 1) (vCons (vVar 2) vNil))) vNil)) (vCons (vCall 2 F_law_made (vCons (vVar 1) (vCons (vVar 2) vNil))) vNil))))
def m_law_is_mirror_right (F_law_does_go F_law_failing F_made_row F_mirrored_net F_law_made : Fn) : VSt :=
  (vSeq (S5_law_is_mirror_right F_law_does_go F_law_failing F_made_row F_mirrored_net F_law_made)
    (vSeq (S4_law_is_mirror_right F_law_does_go F_law_failing F_made_row F_mirrored_net F_law_made)
    (vSeq (S3_law_is_mirror_right F_law_does_go F_law_failing F_made_row F_mirrored_net F_law_made)
    (vSeq (S2_law_is_mirror_right F_law_does_go F_law_failing F_made_row F_mirrored_net F_law_made)
    (vSeq (S1_law_is_mirror_right F_law_does_go F_law_failing F_made_row F_mirrored_net F_law_made)
    (vRet (vAnd (vCall 4 F_law_does_go (vCons (vCall 2 F_law_failing (vCons (vVar 0) (vCons (vVar 3) vNil))) (vCons (vVar 3) (vCons (vOp dIx (vVar 6) (vC (.int 2))) (vCons (vVar 7) vNil))))) (vOp dEq (vBl bRepr (vCons (vLst (vCons (vVar 1) (vCons (vVar 2) vNil))) vNil)) (vVar 4)))))))))
theorem ok_law_is_mirror_right (T : Txt K mg) {F_law_does_go F_law_failing F_made_row F_mirrored_net F_law_made : Fn} (G_law_does_go : FnG P w K mg base 3 T.a_law_does_go T.d_law_does_go P_law_does_go F_law_does_go) (G_law_failing : FnG P w K mg base 1 T.a_law_failing T.d_law_failing P_law_failing F_law_failing) (G_made_row : FnG P w K mg base 1 T.a_made_row T.d_made_row P_made_row F_made_row) (G_mirrored_net : FnG P w K mg base 1 T.a_mirrored_net T.d_mirrored_net P_mirrored_net F_mirrored_net) (G_law_made : FnG P w K mg base 1 T.a_law_made T.d_law_made P_law_made F_law_made) : FnG P w K mg base 4 T.a_law_is_mirror_right T.d_law_is_mirror_right P_law_is_mirror_right (mF 12 (m_law_is_mirror_right F_law_does_go F_law_failing F_made_row F_mirrored_net F_law_made)) :=
  fnG_of T.f_law_is_mirror_right sc_law_is_mirror_right fun cdv A outer s H E a =>
    (qsCons (qPar3 (i := 3) (j := 4) (l := 5) rfl sc_law_is_mirror_right.nd (qa (qTy call_tuple_of (tup_cd _) T.n_tuple (qa (qLc (own := [("i", 9), ("j", 10)]) rfl sc_law_is_mirror_right.nd (qIt (qV (i := 1) rfl (.inl rfl))) (blkOk_by (N := N_law_is_mirror_right) (sc := defScope s_law_is_mirror_right) (own := [("i", 9), ("j", 10)]) (by decide +kernel)) (tgd_tup (tgsd_cons (tgd_name (by decide)) (tgsd_cons (tgd_name (by decide)) tgsd_nil))) (fun _ _ _ _ _ => (pg_tup rfl (pgs_cons (pg_name (i := 9) sc_law_is_mirror_right.nd rfl (.inl rfl)) (pgs_cons (pg_name (i := 10) sc_law_is_mirror_right.nd rfl (.inl rfl)) pgs_nil)))) (fun _ _ _ _ _ => (qYes _ _)) (fun _ _ _ _ _ => (qTup (qa (qOp op_sub (sub_ii _) (qOp op_sub (sub_ii _) (qV (i := 0) rfl (.inr (.inl rfl))) qI) (qV (i := 10) rfl (.inl rfl))) (qa (qOp op_sub (sub_ii _) (qOp op_sub (sub_ii _) (qV (i := 0) rfl (.inr (.inl rfl))) qI) (qV (i := 9) rfl (.inl rfl))) qa0))))) qa0)) (qa (qBl (cr_repr a.gd a.rp) (repr_cd _) T.n_repr (qa (qLst (qa (qV (i := 1) rfl (.inl rfl)) (qa (qV (i := 2) rfl (.inl rfl)) qa0))) qa0)) (qa (qCall G_law_made (a.mono (by decide)) T.g_law_made T.k_law_made T.b_law_made (qa (qV (i := 1) rfl (.inl rfl)) (qa (qV (i := 2) rfl (.inl rfl)) qa0))) qa0))))
    (qsCons (qSet (i := 6) sc_law_is_mirror_right.nd (qLst (qa (qCall G_mirrored_net (a.mono (by decide)) T.g_mirrored_net T.k_mirrored_net T.b_mirrored_net (qa (qV (i := 0) rfl (.inr (.inl rfl))) (qa (qV (i := 1) rfl (.inl rfl)) qa0))) (qa (qCallK0 G_mirrored_net (a.mono (by decide)) T.g_mirrored_net T.k_mirrored_net (kw3 T) (qk (qV (i := 1) rfl (.inl rfl)) (qk (qV (i := 0) rfl (.inr (.inl rfl))) qk0))) (qa (qCall G_mirrored_net (a.mono (by decide)) T.g_mirrored_net T.k_mirrored_net T.b_mirrored_net (qa (qV (i := 0) rfl (.inr (.inl rfl))) (qa (qV (i := 1) rfl (.inl rfl)) qa0))) qa0)))) rfl (.inl rfl))
    (qsCons (qIfS (PW.pt (qOrT (qCmT (ne_opr a.hu) (ne_opd _) (qBl (cr_repr a.gd a.rp) (repr_cd _) T.n_repr (qa (qV (i := 6) rfl (.inl rfl)) qa0)) (qBl (cr_repr a.gd a.rp) (repr_cd _) T.n_repr (qa (qOp mul_opr (mul_opd _) (qLst (qa (qV (i := 3) rfl (.inl rfl)) qa0)) qI) qa0))) (qOr1 (qCmT (ne_opr a.hu) (ne_opd _) (qBl (cr_repr a.gd a.rp) (repr_cd _) T.n_repr (qa (qCall G_mirrored_net (a.mono (by decide)) T.g_mirrored_net T.k_mirrored_net T.b_mirrored_net (qa (qV (i := 0) rfl (.inr (.inl rfl))) (qa (qIx ix_seq (ix_opd _) (qV (i := 6) rfl (.inl rfl)) qI) qa0))) qa0)) (qBl (cr_repr a.gd a.rp) (repr_cd _) T.n_repr (qa (qV (i := 1) rfl (.inl rfl)) qa0)))))) (qsOne (qRet qB)) qsNil)
    (qsCons (qPar2 (i := 7) (j := 8) rfl sc_law_is_mirror_right.nd (qa (qTy call_tuple_of (tup_cd _) T.n_tuple (qa (qLc (own := [("x", 11)]) rfl sc_law_is_mirror_right.nd (qRev T.n_reversed (qTy call_list_of (list_cd _) T.n_list (qa (qV (i := 2) rfl (.inl rfl)) qa0))) (blkOk_by (N := N_law_is_mirror_right) (sc := defScope s_law_is_mirror_right) (own := [("x", 11)]) (by decide +kernel)) (tgd_name (by decide)) (fun _ _ _ _ _ => (pg_name (i := 11) sc_law_is_mirror_right.nd rfl (.inl rfl))) (fun _ _ _ _ _ => (qYes _ _)) (fun _ _ _ _ _ => (qUn un_neg (neg_un _) (qV (i := 11) rfl (.inl rfl))))) qa0)) (qa (qTy call_tuple_of (tup_cd _) T.n_tuple (qa (qLc (own := [("x", 11)]) rfl sc_law_is_mirror_right.nd (qRev T.n_reversed (qTy call_list_of (list_cd _) T.n_list (qa (qV (i := 5) rfl (.inl rfl)) qa0))) (blkOk_by (N := N_law_is_mirror_right) (sc := defScope s_law_is_mirror_right) (own := [("x", 11)]) (by decide +kernel)) (tgd_name (by decide)) (fun _ _ _ _ _ => (pg_name (i := 11) sc_law_is_mirror_right.nd rfl (.inl rfl))) (fun _ _ _ _ _ => (qYes _ _)) (fun _ _ _ _ _ => (qUn un_neg (neg_un _) (qV (i := 11) rfl (.inl rfl))))) qa0)) qa0)))
    (qsCons (qIfS (qCmT (ne_opr a.hu) (ne_opd _) (qBl (cr_repr a.gd a.rp) (repr_cd _) T.n_repr (qa (qLst (qa (qCall G_made_row (a.mono (by decide)) T.g_made_row T.k_made_row T.b_made_row (qa (qIx ix_seq (ix_opd _) (qV (i := 6) rfl (.inl rfl)) qI) (qa (qV (i := 7) rfl (.inl rfl)) qa0))) (qa (qCallK0 G_made_row (a.mono (by decide)) T.g_made_row T.k_made_row (kw2 T) (qk (qV (i := 7) rfl (.inl rfl)) (qk (qIx ix_seq (ix_opd _) (qV (i := 6) rfl (.inl rfl)) qI) qk0))) qa0))) qa0)) (qBl (cr_repr a.gd a.rp) (repr_cd _) T.n_repr (qa (qOp mul_opr (mul_opd _) (qLst (qa (qV (i := 8) rfl (.inl rfl)) qa0)) qI) qa0))) (qsOne (qRet qB)) qsNil)
    (qsOne (qRet (qAnd (qCall G_law_does_go (a.mono (by decide)) T.g_law_does_go T.k_law_does_go T.b_law_does_go (qa (qCall G_law_failing (a.mono (by decide)) T.g_law_failing T.k_law_failing T.b_law_failing (qa (qV (i := 0) rfl (.inr (.inl rfl))) (qa (qV (i := 3) rfl (.inl rfl)) qa0))) (qa (qV (i := 3) rfl (.inl rfl)) (qa (qIx ix_seq (ix_opd _) (qV (i := 6) rfl (.inl rfl)) qI) (qa (qV (i := 7) rfl (.inl rfl)) qa0))))) (qOne (qCm (eq_opr a.hu) (eq_opd _) (qBl (cr_repr a.gd a.rp) (repr_cd _) T.n_repr (qa (qLst (qa (qV (i := 1) rfl (.inl rfl)) (qa (qV (i := 2) rfl (.inl rfl)) qa0))) qa0)) (qV (i := 4) rfl (.inl rfl))))))))))))
def E1_law_is_renamed_right (F_made_row F_renamed_net F_law_made : Fn) : VE :=
  (vOp dIx (vOp dIx (vVar 11) (vC (.int 0))) (vOp dIx (vVar 2) (vVar 12)))
def C1_law_is_renamed_right (F_made_row F_renamed_net F_law_made : Fn) : VE :=
  (vLc (vRng1 (vCons (vVar 0) vNil)) [12] (pN 12) vYes (E1_law_is_renamed_right F_made_row F_renamed_net F_law_made))
def S1_law_is_renamed_right (F_made_row F_renamed_net F_law_made : Fn) : VSt :=
  (vIfS (vOrT (vTr (vOp dNe (vBl bRepr (vCons (vVar 11) vNil)) (vBl bRepr (vCons (vOp dMul (vLst (vCons (vVar 10) vNil)) (vC (.int 2))) vNil)))) (vTr (vOp dNe (vBl bRepr (vCons (C1_law_is_renamed_right F_made_row F_renamed_net F_law_made) vNil)) (vBl bRepr (vCons (vBl bList (vCons (vVar 6) vNil)) vNil))))) (vRet (vC (.bl false))) vPass)
def S2_law_is_renamed_right (F_made_row F_renamed_net F_law_made : Fn) : VSt :=
  (vAsg (vLst (vCons (vCall 2 F_made_row (vCons (vOp dIx (vVar 7) (vC (.int 0))) (vCons (vVar 9) vNil))) (vCons (vCallK 2 F_made_row (kwP 0 2 2 [1, 0]) vNil (vCons (vVar 9) (vCons (vOp dIx (vVar 7) (vC (.int 1))) vNil))) vNil))) (gName 11))
def E2_law_is_renamed_right (F_made_row F_renamed_net F_law_made : Fn) : VE :=
  (vOp dIx (vVar 6) (vOp dIx (vVar 8) (vVar 12)))
def C2_law_is_renamed_right (F_made_row F_renamed_net F_law_made : Fn) : VE :=
  (vLc (vRng1 (vCons (vVar 0) vNil)) [12] (pN 12) vYes (E2_law_is_renamed_right F_made_row F_renamed_net F_law_made))
def E3_law_is_renamed_right (F_made_row F_renamed_net F_law_made : Fn) : VE :=
  (vOp dIx (vVar 3) (vOp dIx (vVar 8) (vVar 12)))
def C3_law_is_renamed_right (F_made_row F_renamed_net F_law_made : Fn) : VE :=
  (vLc (vRng1 (vCons (vVar 0) vNil)) [12] (pN 12) vYes (E3_law_is_renamed_right F_made_row F_renamed_net F_law_made))
def S3_law_is_renamed_right (F_made_row F_renamed_net F_law_made : Fn) : VSt :=
  (vPar 9 10 (vCons (vBl bTup (vCons (C3_law_is_renamed_right F_made_row F_renamed_net F_law_made) vNil)) (vCons (vBl bTup (vCons (C2_law_is_renamed_right F_made_row F_renamed_net F_law_made) vNil)) vNil)))
def S4_law_is_renamed_right (F_made_row F_renamed_net F_law_made : Fn) : VSt :=
  (vIfS (vOrT (vTr (vOp dNe (vBl bRepr (vCons (vVar 7) vNil)) (vBl bRepr (vCons (vOp dMul (vLst (vCons (vVar 4) vNil)) (vC (.int 3))) vNil)))) (vTr (vOp dNe (vBl bRepr (vCons (vCall 2 F_renamed_net (vCons (vOp dIx (vVar 7) (vC (.int 0))) (vCons (vVar 8) vNil))) vNil)) (vBl bRepr (vCons (vVar 1) vNil))))) (vRet (vC (.bl false))) vPass)
def E4_law_is_renamed_right (F_made_row F_renamed_net F_law_made : Fn) : VE :=
  (vTIdx (vVar 2) (vCons (vVar 12) vNil))
def C4_law_is_renamed_right (F_made_row F_renamed_net F_law_made : Fn) : VE :=
  (vLc (vRng1 (vCons (vVar 0) vNil)) [12] (pN 12) vYes (E4_law_is_renamed_right F_made_row F_renamed_net F_law_made))
def S5_law_is_renamed_right (F_made_row F_renamed_net F_law_made : Fn) : VSt :=
  (vAsg (vBl bTup (vCons (C4_law_is_renamed_right F_made_row F_renamed_net F_law_made) vNil)) (gName 8))
def S6_law_is_renamed_right (F_made_row F_renamed_net F_law_made : Fn) : VSt :=
  (vAsg (vLst (vCons (vCall 2 F_renamed_net (vCons (vVar 1) (vCons (vVar 2) vNil))) (vCons (vCallK 2 F_renamed_net (kwP 0 2 2 [1, 0]) vNil (vCons (vVar 2) (vCons (vVar 1) vNil))) (vCons (vCall 2 F_renamed_net (vCons (vVar 1) (vCons (vVar 2) vNil))) vNil)))) (gName 7))
def E5_law_is_renamed_right (F_made_row F_renamed_net F_law_made : Fn) : VE :=
  (vTup (vCons (vOp dIx (vVar 2) (vVar 13)) (vCons (vOp dIx (vVar 2) (vVar 14)) vNil)))
def C5_law_is_renamed_right (F_made_row F_renamed_net F_law_made : Fn) : VE :=
  (vLc (vIt (vVar 1)) [13, 14] (pTup 2 (psCons (pN 13) (psCons (pN 14) psNil))) vYes (E5_law_is_renamed_right F_made_row F_renamed_net F_law_made))
def S7_law_is_renamed_right (F_made_row F_renamed_net F_law_made : Fn) : VSt :=
  (vAsg (vTup (vCons (vBl bTup (vCons (C5_law_is_renamed_right F_made_row F_renamed_net F_law_made) vNil)) (vCons (vBl bRepr (vCons (vLst (vCons (vVar 1) (vCons (vVar 2) (vCons (vVar 3) vNil)))) vNil)) (vCons (vCall 2 F_law_made (vCons (vVar 1) (vCons (vVar 3) vNil))) vNil)))) (gTupl 3 (gsCons (gName 4) (gsCons (gName 5) (gsCons (gName 6) gsNil)))))
def m_law_is_renamed_right (F_made_row F_renamed_net F_law_made : Fn) : VSt :=
  (vSeq (S7_law_is_renamed_right F_made_row F_renamed_net F_law_made)
    (vSeq (S6_law_is_renamed_right F_made_row F_renamed_net F_law_made)
    (vSeq (S5_law_is_renamed_right F_made_row F_renamed_net F_law_made)
    (vSeq (S4_law_is_renamed_right F_made_row F_renamed_net F_law_made)
    (vSeq (S3_law_is_renamed_right F_made_row F_renamed_net F_law_made)
    (vSeq (S2_law_is_renamed_right F_made_row F_renamed_net F_law_made)
    (vSeq (S1_law_is_renamed_right F_made_row F_renamed_net F_law_made)
    (vRet (vOp dEq (vBl bRepr (vCons (vLst (vCons (vVar 1) (vCons (vVar 2) (vCons (vVar 3) vNil)))) vNil)) (vVar 5))))))))))
theorem ok_law_is_renamed_right (T : Txt K mg) {F_made_row F_renamed_net F_law_made : Fn} (G_made_row : FnG P w K mg base 1 T.a_made_row T.d_made_row P_made_row F_made_row) (G_renamed_net : FnG P w K mg base 1 T.a_renamed_net T.d_renamed_net P_renamed_net F_renamed_net) (G_law_made : FnG P w K mg base 1 T.a_law_made T.d_law_made P_law_made F_law_made) : FnG P w K mg base 2 T.a_law_is_renamed_right T.d_law_is_renamed_right P_law_is_renamed_right (mF 15 (m_law_is_renamed_right F_made_row F_renamed_net F_law_made)) :=
  fnG_of T.f_law_is_renamed_right sc_law_is_renamed_right fun cdv A outer s H E a =>
    (qsCons (qAsg (qTup (qa (qTy call_tuple_of (tup_cd _) T.n_tuple (qa (qLc (own := [("i", 13), ("j", 14)]) rfl sc_law_is_renamed_right.nd (qIt (qV (i := 1) rfl (.inl rfl))) (blkOk_by (N := N_law_is_renamed_right) (sc := defScope s_law_is_renamed_right) (own := [("i", 13), ("j", 14)]) (by decide +kernel)) (tgd_tup (tgsd_cons (tgd_name (by decide)) (tgsd_cons (tgd_name (by decide)) tgsd_nil))) (fun _ _ _ _ _ => (pg_tup rfl (pgs_cons (pg_name (i := 13) sc_law_is_renamed_right.nd rfl (.inl rfl)) (pgs_cons (pg_name (i := 14) sc_law_is_renamed_right.nd rfl (.inl rfl)) pgs_nil)))) (fun _ _ _ _ _ => (qYes _ _)) (fun _ _ _ _ _ => (qTup (qa (qIx ix_seq (ix_opd _) (qV (i := 2) rfl (.inr (.inl rfl))) (qV (i := 13) rfl (.inl rfl))) (qa (qIx ix_seq (ix_opd _) (qV (i := 2) rfl (.inr (.inl rfl))) (qV (i := 14) rfl (.inl rfl))) qa0))))) qa0)) (qa (qBl (cr_repr a.gd a.rp) (repr_cd _) T.n_repr (qa (qLst (qa (qV (i := 1) rfl (.inl rfl)) (qa (qV (i := 2) rfl (.inr (.inl rfl))) (qa (qV (i := 3) rfl (.inr (.inl rfl))) qa0)))) qa0)) (qa (qCall G_law_made (a.mono (by decide)) T.g_law_made T.k_law_made T.b_law_made (qa (qV (i := 1) rfl (.inl rfl)) (qa (qV (i := 3) rfl (.inr (.inl rfl))) qa0))) qa0)))) (qgT rfl (qgs (qgN (i := 4) sc_law_is_renamed_right.nd rfl (.inl rfl)) (qgs (qgN (i := 5) sc_law_is_renamed_right.nd rfl (.inl rfl)) (qgs (qgN (i := 6) sc_law_is_renamed_right.nd rfl (.inr rfl)) qgs0)))))
    (qsCons (qSet (i := 7) sc_law_is_renamed_right.nd (qLst (qa (qCall G_renamed_net (a.mono (by decide)) T.g_renamed_net T.k_renamed_net T.b_renamed_net (qa (qV (i := 1) rfl (.inl rfl)) (qa (qV (i := 2) rfl (.inr (.inl rfl))) qa0))) (qa (qCallK0 G_renamed_net (a.mono (by decide)) T.g_renamed_net T.k_renamed_net (kw4 T) (qk (qV (i := 2) rfl (.inr (.inl rfl))) (qk (qV (i := 1) rfl (.inl rfl)) qk0))) (qa (qCall G_renamed_net (a.mono (by decide)) T.g_renamed_net T.k_renamed_net T.b_renamed_net (qa (qV (i := 1) rfl (.inl rfl)) (qa (qV (i := 2) rfl (.inr (.inl rfl))) qa0))) qa0)))) rfl (.inl rfl))
    (qsCons (qSet (i := 8) sc_law_is_renamed_right.nd (qTy call_tuple_of (tup_cd _) T.n_tuple (qa (qLc (own := [("w", 12)]) rfl sc_law_is_renamed_right.nd (qRng1 T.n_range (qa (qV (i := 0) rfl (.inl rfl)) qa0)) (blkOk_by (N := N_law_is_renamed_right) (sc := defScope s_law_is_renamed_right) (own := [("w", 12)]) (by decide +kernel)) (tgd_name (by decide)) (fun _ _ _ _ _ => (pg_name (i := 12) sc_law_is_renamed_right.nd rfl (.inl rfl))) (fun _ _ _ _ _ => (qYes _ _)) (fun _ _ _ _ _ => (qTIdx (qV (i := 2) rfl (.inr (.inl rfl))) (qa (qV (i := 12) rfl (.inl rfl)) qa0)))) qa0)) rfl (.inr rfl))
    (qsCons (qIfS (PW.pt (qOrT (qCmT (ne_opr a.hu) (ne_opd _) (qBl (cr_repr a.gd a.rp) (repr_cd _) T.n_repr (qa (qV (i := 7) rfl (.inl rfl)) qa0)) (qBl (cr_repr a.gd a.rp) (repr_cd _) T.n_repr (qa (qOp mul_opr (mul_opd _) (qLst (qa (qV (i := 4) rfl (.inl rfl)) qa0)) qI) qa0))) (qOr1 (qCmT (ne_opr a.hu) (ne_opd _) (qBl (cr_repr a.gd a.rp) (repr_cd _) T.n_repr (qa (qCall G_renamed_net (a.mono (by decide)) T.g_renamed_net T.k_renamed_net T.b_renamed_net (qa (qIx ix_seq (ix_opd _) (qV (i := 7) rfl (.inl rfl)) qI) (qa (qV (i := 8) rfl (.inr (.inl rfl))) qa0))) qa0)) (qBl (cr_repr a.gd a.rp) (repr_cd _) T.n_repr (qa (qV (i := 1) rfl (.inl rfl)) qa0)))))) (qsOne (qRet qB)) qsNil)
    (qsCons (qPar2 (i := 9) (j := 10) rfl sc_law_is_renamed_right.nd (qa (qTy call_tuple_of (tup_cd _) T.n_tuple (qa (qLc (own := [("w", 12)]) rfl sc_law_is_renamed_right.nd (qRng1 T.n_range (qa (qV (i := 0) rfl (.inl rfl)) qa0)) (blkOk_by (N := N_law_is_renamed_right) (sc := defScope s_law_is_renamed_right) (own := [("w", 12)]) (by decide +kernel)) (tgd_name (by decide)) (fun _ _ _ _ _ => (pg_name (i := 12) sc_law_is_renamed_right.nd rfl (.inl rfl))) (fun _ _ _ _ _ => (qYes _ _)) (fun _ _ _ _ _ => (qIx ix_seq (ix_opd _) (qV (i := 3) rfl (.inr (.inl rfl))) (qIx ix_seq (ix_opd _) (qV (i := 8) rfl (.inr (.inl rfl))) (qV (i := 12) rfl (.inl rfl)))))) qa0)) (qa (qTy call_tuple_of (tup_cd _) T.n_tuple (qa (qLc (own := [("w", 12)]) rfl sc_law_is_renamed_right.nd (qRng1 T.n_range (qa (qV (i := 0) rfl (.inl rfl)) qa0)) (blkOk_by (N := N_law_is_renamed_right) (sc := defScope s_law_is_renamed_right) (own := [("w", 12)]) (by decide +kernel)) (tgd_name (by decide)) (fun _ _ _ _ _ => (pg_name (i := 12) sc_law_is_renamed_right.nd rfl (.inl rfl))) (fun _ _ _ _ _ => (qYes _ _)) (fun _ _ _ _ _ => (qIx ix_seq (ix_opd _) (qV (i := 6) rfl (.inr (.inl rfl))) (qIx ix_seq (ix_opd _) (qV (i := 8) rfl (.inr (.inl rfl))) (qV (i := 12) rfl (.inl rfl)))))) qa0)) qa0)))
    (qsCons (qSet (i := 11) sc_law_is_renamed_right.nd (qLst (qa (qCall G_made_row (a.mono (by decide)) T.g_made_row T.k_made_row T.b_made_row (qa (qIx ix_seq (ix_opd _) (qV (i := 7) rfl (.inl rfl)) qI) (qa (qV (i := 9) rfl (.inl rfl)) qa0))) (qa (qCallK0 G_made_row (a.mono (by decide)) T.g_made_row T.k_made_row (kw2 T) (qk (qV (i := 9) rfl (.inl rfl)) (qk (qIx ix_seq (ix_opd _) (qV (i := 7) rfl (.inl rfl)) qI) qk0))) qa0))) rfl (.inr rfl))
    (qsCons (qIfS (PW.pt (qOrT (qCmT (ne_opr a.hu) (ne_opd _) (qBl (cr_repr a.gd a.rp) (repr_cd _) T.n_repr (qa (qV (i := 11) rfl (.inr (.inl rfl))) qa0)) (qBl (cr_repr a.gd a.rp) (repr_cd _) T.n_repr (qa (qOp mul_opr (mul_opd _) (qLst (qa (qV (i := 10) rfl (.inl rfl)) qa0)) qI) qa0))) (qOr1 (qCmT (ne_opr a.hu) (ne_opd _) (qBl (cr_repr a.gd a.rp) (repr_cd _) T.n_repr (qa (qLc (own := [("w", 12)]) rfl sc_law_is_renamed_right.nd (qRng1 T.n_range (qa (qV (i := 0) rfl (.inl rfl)) qa0)) (blkOk_by (N := N_law_is_renamed_right) (sc := defScope s_law_is_renamed_right) (own := [("w", 12)]) (by decide +kernel)) (tgd_name (by decide)) (fun _ _ _ _ _ => (pg_name (i := 12) sc_law_is_renamed_right.nd rfl (.inl rfl))) (fun _ _ _ _ _ => (qYes _ _)) (fun _ _ _ _ _ => (qIx ix_seq (ix_opd _) (qIx ix_seq (ix_opd _) (qV (i := 11) rfl (.inr (.inl rfl))) qI) (qIx ix_seq (ix_opd _) (qV (i := 2) rfl (.inr (.inl rfl))) (qV (i := 12) rfl (.inl rfl)))))) qa0)) (qBl (cr_repr a.gd a.rp) (repr_cd _) T.n_repr (qa (qTy call_list_of (list_cd _) T.n_list (qa (qV (i := 6) rfl (.inr (.inl rfl))) qa0)) qa0)))))) (qsOne (qRet qB)) qsNil)
    (qsOne (qRet (qCm (eq_opr a.hu) (eq_opd _) (qBl (cr_repr a.gd a.rp) (repr_cd _) T.n_repr (qa (qLst (qa (qV (i := 1) rfl (.inl rfl)) (qa (qV (i := 2) rfl (.inr (.inl rfl))) (qa (qV (i := 3) rfl (.inr (.inl rfl))) qa0)))) qa0)) (qV (i := 5) rfl (.inl rfl))))))))))))
def S1_law_are_all_right (F_law_is_renamed_right F_law_is_mirror_right F_law_is_standard_right F_law_wires F_law_row : Fn) : VSt :=
  (vIfS (vOrT (vNotT (vTr (vCall 3 F_law_is_standard_right (vCons (vVar 1) (vCons (vVar 2) (vCons (vVar 3) vNil)))))) (vNotT (vTr (vCall 3 F_law_is_mirror_right (vCons (vVar 1) (vCons (vVar 2) (vCons (vVar 3) vNil))))))) (vRet (vC (.bl false))) vPass)
def S2_law_are_all_right (F_law_is_renamed_right F_law_is_mirror_right F_law_is_standard_right F_law_wires F_law_row : Fn) : VSt :=
  (vPar 3 4 (vCons (vCall 2 F_law_row (vCons (vVar 0) (vCons (vVar 1) vNil))) (vCons (vCall 2 F_law_wires (vCons (vVar 0) (vCons (vVar 1) vNil))) vNil)))
def m_law_are_all_right (F_law_is_renamed_right F_law_is_mirror_right F_law_is_standard_right F_law_wires F_law_row : Fn) : VSt :=
  (vSeq (S2_law_are_all_right F_law_is_renamed_right F_law_is_mirror_right F_law_is_standard_right F_law_wires F_law_row)
    (vSeq (S1_law_are_all_right F_law_is_renamed_right F_law_is_mirror_right F_law_is_standard_right F_law_wires F_law_row)
    (vRet (vCall 4 F_law_is_renamed_right (vCons (vVar 1) (vCons (vVar 2) (vCons (vVar 4) (vCons (vVar 3) vNil))))))))
theorem ok_law_are_all_right (T : Txt K mg) {F_law_is_renamed_right F_law_is_mirror_right F_law_is_standard_right F_law_wires F_law_row : Fn} (G_law_is_renamed_right : FnG P w K mg base 2 T.a_law_is_renamed_right T.d_law_is_renamed_right P_law_is_renamed_right F_law_is_renamed_right) (G_law_is_mirror_right : FnG P w K mg base 4 T.a_law_is_mirror_right T.d_law_is_mirror_right P_law_is_mirror_right F_law_is_mirror_right) (G_law_is_standard_right : FnG P w K mg base 4 T.a_law_is_standard_right T.d_law_is_standard_right P_law_is_standard_right F_law_is_standard_right) (G_law_wires : FnG P w K mg base 2 T.a_law_wires T.d_law_wires P_law_wires F_law_wires) (G_law_row : FnG P w K mg base 3 T.a_law_row T.d_law_row P_law_row F_law_row) : FnG P w K mg base 5 T.a_law_are_all_right T.d_law_are_all_right P_law_are_all_right (mF 5 (m_law_are_all_right F_law_is_renamed_right F_law_is_mirror_right F_law_is_standard_right F_law_wires F_law_row)) :=
  fnG_of T.f_law_are_all_right sc_law_are_all_right fun cdv A outer s H E a =>
    (qsCons (qPar2 (i := 3) (j := 4) rfl sc_law_are_all_right.nd (qa (qCall G_law_row (a.mono (by decide)) T.g_law_row T.k_law_row T.b_law_row (qa (qV (i := 0) rfl (.inl rfl)) (qa (qV (i := 1) rfl (.inl rfl)) qa0))) (qa (qCall G_law_wires (a.mono (by decide)) T.g_law_wires T.k_law_wires T.b_law_wires (qa (qV (i := 0) rfl (.inl rfl)) (qa (qV (i := 1) rfl (.inl rfl)) qa0))) qa0)))
    (qsCons (qIfS (PW.pt (qOrT (qNotT (qT (qCall G_law_is_standard_right (a.mono (by decide)) T.g_law_is_standard_right T.k_law_is_standard_right T.b_law_is_standard_right (qa (qV (i := 1) rfl (.inl rfl)) (qa (qV (i := 2) rfl (.inl rfl)) (qa (qV (i := 3) rfl (.inl rfl)) qa0)))))) (qOr1 (qNotT (qT (qCall G_law_is_mirror_right (a.mono (by decide)) T.g_law_is_mirror_right T.k_law_is_mirror_right T.b_law_is_mirror_right (qa (qV (i := 1) rfl (.inl rfl)) (qa (qV (i := 2) rfl (.inl rfl)) (qa (qV (i := 3) rfl (.inl rfl)) qa0))))))))) (qsOne (qRet qB)) qsNil)
    (qsOne (qRet (qCall G_law_is_renamed_right (a.mono (by decide)) T.g_law_is_renamed_right T.k_law_is_renamed_right T.b_law_is_renamed_right (qa (qV (i := 1) rfl (.inl rfl)) (qa (qV (i := 2) rfl (.inl rfl)) (qa (qV (i := 4) rfl (.inl rfl)) (qa (qV (i := 3) rfl (.inl rfl)) qa0)))))))))
def S1_law_are_great_right (F_law_are_all_right F_joined_nets F_law_net F_law_draw : Fn) : VSt :=
  (vPar 4 5 (vCons (vCall 2 F_joined_nets (vCons (vVar 4) (vCons (vVar 3) vNil))) (vCons (vOp dAdd (vVar 5) (vVar 3)) vNil)))
def B1_law_are_great_right (F_law_are_all_right F_joined_nets F_law_net F_law_draw : Fn) : VSt :=
  (vPar 4 5 (vCons (vCall 2 F_joined_nets (vCons (vVar 4) (vCons (vVar 4) vNil))) (vCons (vOp dAdd (vVar 5) (vVar 5)) vNil)))
def L1_law_are_great_right (F_law_are_all_right F_joined_nets F_law_net F_law_draw : Fn) : VSt :=
  (vFor (vRng1 (vCons (vC (.int 3)) vNil)) (gP (pN 6)) (B1_law_are_great_right F_law_are_all_right F_joined_nets F_law_net F_law_draw))
def S2_law_are_great_right (F_law_are_all_right F_joined_nets F_law_net F_law_draw : Fn) : VSt :=
  (vPar 4 5 (vCons (vVar 2) (vCons (vVar 2) vNil)))
def S3_law_are_great_right (F_law_are_all_right F_joined_nets F_law_net F_law_draw : Fn) : VSt :=
  (vPar 2 3 (vCons (vCall 4 F_law_net (vCons (vVar 0) (vCons (vVar 1) (vCons (vC (.int 60)) (vCons (vCall 2 F_law_draw (vCons (vVar 0) (vCons (vC (.int 5)) vNil))) vNil))))) (vCons (vCall 4 F_law_net (vCons (vVar 0) (vCons (vVar 1) (vCons (vC (.int 20)) (vCons (vC (.int 3)) vNil))))) vNil)))
def m_law_are_great_right (F_law_are_all_right F_joined_nets F_law_net F_law_draw : Fn) : VSt :=
  (vSeq (S3_law_are_great_right F_law_are_all_right F_joined_nets F_law_net F_law_draw)
    (vSeq (S2_law_are_great_right F_law_are_all_right F_joined_nets F_law_net F_law_draw)
    (vSeq (L1_law_are_great_right F_law_are_all_right F_joined_nets F_law_net F_law_draw)
    (vSeq (S1_law_are_great_right F_law_are_all_right F_joined_nets F_law_net F_law_draw)
    (vRet (vAnd (vOp dEq (vBl bRepr (vCons (vVar 4) vNil)) (vBl bRepr (vCons (vVar 5) vNil))) (vCall 3 F_law_are_all_right (vCons (vVar 0) (vCons (vVar 1) (vCons (vVar 4) vNil))))))))))
theorem ok_law_are_great_right (T : Txt K mg) {F_law_are_all_right F_joined_nets F_law_net F_law_draw : Fn} (G_law_are_all_right : FnG P w K mg base 5 T.a_law_are_all_right T.d_law_are_all_right P_law_are_all_right F_law_are_all_right) (G_joined_nets : FnG P w K mg base 1 T.a_joined_nets T.d_joined_nets P_joined_nets F_joined_nets) (G_law_net : FnG P w K mg base 3 T.a_law_net T.d_law_net P_law_net F_law_net) (G_law_draw : FnG P w K mg base 1 T.a_law_draw T.d_law_draw P_law_draw F_law_draw) : FnG P w K mg base 6 T.a_law_are_great_right T.d_law_are_great_right P_law_are_great_right (mF 7 (m_law_are_great_right F_law_are_all_right F_joined_nets F_law_net F_law_draw)) :=
  fnG_of T.f_law_are_great_right sc_law_are_great_right fun cdv A outer s H E a =>
    (qsCons (qPar2 (i := 2) (j := 3) rfl sc_law_are_great_right.nd (qa (qCall G_law_net (a.mono (by decide)) T.g_law_net T.k_law_net T.b_law_net (qa (qV (i := 0) rfl (.inl rfl)) (qa (qV (i := 1) rfl (.inl rfl)) (qa qI (qa (qCall G_law_draw (a.mono (by decide)) T.g_law_draw T.k_law_draw T.b_law_draw (qa (qV (i := 0) rfl (.inl rfl)) (qa qI qa0))) qa0))))) (qa (qCall G_law_net (a.mono (by decide)) T.g_law_net T.k_law_net T.b_law_net (qa (qV (i := 0) rfl (.inl rfl)) (qa (qV (i := 1) rfl (.inl rfl)) (qa qI (qa qI qa0))))) qa0)))
    (qsCons (qPar2 (i := 4) (j := 5) rfl sc_law_are_great_right.nd (qa (qV (i := 2) rfl (.inl rfl)) (qa (qV (i := 2) rfl (.inl rfl)) qa0)))
    (qsCons (qFor a.ps rfl (qRng1 T.n_range (qa qI qa0)) (qgP (vs := [6]) (pg_name (i := 6) sc_law_are_great_right.nd rfl (.inl rfl)) (tgd_name (by decide))) (qsOne (qPar2 (i := 4) (j := 5) rfl sc_law_are_great_right.nd (qa (qCall G_joined_nets (a.mono (by decide)) T.g_joined_nets T.k_joined_nets T.b_joined_nets (qa (qV (i := 4) rfl (.inl rfl)) (qa (qV (i := 4) rfl (.inl rfl)) qa0))) (qa (qOp add_opr (add_opd _) (qV (i := 5) rfl (.inl rfl)) (qV (i := 5) rfl (.inl rfl))) qa0)))))
    (qsCons (qPar2 (i := 4) (j := 5) rfl sc_law_are_great_right.nd (qa (qCall G_joined_nets (a.mono (by decide)) T.g_joined_nets T.k_joined_nets T.b_joined_nets (qa (qV (i := 4) rfl (.inl rfl)) (qa (qV (i := 3) rfl (.inl rfl)) qa0))) (qa (qOp add_opr (add_opd _) (qV (i := 5) rfl (.inl rfl)) (qV (i := 3) rfl (.inl rfl))) qa0)))
    (qsOne (qRet (qAnd (qCm (eq_opr a.hu) (eq_opd _) (qBl (cr_repr a.gd a.rp) (repr_cd _) T.n_repr (qa (qV (i := 4) rfl (.inl rfl)) qa0)) (qBl (cr_repr a.gd a.rp) (repr_cd _) T.n_repr (qa (qV (i := 5) rfl (.inl rfl)) qa0))) (qOne (qCall G_law_are_all_right (a.mono (by decide)) T.g_law_are_all_right T.k_law_are_all_right T.b_law_are_all_right (qa (qV (i := 0) rfl (.inl rfl)) (qa (qV (i := 1) rfl (.inl rfl)) (qa (qV (i := 4) rfl (.inl rfl)) qa0))))))))))))
def B1_law (F_law_are_great_right F_law_draw F_law_are_all_right F_law_sorting F_law_pick F_law_some_net F_law_own_bag : Fn) : VSt :=
  (vIfS (vNotT (vTr (vCall 3 F_law_are_all_right (vCons (vVar 1) (vCons (vVar 2) (vCons (vCall 3 F_law_sorting (vCons (vVar 1) (vCons (vVar 2) (vCons (vVar 3) vNil)))) vNil)))))) (vRet (vC (.bl false))) vPass)
def L1_law (F_law_are_great_right F_law_draw F_law_are_all_right F_law_sorting F_law_pick F_law_some_net F_law_own_bag : Fn) : VSt :=
  (vFor (vRng1 (vCons (vC (.int 3)) vNil)) (gP (pN 3)) (B1_law F_law_are_great_right F_law_draw F_law_are_all_right F_law_sorting F_law_pick F_law_some_net F_law_own_bag))
def S1_law (F_law_are_great_right F_law_draw F_law_are_all_right F_law_sorting F_law_pick F_law_some_net F_law_own_bag : Fn) : VSt :=
  (vAsg (vOp dAdd (vC (.int 2)) (vCall 2 F_law_draw (vCons (vVar 1) (vCons (vC (.int 9)) vNil)))) (gName 2))
def B2_law (F_law_are_great_right F_law_draw F_law_are_all_right F_law_sorting F_law_pick F_law_some_net F_law_own_bag : Fn) : VSt :=
  (vIfS (vNotT (vTr (vCall 3 F_law_are_all_right (vCons (vVar 1) (vCons (vVar 2) (vCons (vCall 2 F_law_some_net (vCons (vVar 1) (vCons (vVar 2) vNil))) vNil)))))) (vRet (vC (.bl false))) vPass)
def L2_law (F_law_are_great_right F_law_draw F_law_are_all_right F_law_sorting F_law_pick F_law_some_net F_law_own_bag : Fn) : VSt :=
  (vFor (vIt (vLst (vCons (vCall 2 F_law_draw (vCons (vVar 1) (vCons (vC (.int 11)) vNil))) (vCons (vOp dAdd (vC (.int 2)) (vCall 2 F_law_draw (vCons (vVar 1) (vCons (vC (.int 9)) vNil)))) (vCons (vCall 2 F_law_pick (vCons (vVar 1) (vCons (vLst (vCons (vC (.int 0)) (vCons (vC (.int 1)) (vCons (vC (.int 2)) (vCons (vC (.int 3)) (vCons (vC (.int 10)) vNil)))))) vNil))) vNil))))) (gP (pN 2)) (B2_law F_law_are_great_right F_law_draw F_law_are_all_right F_law_sorting F_law_pick F_law_some_net F_law_own_bag))
def S2_law (F_law_are_great_right F_law_draw F_law_are_all_right F_law_sorting F_law_pick F_law_some_net F_law_own_bag : Fn) : VSt :=
  (vAsg (vCall 1 F_law_own_bag (vCons (vVar 0) vNil)) (gName 1))
def m_law (F_law_are_great_right F_law_draw F_law_are_all_right F_law_sorting F_law_pick F_law_some_net F_law_own_bag : Fn) : VSt :=
  (vSeq (S2_law F_law_are_great_right F_law_draw F_law_are_all_right F_law_sorting F_law_pick F_law_some_net F_law_own_bag)
    (vSeq (L2_law F_law_are_great_right F_law_draw F_law_are_all_right F_law_sorting F_law_pick F_law_some_net F_law_own_bag)
    (vSeq (S1_law F_law_are_great_right F_law_draw F_law_are_all_right F_law_sorting F_law_pick F_law_some_net F_law_own_bag)
    (vSeq (L1_law F_law_are_great_right F_law_draw F_law_are_all_right F_law_sorting F_law_pick F_law_some_net F_law_own_bag)
    (vRet (vCall 2 F_law_are_great_right (vCons (vVar 1) (vCons (vOp dAdd (vC (.int 2)) (vCall 2 F_law_draw (vCons (vVar 1) (vCons (vC (.int 9)) vNil)))) vNil))))))))
theorem ok_law (T : Txt K mg) {F_law_are_great_right F_law_draw F_law_are_all_right F_law_sorting F_law_pick F_law_some_net F_law_own_bag : Fn} (G_law_are_great_right : FnG P w K mg base 6 T.a_law_are_great_right T.d_law_are_great_right P_law_are_great_right F_law_are_great_right) (G_law_draw : FnG P w K mg base 1 T.a_law_draw T.d_law_draw P_law_draw F_law_draw) (G_law_are_all_right : FnG P w K mg base 5 T.a_law_are_all_right T.d_law_are_all_right P_law_are_all_right F_law_are_all_right) (G_law_sorting : FnG P w K mg base 3 T.a_law_sorting T.d_law_sorting P_law_sorting F_law_sorting) (G_law_pick : FnG P w K mg base 2 T.a_law_pick T.d_law_pick P_law_pick F_law_pick) (G_law_some_net : FnG P w K mg base 4 T.a_law_some_net T.d_law_some_net P_law_some_net F_law_some_net) (G_law_own_bag : FnG P w K mg base 1 T.a_law_own_bag T.d_law_own_bag P_law_own_bag F_law_own_bag) : FnG P w K mg base 7 T.a_law T.d_law P_law (mF 4 (m_law F_law_are_great_right F_law_draw F_law_are_all_right F_law_sorting F_law_pick F_law_some_net F_law_own_bag)) :=
  fnG_of T.f_law sc_law fun cdv A outer s H E a =>
    (qsCons (qSet (i := 1) sc_law.nd (qCall G_law_own_bag (a.mono (by decide)) T.g_law_own_bag T.k_law_own_bag T.b_law_own_bag (qa (qV (i := 0) rfl (.inl rfl)) qa0)) rfl (.inl rfl))
    (qsCons (qFor a.ps rfl (qIt (qLst (qa (qCall G_law_draw (a.mono (by decide)) T.g_law_draw T.k_law_draw T.b_law_draw (qa (qV (i := 1) rfl (.inl rfl)) (qa qI qa0))) (qa (qOp add_opr (add_opd _) qI (qCall G_law_draw (a.mono (by decide)) T.g_law_draw T.k_law_draw T.b_law_draw (qa (qV (i := 1) rfl (.inl rfl)) (qa qI qa0)))) (qa (qCall G_law_pick (a.mono (by decide)) T.g_law_pick T.k_law_pick T.b_law_pick (qa (qV (i := 1) rfl (.inl rfl)) (qa (qLst (qa qI (qa qI (qa qI (qa qI (qa qI qa0)))))) qa0))) qa0))))) (qgP (vs := [2]) (pg_name (i := 2) sc_law.nd rfl (.inl rfl)) (tgd_name (by decide))) (qsOne (qIfS (qNotT (qT (qCall G_law_are_all_right (a.mono (by decide)) T.g_law_are_all_right T.k_law_are_all_right T.b_law_are_all_right (qa (qV (i := 1) rfl (.inl rfl)) (qa (qV (i := 2) rfl (.inl rfl)) (qa (qCall G_law_some_net (a.mono (by decide)) T.g_law_some_net T.k_law_some_net T.b_law_some_net (qa (qV (i := 1) rfl (.inl rfl)) (qa (qV (i := 2) rfl (.inl rfl)) qa0))) qa0)))))) (qsOne (qRet qB)) qsNil)))
    (qsCons (qSet (i := 2) sc_law.nd (qOp add_opr (add_opd _) qI (qCall G_law_draw (a.mono (by decide)) T.g_law_draw T.k_law_draw T.b_law_draw (qa (qV (i := 1) rfl (.inl rfl)) (qa qI qa0)))) rfl (.inl rfl))
    (qsCons (qFor a.ps rfl (qRng1 T.n_range (qa qI qa0)) (qgP (vs := [3]) (pg_name (i := 3) sc_law.nd rfl (.inl rfl)) (tgd_name (by decide))) (qsOne (qIfS (qNotT (qT (qCall G_law_are_all_right (a.mono (by decide)) T.g_law_are_all_right T.k_law_are_all_right T.b_law_are_all_right (qa (qV (i := 1) rfl (.inl rfl)) (qa (qV (i := 2) rfl (.inl rfl)) (qa (qCall G_law_sorting (a.mono (by decide)) T.g_law_sorting T.k_law_sorting T.b_law_sorting (qa (qV (i := 1) rfl (.inl rfl)) (qa (qV (i := 2) rfl (.inl rfl)) (qa (qV (i := 3) rfl (.inl rfl)) qa0)))) qa0)))))) (qsOne (qRet qB)) qsNil)))
    (qsOne (qRet (qCall G_law_are_great_right (a.mono (by decide)) T.g_law_are_great_right T.k_law_are_great_right T.b_law_are_great_right (qa (qV (i := 1) rfl (.inl rfl)) (qa (qOp add_opr (add_opd _) qI (qCall G_law_draw (a.mono (by decide)) T.g_law_draw T.k_law_draw T.b_law_draw (qa (qV (i := 1) rfl (.inl rfl)) (qa qI qa0)))) qa0)))))))))
def F_joined_nets : Fn := mF 2 (m_joined_nets)
def F_made_row : Fn := mF 5 (m_made_row)
def F_is_ascending : Fn := mF 3 (m_is_ascending)
def F_is_standard : Fn := mF 3 (m_is_standard)
def F_does_sort_row : Fn := mF 2 (m_does_sort_row F_is_ascending F_made_row)
def F_renamed_net : Fn := mF 4 (m_renamed_net)
def F_mirrored_net : Fn := mF 4 (m_mirrored_net)
def F_standard_net : Fn := mF 8 (m_standard_net)
def F_law_own_bag : Fn := mF 4 (m_law_own_bag)
def F_law_draw : Fn := mF 3 (m_law_draw)
def F_law_pick : Fn := mF 2 (m_law_pick F_law_draw)
def F_law_pair : Fn := mF 3 (m_law_pair F_law_draw)
def F_law_great : Fn := mF 3 (m_law_great F_law_draw)
def F_law_row : Fn := mF 6 (m_law_row F_law_draw F_law_great F_law_pick)
def F_law_made : Fn := mF 6 (m_law_made)
def F_law_wires : Fn := mF 5 (m_law_wires F_law_draw)
def F_law_sorting : Fn := mF 11 (m_law_sorting F_law_draw F_law_wires)
def F_law_net : Fn := mF 9 (m_law_net F_law_draw F_law_pair)
def F_law_some_net : Fn := mF 3 (m_law_some_net F_law_net F_law_draw F_law_pick F_law_sorting)
def F_law_standard : Fn := mF 8 (m_law_standard)
def F_law_failing : Fn := mF 12 (m_law_failing)
def F_law_does_go : Fn := mF 7 (m_law_does_go F_does_sort_row F_law_made)
def F_law_is_standard_right : Fn := mF 15 (m_law_is_standard_right F_law_does_go F_law_failing F_standard_net F_is_standard F_made_row F_law_made F_law_standard)
def F_law_is_mirror_right : Fn := mF 12 (m_law_is_mirror_right F_law_does_go F_law_failing F_made_row F_mirrored_net F_law_made)
def F_law_is_renamed_right : Fn := mF 15 (m_law_is_renamed_right F_made_row F_renamed_net F_law_made)
def F_law_are_all_right : Fn := mF 5 (m_law_are_all_right F_law_is_renamed_right F_law_is_mirror_right F_law_is_standard_right F_law_wires F_law_row)
def F_law_are_great_right : Fn := mF 7 (m_law_are_great_right F_law_are_all_right F_joined_nets F_law_net F_law_draw)
def F_law : Fn := mF 4 (m_law F_law_are_great_right F_law_draw F_law_are_all_right F_law_sorting F_law_pick F_law_some_net F_law_own_bag)
theorem G_joined_nets (T : Txt K mg) : FnG P w K mg base 1 T.a_joined_nets T.d_joined_nets P_joined_nets F_joined_nets := ok_joined_nets T
theorem G_made_row (T : Txt K mg) : FnG P w K mg base 1 T.a_made_row T.d_made_row P_made_row F_made_row := ok_made_row T
theorem G_is_ascending (T : Txt K mg) : FnG P w K mg base 1 T.a_is_ascending T.d_is_ascending P_is_ascending F_is_ascending := ok_is_ascending T
theorem G_is_standard (T : Txt K mg) : FnG P w K mg base 1 T.a_is_standard T.d_is_standard P_is_standard F_is_standard := ok_is_standard T
theorem G_does_sort_row (T : Txt K mg) : FnG P w K mg base 2 T.a_does_sort_row T.d_does_sort_row P_does_sort_row F_does_sort_row := ok_does_sort_row T (G_is_ascending T) (G_made_row T)
theorem G_renamed_net (T : Txt K mg) : FnG P w K mg base 1 T.a_renamed_net T.d_renamed_net P_renamed_net F_renamed_net := ok_renamed_net T
theorem G_mirrored_net (T : Txt K mg) : FnG P w K mg base 1 T.a_mirrored_net T.d_mirrored_net P_mirrored_net F_mirrored_net := ok_mirrored_net T
theorem G_standard_net (T : Txt K mg) : FnG P w K mg base 1 T.a_standard_net T.d_standard_net P_standard_net F_standard_net := ok_standard_net T
theorem G_law_own_bag (T : Txt K mg) : FnG P w K mg base 1 T.a_law_own_bag T.d_law_own_bag P_law_own_bag F_law_own_bag := ok_law_own_bag T
theorem G_law_draw (T : Txt K mg) : FnG P w K mg base 1 T.a_law_draw T.d_law_draw P_law_draw F_law_draw := ok_law_draw T
theorem G_law_pick (T : Txt K mg) : FnG P w K mg base 2 T.a_law_pick T.d_law_pick P_law_pick F_law_pick := ok_law_pick T (G_law_draw T)
theorem G_law_pair (T : Txt K mg) : FnG P w K mg base 2 T.a_law_pair T.d_law_pair P_law_pair F_law_pair := ok_law_pair T (G_law_draw T)
theorem G_law_great (T : Txt K mg) : FnG P w K mg base 2 T.a_law_great T.d_law_great P_law_great F_law_great := ok_law_great T (G_law_draw T)
theorem G_law_row (T : Txt K mg) : FnG P w K mg base 3 T.a_law_row T.d_law_row P_law_row F_law_row := ok_law_row T (G_law_draw T) (G_law_great T) (G_law_pick T)
theorem G_law_made (T : Txt K mg) : FnG P w K mg base 1 T.a_law_made T.d_law_made P_law_made F_law_made := ok_law_made T
theorem G_law_wires (T : Txt K mg) : FnG P w K mg base 2 T.a_law_wires T.d_law_wires P_law_wires F_law_wires := ok_law_wires T (G_law_draw T)
theorem G_law_sorting (T : Txt K mg) : FnG P w K mg base 3 T.a_law_sorting T.d_law_sorting P_law_sorting F_law_sorting := ok_law_sorting T (G_law_draw T) (G_law_wires T)
theorem G_law_net (T : Txt K mg) : FnG P w K mg base 3 T.a_law_net T.d_law_net P_law_net F_law_net := ok_law_net T (G_law_draw T) (G_law_pair T)
theorem G_law_some_net (T : Txt K mg) : FnG P w K mg base 4 T.a_law_some_net T.d_law_some_net P_law_some_net F_law_some_net := ok_law_some_net T (G_law_net T) (G_law_draw T) (G_law_pick T) (G_law_sorting T)
theorem G_law_standard (T : Txt K mg) : FnG P w K mg base 1 T.a_law_standard T.d_law_standard P_law_standard F_law_standard := ok_law_standard T
theorem G_law_failing (T : Txt K mg) : FnG P w K mg base 1 T.a_law_failing T.d_law_failing P_law_failing F_law_failing := ok_law_failing T
theorem G_law_does_go (T : Txt K mg) : FnG P w K mg base 3 T.a_law_does_go T.d_law_does_go P_law_does_go F_law_does_go := ok_law_does_go T (G_does_sort_row T) (G_law_made T)
theorem G_law_is_standard_right (T : Txt K mg) : FnG P w K mg base 4 T.a_law_is_standard_right T.d_law_is_standard_right P_law_is_standard_right F_law_is_standard_right := ok_law_is_standard_right T (G_law_does_go T) (G_law_failing T) (G_standard_net T) (G_is_standard T) (G_made_row T) (G_law_made T) (G_law_standard T)
theorem G_law_is_mirror_right (T : Txt K mg) : FnG P w K mg base 4 T.a_law_is_mirror_right T.d_law_is_mirror_right P_law_is_mirror_right F_law_is_mirror_right := ok_law_is_mirror_right T (G_law_does_go T) (G_law_failing T) (G_made_row T) (G_mirrored_net T) (G_law_made T)
theorem G_law_is_renamed_right (T : Txt K mg) : FnG P w K mg base 2 T.a_law_is_renamed_right T.d_law_is_renamed_right P_law_is_renamed_right F_law_is_renamed_right := ok_law_is_renamed_right T (G_made_row T) (G_renamed_net T) (G_law_made T)
theorem G_law_are_all_right (T : Txt K mg) : FnG P w K mg base 5 T.a_law_are_all_right T.d_law_are_all_right P_law_are_all_right F_law_are_all_right := ok_law_are_all_right T (G_law_is_renamed_right T) (G_law_is_mirror_right T) (G_law_is_standard_right T) (G_law_wires T) (G_law_row T)
theorem G_law_are_great_right (T : Txt K mg) : FnG P w K mg base 6 T.a_law_are_great_right T.d_law_are_great_right P_law_are_great_right F_law_are_great_right := ok_law_are_great_right T (G_law_are_all_right T) (G_joined_nets T) (G_law_net T) (G_law_draw T)
theorem G_law (T : Txt K mg) : FnG P w K mg base 7 T.a_law T.d_law P_law F_law := ok_law T (G_law_are_great_right T) (G_law_draw T) (G_law_are_all_right T) (G_law_sorting T) (G_law_pick T) (G_law_some_net T) (G_law_own_bag T)
theorem chain (T : Txt K mg) : FnG P w K mg base 7 T.a_law T.d_law P_law F_law := G_law T
end K03

namespace K03
open PySem Vq
theorem inRng_small {i : Int} (h0 : -1000000 ≤ i) (h1 : i ≤ 1000000) : inRng i = true := by
  unfold inRng
  exact decide_eq_true (by omega)
theorem divOk_small {i : Int} (h0 : 1 ≤ i) (h1 : i ≤ 1000000000) : divOk i = true := by
  unfold divOk
  simp
  left
  omega
theorem mul_sm {x y : Int} (h0 : -1000000 ≤ y) (h1 : y ≤ 1000000) : mulOk x y = true := by
  unfold mulOk
  have : decide (-(2 ^ 64) < y ∧ y < 2 ^ 64) = true := decide_eq_true (by omega)
  rw [this]
  simp
theorem mul_ms {x y : Int} (h0 : -10000000000 ≤ x) (h1 : x ≤ 10000000000) : mulOk x y = true := by
  unfold mulOk
  have : decide (-(2 ^ 64) < x ∧ x < 2 ^ 64) = true := decide_eq_true (by omega)
  rw [this]
  simp
/-! ### the bag -/
theorem d_s3 {h : VH} {b c : Nat} (q : Hb b c h) (n : Int) : ∃ B h', S3_law_draw [some (.ref b), some (.int n), none] h = .ok (.nx, [some (.ref b), some (.int n), none], h') ∧ IsBag h' b c B ∧ Keep b c h h' := by
  obtain ⟨B, q⟩ := q
  by_cases hm : B.m = 0
  · have z := dNe_L (h := h ++ [.lst []]) (n := c) (m := h.length) (a := B.rc.reverse) (b := []) (q.app _).lkc (by simp)
    have q1 := q.app [.lst []]
    cases hr : B.rc with
    | nil =>
      refine ⟨B, h ++ [.lst []], ?_, q1, .app (.refl ⟨B, q⟩) _⟩
      simp -implicitDefEqProofs [S3_law_draw, q.lkb, L2.atI, L2.ixN, hm, z, hr]
    | cons a r =>
      have hl : r.length ≤ 63 := by
        have := B.hl
        rw [hr] at this
        exact Nat.le_of_succ_le this
      have q2 : IsBag (putBag (h ++ [.lst []]) b c ⟨r, B.m, B.x, hl⟩) b c ⟨r, B.m, B.x, hl⟩ := q1.put _
      have st := q2.set1 a
      simp only [put_put q.ne] at st
      have pp := q1.pop hr hl
      refine ⟨⟨r, a, B.x, hl⟩, putBag (h ++ [.lst []]) b c ⟨r, a, B.x, hl⟩, ?_, q1.put _, ?_⟩
      · have lk2 := q2.lkb
        have ty := q1.tyc
        have lk1 := q1.lkb
        simp only [hm] at st
        simp -implicitDefEqProofs [S3_law_draw, q.lkb, lk1, L2.atI, L2.ixN, hm, z, hr, pp, st, ty]
      · have k := Keep.put q1 ⟨r, a, B.x, hl⟩ []
        rw [List.append_nil] at k
        exact (Hb.keep ⟨B, q⟩ _).trans k
  · refine ⟨B, h, ?_, q, .refl ⟨B, q⟩⟩
    simp -implicitDefEqProofs [S3_law_draw, q.lkb, L2.atI, L2.ixN, hm]
theorem s_draw {h : VH} {b c : Nat} (q : Hb b c h) {n : Int} (hn : 0 < n) (hd : n ≤ 1000000000) : ∃ d h', F_law_draw [.ref b, .int n] h = .ok (.int d, h') ∧ 0 ≤ d ∧ d < n ∧ Keep b c h h' := by
  obtain ⟨B, h1, e1, q1, k1⟩ := d_s3 q n
  have hdv := divOk_small hn hd
  have h0 : n ≠ 0 := by omega
  by_cases hp : 0 < B.m
  · have st := q1.set1 (B.m.fdiv n)
    have k2 := Keep.put q1 ⟨B.rc, B.m.fdiv n, B.x, B.hl⟩ []
    rw [List.append_nil] at k2
    have e2 : S2_law_draw [some (.ref b), some (.int n), none] h1 = .ok (.rt (.int (B.m.fmod n)), [some (.ref b), some (.int n), some (.int (B.m.fmod n))], putBag h1 b c ⟨B.rc, B.m.fdiv n, B.x, B.hl⟩) := by
      simp -implicitDefEqProofs [S2_law_draw, q1.lkb, L2.atI, L2.ixN, hp, aMod_i h0, aFdv_i hdv, st]
    refine ⟨B.m.fmod n, _, mF_rt (s' := [some (.ref b), some (.int n), some (.int (B.m.fmod n))]) ?_, Int.fmod_nonneg_of_pos _ hn, Int.fmod_lt_of_pos _ hn, k1.trans k2⟩
    show m_law_draw [some (.ref b), some (.int n), none] h = _
    unfold m_law_draw
    rw [seq_nx e1, seq_rt e2]
  · have e2 : S2_law_draw [some (.ref b), some (.int n), none] h1 = .ok (.nx, [some (.ref b), some (.int n), none], h1) := by
      simp -implicitDefEqProofs [S2_law_draw, q1.lkb, L2.atI, L2.ixN, hp]
    have hx : mulOk B.x 48271 = true := mul_sm (by decide) (by decide)
    obtain ⟨y, hy⟩ : ∃ y, y = (B.x * 48271 + 29).fmod 2147483647 := ⟨_, rfl⟩
    have y1 : 0 ≤ y ∧ y < 2147483647 := by
      rw [hy]
      exact ⟨Int.fmod_nonneg_of_pos _ (by decide), Int.fmod_lt_of_pos _ (by decide)⟩
    have st := q1.set2 y
    have e3 : S1_law_draw [some (.ref b), some (.int n), none] h1 = .ok (.nx, [some (.ref b), some (.int n), none], putBag h1 b c ⟨B.rc, B.m, y, B.hl⟩) := by
      have z : (2147483647 : Int) ≠ 0 := by decide
      simp -implicitDefEqProofs [S1_law_draw, q1.lkb, L2.atI, L2.ixN, dMul_i hx, aMod_i z, ← hy, st]
    have k2 := Keep.put q1 ⟨B.rc, B.m, y, B.hl⟩ []
    rw [List.append_nil] at k2
    have q2 := q1.put ⟨B.rc, B.m, y, B.hl⟩
    have lk2 : lk (putBag h1 b c ⟨B.rc, B.m, y, B.hl⟩) b = some [.ref c, .int B.m, .int y] := q2.lkb
    have hyy : mulOk y y = true := mul_ms (by omega) (by omega)
    have d11 : divOk 11 = true := by decide
    have z : (2147483629 : Int) ≠ 0 := by decide
    refine ⟨(((y * y).fmod 2147483629).fdiv 11).fmod n, _, mF_rt (s' := [some (.ref b), some (.int n), none]) ?_, Int.fmod_nonneg_of_pos _ hn, Int.fmod_lt_of_pos _ hn, k1.trans k2⟩
    show m_law_draw [some (.ref b), some (.int n), none] h = _
    unfold m_law_draw
    rw [seq_nx e1, seq_nx e2, seq_nx e3]
    simp -implicitDefEqProofs [lk2, L2.atI, L2.ixN, dMul_i hyy, aMod_i z, aFdv_i d11, aMod_i h0]
theorem s_pick {h : VH} {b c n : Nat} (q : Hb b c h) {l : List D} (e : lk h n = some l) (hb : n ≠ b) (hc : n ≠ c) (h0 : l ≠ []) (hs : l.length ≤ 1000000000) : ∃ d h', F_law_pick [.ref b, .ref n] h = .ok (d, h') ∧ d ∈ l ∧ Keep b c h h' := by
  have hp : 0 < l.length := List.length_pos_iff.mpr h0
  obtain ⟨i, h', e1, h1, h2, k⟩ := s_draw q (n := l.length) (by omega) (by omega)
  have e2 : lk h' n = some l := k.cells hb hc e
  have hlt : i.toNat < l.length := by omega
  have ia : L2.atI l i = some (l[i.toNat]'hlt) := atI_nn h1 hlt
  refine ⟨l[i.toNat]'hlt, h', mF_rt (s' := [some (.ref b), some (.ref n)]) ?_, List.getElem_mem _, k⟩
  simp -implicitDefEqProofs [m_law_pick, e, e1, e2, ia]
theorem s_pickL {h : VH} {b c : Nat} (q : Hb b c h) (l : List D) (h0 : l ≠ []) (hs : l.length ≤ 1000000) : ∃ d h', F_law_pick [.ref b, .ref h.length] (h ++ [.lst l]) = .ok (d, h') ∧ d ∈ l ∧ Keep b c h h' := by
  obtain ⟨d, h', e, hd, k⟩ := s_pick (q.app [.lst l]) (lk_at h l []) (by have := q.b_lt; omega) (by have := q.c_lt; omega) h0 (by omega)
  exact ⟨d, h', e, hd, (q.keep _).trans k⟩
/-- a pair of two wires -/
theorem s_pair {h : VH} {b c : Nat} (q : Hb b c h) {n : Int} (hn : 2 ≤ n) (hd : n ≤ 1000000) : ∃ i j h', F_law_pair [.ref b, .int n] h = .ok (.tup [.int i, .int j], h') ∧ 0 ≤ i ∧ i < n ∧ 0 ≤ j ∧ j < n ∧ i ≠ j ∧ Keep b c h h' := by
  obtain ⟨i, h1, e1, i0, i1, k1⟩ := s_draw q (n := n) (by omega) (by omega)
  obtain ⟨d, h2, e2, d0, d1, k2⟩ := s_draw k1.bag (n := n - 1) (by omega) (by omega)
  have h0 : n ≠ 0 := by omega
  have jf : (i + 1 + d).fmod n = if i + 1 + d < n then i + 1 + d else i + 1 + d - n := by
    split
    · exact Int.fmod_eq_of_lt (by omega) (by omega)
    · have e : i + 1 + d = (i + 1 + d - n) + n * 1 := by omega
      rw [e, Int.add_mul_fmod_self_left, Int.fmod_eq_of_lt (by omega) (by omega)]
      omega
  refine ⟨i, (i + 1 + d).fmod n, h2, mF_rt (s' := [some (.ref b), some (.int n), some (.int i)]) ?_, i0, i1, by rw [jf]; split <;> omega, by rw [jf]; split <;> omega, by rw [jf]; split <;> omega, k1.trans k2⟩
  simp -implicitDefEqProofs [m_law_pair, e1, e2, aMod_i h0]
end K03

namespace K03
open PySem Vq
def encI (i : Int) : Int := if 0 ≤ i then i * 2 else 1 - i * 2
def encL (ns : List Int) : List Int := ns.map encI
def V3 (ns : List Int) : VH := [.ro (ns.map .int), .lst (ns.map .int), .lst ((encL ns).map .int)]
def keepL (ns : List Int) : List Int := ((encL ns).reverse.filter fun y => decide (2000000000 < y)).map fun y => y.fdiv 2
theorem pow109 : powOk 10 9 = true := by decide +kernel
theorem aPow9 (h : VH) : aPow (.int 10) (.int 9) h = some (.int 1000000000, h) := by
  rw [aPow_i pow109]
  rfl
theorem s_own_bag (ns : List Int) (hn : ns.length ≤ 63) : ∃ b c h', F_law_own_bag [.ref 0] (scriptH ns) = .ok (.ref b, h') ∧ Hb b c h' := by
  have cut : cutD (ns.map D.int) none (some 63) = ns.map .int := by
    have e : HT.sIx ns.length ns.length (some 63) = ns.length := by
      show (if (63 : Int) < 0 then ((63 : Int) + (ns.length : Int)).toNat else min (63 : Int).toNat ns.length) = _
      rw [if_neg (by decide)]
      exact Nat.min_eq_right hn
    have e0 : HT.sIx ns.length 0 none = 0 := rfl
    unfold cutD
    simp only [List.length_map, e, e0, Nat.sub_zero, List.drop_zero]
    exact List.take_of_length_le (by simp)
  have sl : slD (.ref 0) none (some 63) (scriptH ns) = some (.ref 1, [.ro (ns.map .int), .lst (ns.map .int)]) := by
    show some (D.ref 1, scriptH ns ++ [.lst (cutD (ns.map D.int) none (some 63))]) = _
    rw [cut]
    rfl
  have m2 : ∀ x : Int, mulOk x 2 = true := fun x => mul_sm (by decide) (by decide)
  have c2 : C2_law_own_bag [some (.ref 0), none, none, none] (scriptH ns) = .ok (.ref 2, V3 ns) := by
    unfold C2_law_own_bag
    rw [lc_lst (n := 1) (h1 := [.ro (ns.map .int), .lst (ns.map .int)]) (ys := ns) (c := .int) (fun _ => true) (fun i => .int (encI i)) (by simp [sl]) (by rfl) (by omega) (by
      intro i hi acc
      refine ⟨_, rfl, rfl, fun _ => ?_⟩
      by_cases h0 : 0 ≤ i <;> simp -implicitDefEqProofs [E2_law_own_bag, vwipe, h0, dMul_i (m2 _), encI])]
    simp only [V3, encL, List.filter_eq_self.mpr (fun _ _ => rfl), List.map_map]
    rfl
  have l2 : lk (V3 ns) 2 = some ((encL ns).map .int) := rfl
  have al : (encL ns).length = ns.length := by simp [encL]
  have z1 : (2147483629 : Int) ≠ 0 := by decide
  have z2 : (2147483647 : Int) ≠ 0 := by decide
  obtain ⟨m0, hm0⟩ : ∃ m : Int, m = 918273 + 31 * (ns.length : Int) := ⟨_, rfl⟩
  obtain ⟨s', h', e1, ⟨x, d, e2, e3⟩⟩ := for_all (it := vIt (vVar 1)) (g := gP (pN 3)) (body := B1_law_own_bag) (s := [some (.ref 0), some (.ref 2), some (.int m0), none]) (h := V3 ns) (h1 := V3 ns) (src := fun h => lk h 2) (xs := (encL ns).map .int)
    (fun _ s h => ∃ x d, s = [some (.ref 0), some (.ref 2), some (.int x), d] ∧ h = V3 ns) (by simp) (by rintro i s h ⟨x, d, rfl, rfl⟩; exact l2) ⟨_, _, rfl, rfl⟩ (by
      rintro i d s h ed ⟨x, d', rfl, rfl⟩
      have hm := List.mem_of_getElem? ed
      obtain ⟨a, _, rfl⟩ := List.mem_map.mp hm
      refine ⟨[some (.ref 0), some (.ref 2), some (.int ((x * 69621 + a.fmod 2147483629 + 17).fmod 2147483647)), some (.int a)], V3 ns, .inl ?_, ⟨_, _, rfl, rfl⟩⟩
      have hx : mulOk x 69621 = true := mul_sm (by decide) (by decide)
      rw [turn_N]
      simp -implicitDefEqProofs [B1_law_own_bag, dMul_i hx, aMod_i z1, aMod_i z2])
  subst e2 e3
  have e1 : L1_law_own_bag [some (.ref 0), some (.ref 2), some (.int m0), none] (V3 ns) = .ok (.nx, [some (.ref 0), some (.ref 2), some (.int x), d], V3 ns) := e1
  obtain ⟨h3, e4⟩ : ∃ h3, h3 = V3 ns ++ [.lst ((encL ns).map .int)] := ⟨_, rfl⟩
  have l3 : lk h3 3 = some ((encL ns).map .int) := by rw [e4]; rfl
  have n3 : (V3 ns).length = 3 := rfl
  have n4 : h3.length = 4 := by rw [e4]; rfl
  have mm : mulOk 2 1000000000 = true := by decide +kernel
  have d2 : divOk 2 = true := by decide
  have c1 : C1_law_own_bag [some (.ref 0), some (.ref 2), some (.int x), d] (V3 ns) = .ok (.ref 4, h3 ++ [.lst ((keepL ns).map .int)]) := by
    unfold C1_law_own_bag
    rw [lc_pure (h1 := h3) (ys := (encL ns).reverse) (c := .int) (src := fun h => (lk h 3).bind fun l => if l.length = ((encL ns).map D.int).length then some l.reverse else none) (fun y => decide (2000000000 < y)) (fun y => .int (y.fdiv 2))
      (by simp -implicitDefEqProofs [vRev, l2, revOf, n3, ← e4, l3]) (fun acc => by simp [lk_app l3]) (le_line (by simp; omega)) (by
      intro y hy acc
      refine ⟨_, rfl, ?_, fun _ => ?_⟩
      · simp -implicitDefEqProofs [T1_law_own_bag, vwipe, aPow9, dMul_i mm]
      · simp -implicitDefEqProofs [E1_law_own_bag, vwipe, aFdv_i d2])]
    simp only [n4, keepL, List.map_map]
    rfl
  have kl : (keepL ns).length ≤ 63 := by
    unfold keepL
    rw [List.length_map]
    refine Nat.le_trans (List.length_filter_le _ _) ?_
    rw [List.length_reverse, al]
    exact hn
  obtain ⟨h5, e5⟩ : ∃ h5, h5 = h3 ++ [.lst ((keepL ns).map .int)] := ⟨_, rfl⟩
  rw [← e5] at c1
  have n5 : h5.length = 5 := by rw [e5, List.length_append, n4]; rfl
  have m31 : mulOk 31 (ns.length : Int) = true := mul_sm (by omega) (by omega)
  refine ⟨5, 4, h5 ++ [.lst [.ref 4, .int 0, .int x]], mF_rt (s' := [some (.ref 0), some (.ref 2), some (.int x), d]) ?_, ⟨⟨(keepL ns).reverse, 0, x, by rw [List.length_reverse]; exact kl⟩, ?_, ?_, by decide⟩⟩
  · rw [hm0] at e1
    simp -implicitDefEqProofs [m_law_own_bag, c2, l2, al, dMul_i m31, e1, c1, n5]
  · rw [List.getElem?_append_right (by omega), n5]
    rfl
  · rw [List.getElem?_append_left (by omega), e5, List.getElem?_append_right (by omega), n4]
    simp [Bag.cells]
/-! ### great numbers -/
theorem pow107 : powOk 10 7 = true := by decide +kernel
theorem aPow7 (h : VH) : aPow (.int 10) (.int 7) h = some (.int 10000000, h) := by
  rw [aPow_i pow107]
  rfl
theorem pow1030 : powOk 10 30 = true := by decide +kernel
def E30 : Int := 1000000000000000000000000000000
theorem aPow30 (h : VH) : aPow (.int 10) (.int 30) h = some (.int E30, h) := by
  rw [aPow_i pow1030]
  rfl
theorem s_great {h : VH} {b c : Nat} (q : Hb b c h) : ∃ i h', F_law_great [.ref b] h = .ok (.int i, h') ∧ -E30 ≤ i ∧ i ≤ E30 ∧ Keep b c h h' := by
  have hit : (vRng1 (vCons (vC (.int 5)) vNil)) [some (.ref b), some (.int 0), none] h = .ok (fun _ => some (rangeD 0 1 (5 : Int).toNat), h) := vRng1_of rfl (by decide)
  obtain ⟨s', h1, el, ⟨f, x, rfl⟩, kk⟩ := for_all (g := gP (pN 2)) (body := B1_law_great F_law_draw) (fun i s h' => (∃ f x, s = [some (.ref b), some (.int f), x]) ∧ Keep b c h h') hit (fun _ _ _ _ => rfl) ⟨⟨0, none, rfl⟩, .refl q⟩ (by
      rintro i d s h' ed ⟨⟨f, x, rfl⟩, kk⟩
      obtain ⟨e, h2, eb, h4, h5, k5⟩ := s_draw kk.bag (n := 10000000) (by decide) (by decide)
      have hm : mulOk f 10000000 = true := by
        unfold mulOk
        simp
      refine ⟨[some (.ref b), some (.int (f * 10000000 + e)), some d], h2, .inl ?_, ⟨_, _, rfl⟩, kk.trans k5⟩
      rw [turn_N]
      simp -implicitDefEqProofs [B1_law_great, aPow7, dMul_i hm, eb])
  have el : L1_law_great F_law_draw [some (.ref b), some (.int 0), none] h = _ := el
  have m2 : mulOk 2 E30 = true := by decide +kernel
  have z : 2 * E30 + 1 ≠ 0 := by decide +kernel
  have zp : 0 < 2 * E30 + 1 := by decide +kernel
  have r0 := Int.fmod_nonneg_of_pos f zp
  have r1 := Int.fmod_lt_of_pos f zp
  refine ⟨f.fmod (2 * E30 + 1) - E30, h1, mF_rt (s' := [some (.ref b), some (.int f), x]) ?_, by omega, by omega, kk⟩
  simp -implicitDefEqProofs [m_law_great, el, aPow30, dMul_i m2, aMod_i z]
end K03

namespace K03
open PySem Vq
/-- a row's numbers -/
structure Lim (row : List Int) : Prop where
  lim : ∀ x ∈ row, -E30 ≤ x ∧ x ≤ E30
theorem E30_ge : (1000000000000 : Int) ≤ E30 := by decide +kernel
theorem Lim.snoc {row : List Int} (x : Lim row) {v : Int} (h : -E30 ≤ v ∧ v ≤ E30) : Lim (row ++ [v]) := ⟨fun y hy => by
  rcases List.mem_append.mp hy with q | q
  · exact x.lim y q
  · rw [List.mem_singleton.mp q]
    exact h⟩
theorem Lim.perm {a b : List Int} (x : Lim a) (p : b.Perm a) : Lim b := ⟨fun y hy => x.lim y (p.mem_iff.mp hy)⟩
theorem Lim.sub {a b : List Int} (x : Lim a) (p : ∀ y ∈ b, y ∈ a) : Lim b := ⟨fun y hy => x.lim y (p y hy)⟩
theorem erase_map : ∀ (l : List Int) (i : Nat), (l.map D.int).eraseIdx i = (l.eraseIdx i).map .int
  | [], _ => by simp
  | a :: r, 0 => by simp
  | a :: r, i + 1 => by simp [erase_map r i]
abbrev RF {α : Type} (f : Fn → Fn → Fn → α) : α := f F_law_draw F_law_great F_law_pick
/-- what the loop of _law_row keeps -/
structure RowInv (h0 : VH) (b c m : Nat) (kind : Int) (n k : Nat) (h : VH) : Prop where
  keep : Keep b c h0 h
  items : ∃ row : List Int, h[m]? = some (.lst (row.map .int)) ∧ row.length = k ∧ Lim row
  rest : ∃ r : List Int, h[m + 1]? = some (.lst (r.map .int)) ∧ (kind = 4 → r.length + k = n) ∧ ∀ x ∈ r, 0 ≤ x ∧ x ≤ 1000
theorem row_put {h0 h h' : VH} {b c m : Nat} {kind : Int} {n k : Nat} (q0 : Hb b c h0) (hm : h0.length ≤ m) (i : RowInv h0 b c m kind n k h) (hk : kind ≠ 4) (kk : Keep b c h h') {v : Int} (hv : -E30 ≤ v ∧ v ≤ E30) (hn : k < 1000) :
    ∃ h2, mAppend (.ref m) [.int v] h' = some (.non, h2) ∧ RowInv h0 b c m kind n (k + 1) h2 := by
  obtain ⟨row, e1, e2, e3⟩ := i.items
  obtain ⟨r, g1, g2, g3⟩ := i.rest
  have hb := q0.b_lt
  have hc := q0.c_lt
  have e1' := Keep.cell q0 hm kk e1
  have g1' := Keep.cell q0 (Nat.le_succ_of_le hm) kk g1
  refine ⟨_, mAppend_of e1' (by simp; omega), (i.keep.trans kk).set hm (by omega) (by omega), ⟨row ++ [v], ?_, by simp [e2], e3.snoc hv⟩, ⟨r, ?_, fun z => absurd z hk, g3⟩⟩
  · rw [set_get e1']
    simp
  · rw [List.getElem?_set_ne (by omega)]
    exact g1'
theorem row_body {h0 h : VH} {b c m : Nat} {kind : Int} {n k : Nat} (q0 : Hb b c h0) (hm : h0.length ≤ m) (i : RowInv h0 b c m kind n k h) (hn : n ≤ 1000) (hk : k < n) (w : Option D) :
    ∃ h', RF B1_law_row [some (.ref b), some (.int n), some (.int kind), some (.ref m), some (.ref (m + 1)), w] h = .ok (.nx, [some (.ref b), some (.int n), some (.int kind), some (.ref m), some (.ref (m + 1)), w], h') ∧ RowInv h0 b c m kind n (k + 1) h' := by
  have eg := E30_ge
  obtain ⟨row, e1, e2, e3⟩ := id i.items
  have ty := tyL_of (lk_of e1)
  by_cases c0 : kind = 0
  · obtain ⟨d, h1, ed, d0, d1, k1⟩ := s_draw i.keep.bag (n := 2) (by decide) (by decide)
    obtain ⟨h2, ea, j⟩ := row_put q0 hm i (by omega) k1 (v := d) (by omega) (by omega)
    refine ⟨h2, ?_, j⟩
    simp -implicitDefEqProofs [RF, B1_law_row, c0, ty, ed, ea]
  by_cases c1 : kind = 1
  · obtain ⟨d, h1, ed, d0, d1, k1⟩ := s_draw i.keep.bag (n := 5) (by decide) (by decide)
    obtain ⟨h2, ea, j⟩ := row_put q0 hm i (by omega) k1 (v := d - 2) (by omega) (by omega)
    refine ⟨h2, ?_, j⟩
    simp -implicitDefEqProofs [RF, B1_law_row, c1, ty, ed, ea]
  by_cases c2 : kind = 2
  · obtain ⟨d, h1, ed, d0, d1, k1⟩ := s_great i.keep.bag
    obtain ⟨h2, ea, j⟩ := row_put q0 hm i (by omega) k1 (v := d) (by omega) (by omega)
    refine ⟨h2, ?_, j⟩
    simp -implicitDefEqProofs [RF, B1_law_row, c2, ty, ed, ea]
  by_cases c3 : kind = 3
  · obtain ⟨d, h1, ed, hd, k1⟩ := s_pickL i.keep.bag [.int E30, .int (-E30), .int (E30 - 1), .int (1 - E30), .int 0, .int (2 - E30)] (by simp) (by simp)
    have : ∃ v, d = .int v ∧ -E30 ≤ v ∧ v ≤ E30 := by
      simp at hd
      rcases hd with rfl | rfl | rfl | rfl | rfl | rfl <;> exact ⟨_, rfl, by omega, by omega⟩
    obtain ⟨v, rfl, hv⟩ := this
    obtain ⟨h2, ea, j⟩ := row_put q0 hm i (by omega) k1 hv (by omega)
    refine ⟨h2, ?_, j⟩
    simp -implicitDefEqProofs [RF, B1_law_row, c3, ty, aPow30, ed, ea]
  by_cases c4 : kind = 4
  · obtain ⟨r, g1, g2, g3⟩ := id i.rest
    have hb := q0.b_lt
    have hc := q0.c_lt
    have hr := g2 c4
    have lkr := lk_of g1
    have tyr := tyL_of lkr
    obtain ⟨d, h1, ed, d0, d1, k1⟩ := s_draw i.keep.bag (n := r.length) (by omega) (by omega)
    have e1' := Keep.cell q0 hm k1 e1
    have g1' := Keep.cell q0 (Nat.le_succ_of_le hm) k1 g1
    have hlt : d.toNat < r.length := by omega
    have pp := mPopI_of (i := d) (d := .int r[d.toNat]) g1' d0 (by omega) (by simp [hlt])
    have hv := g3 r[d.toNat] (List.getElem_mem _)
    have e1s : (h1.set (m + 1) (.lst ((r.map D.int).eraseIdx d.toNat)))[m]? = some (.lst (row.map .int)) := by
      rw [List.getElem?_set_ne (by omega)]
      exact e1'
    have ap := mAppend_of (d := .int r[d.toNat]) e1s (by simp; omega)
    obtain ⟨h2, eh2⟩ : ∃ h2, h2 = h1.set (m + 1) (.lst ((r.map D.int).eraseIdx d.toNat)) := ⟨_, rfl⟩
    have k2 : Keep b c h0 h2 := by
      rw [eh2]
      exact (i.keep.trans k1).set (Nat.le_succ_of_le hm) (by omega) (by omega)
    have g2' : h2[m + 1]? = some (.lst ((r.map D.int).eraseIdx d.toNat)) := by
      rw [eh2]
      exact set_get g1'
    rw [← eh2] at e1s ap
    have pp : mPopI (.ref (m + 1)) [.int d] h1 = some (.int r[d.toNat], h2) := by
      rw [eh2]
      exact pp
    refine ⟨h2.set m (.lst (row.map D.int ++ [.int r[d.toNat]])), ?_, k2.set hm (by omega) (by omega), ⟨row ++ [r[d.toNat]], ?_, by simp [e2], e3.snoc (by omega)⟩, ⟨r.eraseIdx d.toNat, ?_, fun _ => ?_, fun x hx => g3 x (List.mem_of_mem_eraseIdx hx)⟩⟩
    · simp -implicitDefEqProofs [RF, B1_law_row, c4, ty, tyr, lkr, ed, pp, ap]
    · rw [set_get e1s]
      simp
    · rw [List.getElem?_set_ne (by omega), g2']
      rw [erase_map]
    · rw [List.length_eraseIdx_of_lt hlt]
      omega
  · obtain ⟨d, h1, ed, d0, d1, k1⟩ := s_draw i.keep.bag (n := 40) (by decide) (by decide)
    obtain ⟨h2, ea, j⟩ := row_put q0 hm i c4 k1 (v := d - 20) (by omega) (by omega)
    refine ⟨h2, ?_, j⟩
    simp -implicitDefEqProofs [RF, B1_law_row, c0, c1, c2, c3, c4, ty, ed, ea]
theorem row_loop {h0 h : VH} {b c m : Nat} {kind : Int} {n : Nat} (q0 : Hb b c h0) (hm : h0.length ≤ m) (i : RowInv h0 b c m kind n 0 h) (hn : n ≤ 1000) :
    ∃ w h', RF L1_law_row [some (.ref b), some (.int n), some (.int kind), some (.ref m), some (.ref (m + 1)), none] h = .ok (.nx, [some (.ref b), some (.int n), some (.int kind), some (.ref m), some (.ref (m + 1)), w], h') ∧ RowInv h0 b c m kind n n h' := by
  have hit : (vRng1 (vCons (vVar 1) vNil)) [some (.ref b), some (.int n), some (.int kind), some (.ref m), some (.ref (m + 1)), none] h = .ok (fun _ => some (rangeD 0 1 (n : Int).toNat), h) :=
    vRng1_of (by simp) (inRng_small (by omega) (by omega))
  obtain ⟨s', h', e, ⟨w, rfl⟩, j⟩ := for_all (g := gP (pN 5)) (body := RF B1_law_row) (fun k s h => (∃ w, s = [some (.ref b), some (.int n), some (.int kind), some (.ref m), some (.ref (m + 1)), w]) ∧ RowInv h0 b c m kind n k h) hit (fun _ _ _ _ => rfl) ⟨⟨_, rfl⟩, i⟩ (by
    rintro k d s h ed ⟨⟨w, rfl⟩, i⟩
    have hk : k < n := by
      have := (List.getElem?_eq_some_iff.mp ed).1
      simpa using this
    obtain ⟨h', e, j⟩ := row_body q0 hm i hn hk (some d)
    exact ⟨_, h', .inl (by rw [turn_N]; exact e), ⟨_, rfl⟩, j⟩)
  rw [show (rangeD 0 1 (n : Int).toNat).length = n by simp] at j
  exact ⟨w, h', e, j⟩
def tupI (l : List Int) : D := .tup (l.map .int)
theorem s_row {h : VH} {b c : Nat} (q : Hb b c h) {n : Nat} (hn : n ≤ 1000) : ∃ row h', F_law_row [.ref b, .int n] h = .ok (tupI row, h') ∧ row.length = n ∧ Lim row ∧ Keep b c h h' := by
  obtain ⟨kind, h1, e1, k0, k7, q1⟩ := s_draw q (n := 7) (by decide) (by decide)
  have hle := q1.le
  have rg : rgB 0 n = true := by
    unfold rgB inRng
    simp
    omega
  have e3 : RF S3_law_row [some (.ref b), some (.int n), none, none, none, none] h = .ok (.nx, [some (.ref b), some (.int n), some (.int kind), some (.ref h1.length), some (.ref (h1.length + 1)), none], h1 ++ [.lst []] ++ [.lst (rangeD 0 1 n)]) := by
    simp -implicitDefEqProofs [RF, S3_law_row, e1, vLR1, rg]
  have inv0 : RowInv h b c h1.length kind n 0 (h1 ++ [.lst []] ++ [.lst (rangeD 0 1 n)]) := by
    refine ⟨(q1.app _).app _, ⟨[], by simp, rfl, ⟨by simp⟩⟩, ⟨(List.range n).map fun (k : Nat) => (k : Int), ?_, fun _ => by simp, fun x hx => ?_⟩⟩
    · rw [List.getElem?_append_right (by simp)]
      simp only [rangeD_one, List.map_map]
      simp
    · obtain ⟨k, hk, rfl⟩ := List.mem_map.mp hx
      have := List.mem_range.mp hk
      omega
  obtain ⟨w, h2, e4, inv⟩ := row_loop q hle inv0 hn
  obtain ⟨row, g1, g2, g3⟩ := inv.items
  have lk1 := lk_of g1
  unfold F_law_row
  -- sorted or not
  have s2 : ∃ m row' h3, RF S2_law_row [some (.ref b), some (.int n), some (.int kind), some (.ref h1.length), some (.ref (h1.length + 1)), w] h2 = .ok (.nx, [some (.ref b), some (.int n), some (.int kind), some (.ref m), some (.ref (h1.length + 1)), w], h3) ∧ h3[m]? = some (.lst (row'.map .int)) ∧ row'.length = n ∧ Lim row' ∧ Keep b c h h3 ∧ h.length ≤ m := by
    by_cases c4 : 4 < kind
    · refine ⟨h2.length, srtI row, h2 ++ [.lst ((srtI row).map .int)], ?_, by simp, by rw [(srtI_perm row).length_eq, g2], g3.perm (srtI_perm row), inv.keep.app _, inv.keep.le⟩
      have sb := bSorted_I lk1
      generalize srtI row = l at *
      simp -implicitDefEqProofs [RF, S2_law_row, c4, sb]
    · refine ⟨h1.length, row, h2, ?_, g1, g2, g3, inv.keep, hle⟩
      simp -implicitDefEqProofs [RF, S2_law_row, c4]
  obtain ⟨m, row', h3, e5, r1, r2, r3, r4, r5⟩ := s2
  have lk3 := lk_of r1
  by_cases c6 : kind = 6 ∧ 1 < n
  · obtain ⟨c6, n1⟩ := c6
    subst c6
    have n1' : (1 : Int) < n := by omega
    obtain ⟨v, h4, e6, v0, v1, q4⟩ := s_draw r4.bag (n := (n : Int) - 1) (by omega) (by omega)
    have r1' := Keep.cell q r5 q4 r1
    have lk4 := lk_of r1'
    have hv : v.toNat < row'.length := by omega
    have hv1 : (v + 1).toNat < row'.length := by omega
    have a0 : L2.atI (row'.map D.int) v = some (.int row'[v.toNat]) := by rw [atI_nn v0 (by simpa using hv)]; simp
    have a1 : L2.atI (row'.map D.int) (v + 1) = some (.int row'[(v + 1).toNat]) := by rw [atI_nn (by omega) (by simpa using hv1)]; simp
    have sl1 := slD_to lk4 v0
    obtain ⟨h5, eh5⟩ : ∃ h5, h5 = h4 ++ [.lst ((row'.map D.int).take v.toNat)] := ⟨_, rfl⟩
    rw [← eh5] at sl1
    have lk5 : lk h5 m = some (row'.map .int) := by rw [eh5]; exact lk_app lk4 _
    have c5 : h5[h4.length]? = some (.lst ((row'.map D.int).take v.toNat)) := by rw [eh5]; simp
    obtain ⟨h6, eh6⟩ : ∃ h6, h6 = h5 ++ [.lst [.int row'[(v + 1).toNat], .int row'[v.toNat]]] := ⟨_, rfl⟩
    have ad1 := dAdd_L (h := h6) (n := h4.length) (m := h5.length) (a := (row'.map D.int).take v.toNat) (b := [.int row'[(v + 1).toNat], .int row'[v.toNat]])
      (by rw [eh6, List.getElem?_append_left (lt_of_get c5)]; exact c5) (by rw [eh6]; simp) (by simp; omega)
    obtain ⟨h7, eh7⟩ : ∃ h7, h7 = h6 ++ [.lst ((row'.map D.int).take v.toNat ++ [.int row'[(v + 1).toNat], .int row'[v.toNat]])] := ⟨_, rfl⟩
    rw [← eh7] at ad1
    have lk7 : lk h7 m = some (row'.map .int) := by rw [eh7, eh6]; exact lk_app (lk_app lk5 _) _
    have sl2 := slD_from (i := v + 2) lk7 (by omega)
    obtain ⟨h8, eh8⟩ : ∃ h8, h8 = h7 ++ [.lst ((row'.map D.int).drop (v + 2).toNat)] := ⟨_, rfl⟩
    rw [← eh8] at sl2
    have c7 : h7[h6.length]? = some (.lst ((row'.map D.int).take v.toNat ++ [.int row'[(v + 1).toNat], .int row'[v.toNat]])) := by rw [eh7]; simp
    have ad2 := dAdd_L (h := h8) (n := h6.length) (m := h7.length) (by rw [eh8, List.getElem?_append_left (lt_of_get c7)]; exact c7) (by rw [eh8]; simp; rfl) (by simp; omega)
    obtain ⟨row2, erow2⟩ : ∃ row2, row2 = row'.take v.toNat ++ [row'[(v + 1).toNat], row'[v.toNat]] ++ row'.drop (v + 2).toNat := ⟨_, rfl⟩
    have em : (row'.map D.int).take v.toNat ++ [.int row'[(v + 1).toNat], .int row'[v.toNat]] ++ (row'.map D.int).drop (v + 2).toNat = row2.map .int := by
      rw [erow2]
      simp [List.map_take, List.map_drop]
    rw [em] at ad2
    have lk9 := lk_at h8 (row2.map D.int) []
    refine ⟨row2, h8 ++ [.lst (row2.map .int)], mF_rt (s' := [some (.ref b), some (.int n), some (.int 6), some (.ref m), some (.ref (h1.length + 1)), some (.int v)]) ?_, ?_, r3.sub fun y hy => ?_, ?_⟩
    · show m_law_row _ _ _ [some (.ref b), some (.int n), none, none, none, none] h = _
      unfold m_law_row
      have eS : RF S1_law_row [some (.ref b), some (.int n), some (.int 6), some (.ref m), some (.ref (h1.length + 1)), w] h3 = .ok (.rt (tupI row2), [some (.ref b), some (.int n), some (.int 6), some (.ref m), some (.ref (h1.length + 1)), some (.int v)], h8 ++ [.lst (row2.map .int)]) := by
        simp -implicitDefEqProofs [RF, S1_law_row, n1', e6, sl1, lk5, a0, a1, ← eh6, ad1, sl2, ad2, lk9, tupI]
      rw [seq_nx e3, seq_nx e4, seq_nx e5, seq_rt eS]
    · rw [erow2]
      simp
      omega
    · rw [erow2] at hy
      simp only [List.mem_append, List.mem_cons, List.not_mem_nil, or_false] at hy
      rcases hy with (hy | hy | hy) | hy
      · exact List.mem_of_mem_take hy
      · rw [hy]; exact List.getElem_mem _
      · rw [hy]; exact List.getElem_mem _
      · exact List.mem_of_mem_drop hy
    · rw [eh8, eh7, eh6, eh5]
      exact (((((r4.trans q4).app _).app _).app _).app _).app _
  · have eS : RF S1_law_row [some (.ref b), some (.int n), some (.int kind), some (.ref m), some (.ref (h1.length + 1)), w] h3 = .ok (.nx, [some (.ref b), some (.int n), some (.int kind), some (.ref m), some (.ref (h1.length + 1)), w], h3) := by
      by_cases k6 : kind = 6
      · have n1 : ¬ (1 : Int) < n := by omega
        simp -implicitDefEqProofs [RF, S1_law_row, k6, n1]
      · simp -implicitDefEqProofs [RF, S1_law_row, k6]
    refine ⟨row', h3, mF_rt (s' := [some (.ref b), some (.int n), some (.int kind), some (.ref m), some (.ref (h1.length + 1)), w]) ?_, r2, r3, r4⟩
    show m_law_row _ _ _ [some (.ref b), some (.int n), none, none, none, none] h = _
    unfold m_law_row
    rw [seq_nx e3, seq_nx e4, seq_nx e5, seq_nx eS]
    simp -implicitDefEqProofs [lk3, tupI]
end K03

namespace K03
open PySem Vq
/-! ### runs -/
def netD (l : List (Int × Int)) : D := .tup (l.map pD)
def gt (row : List Int) (i : Nat) : Int := row.getD i 0
theorem atR {row : List Int} {i : Int} (h0 : 0 ≤ i) (hi : i < row.length) : L2.atI (row.map D.int) i = some (.int (gt row i.toNat)) := by
  rw [atI_nn h0 (by simp; omega)]
  have : i.toNat < row.length := by omega
  simp [gt, this]
/-- comparators of n wires -/
def Wires (n : Nat) (net : List (Int × Int)) : Prop := ∀ p ∈ net, 0 ≤ p.1 ∧ p.1 < n ∧ 0 ≤ p.2 ∧ p.2 < n ∧ p.1 ≠ p.2
def made1 (row : List Int) (p : Int × Int) : List Int := if gt row p.2.toNat < gt row p.1.toNat then (row.set p.1.toNat (gt row p.2.toNat)).set p.2.toNat (gt row p.1.toNat) else row
def madeR (net : List (Int × Int)) (row : List Int) : List Int := net.foldl made1 row
theorem made1_len (row : List Int) (p : Int × Int) : (made1 row p).length = row.length := by
  unfold made1
  split <;> simp
theorem madeR_len : ∀ (net : List (Int × Int)) (row : List Int), (madeR net row).length = row.length
  | [], _ => rfl
  | p :: r, row => by
    show (madeR r (made1 row p)).length = _
    rw [madeR_len r, made1_len]
theorem madeR_snoc (net : List (Int × Int)) (p : Int × Int) (row : List Int) : madeR (net ++ [p]) row = made1 (madeR net row) p := by
  unfold madeR
  rw [List.foldl_append]
  rfl
theorem turn_P (i j : Nat) (body : VSt) (p : Int × Int) (s : VS) (h : VH) : turn (gP (pTup 2 (psCons (pN i) (psCons (pN j) psNil)))) body (pD p) s h = body ((s.set i (some (.int p.1))).set j (some (.int p.2))) h := turn_of rfl
theorem get_pD {net : List (Int × Int)} {k : Nat} {d : D} (ed : (net.map pD)[k]? = some d) : ∃ hk : k < net.length, d = pD net[k] := by
  simp only [List.getElem?_map] at ed
  obtain ⟨p, ep, rfl⟩ := Option.map_eq_some_iff.mp ed
  obtain ⟨hk, e⟩ := List.getElem?_eq_some_iff.mp ep
  exact ⟨hk, by rw [e]⟩
theorem cell_at (h : VH) (c : Cell) : (h ++ [c])[h.length]? = some c := by simp
theorem body_made {row : List Int} {p : Int × Int} (h0 : 0 ≤ p.1 ∧ p.1 < row.length ∧ 0 ≤ p.2 ∧ p.2 < row.length ∧ p.1 ≠ p.2) (a b : D) (h : VH) :
    B1_made_row [some a, some b, some (.ref h.length), some (.int p.1), some (.int p.2)] (h ++ [.lst (row.map .int)]) = .ok (.nx, [some a, some b, some (.ref h.length), some (.int p.1), some (.int p.2)], h ++ [.lst ((made1 row p).map .int)]) := by
  obtain ⟨h1, h2, h3, h4, h5⟩ := h0
  have a1 := atR h1 h2
  have a2 := atR h3 h4
  have lk0 := lk_at h (row.map D.int) []
  have c0 := cell_at h (.lst (row.map D.int))
  have s1 := sLst_I c0 h1 (by omega) (gt row p.2.toNat)
  rw [set_at] at s1
  have c1 := cell_at h (.lst ((row.set p.1.toNat (gt row p.2.toNat)).map D.int))
  have s2 := sLst_I c1 h3 (by simp; omega) (gt row p.1.toNat)
  rw [set_at] at s2
  by_cases hb : gt row p.2.toNat < gt row p.1.toNat
  · simp only [made1, hb, if_true]
    generalize gt row p.1.toNat = u at *
    generalize gt row p.2.toNat = v at *
    simp -implicitDefEqProofs [B1_made_row, lk0, a1, a2, hb, s1, s2, -List.map_set]
  · simp only [made1, hb, if_false]
    simp -implicitDefEqProofs [B1_made_row, lk0, a1, a2, hb]
theorem body_lmade {row : List Int} {p : Int × Int} (h0 : 0 ≤ p.1 ∧ p.1 < row.length ∧ 0 ≤ p.2 ∧ p.2 < row.length ∧ p.1 ≠ p.2) (a b : D) (x : Option D) (h : VH) :
    ∃ x', B1_law_made [some a, some b, some (.ref h.length), some (.int p.1), some (.int p.2), x] (h ++ [.lst (row.map .int)]) = .ok (.nx, [some a, some b, some (.ref h.length), some (.int p.1), some (.int p.2), x'], h ++ [.lst ((made1 row p).map .int)]) := by
  obtain ⟨h1, h2, h3, h4, h5⟩ := h0
  have a1 := atR h1 h2
  have a2 := atR h3 h4
  have lk0 := lk_at h (row.map D.int) []
  have c0 := cell_at h (.lst (row.map D.int))
  have s1 := sLst_I c0 h1 (by omega) (gt row p.2.toNat)
  rw [set_at] at s1
  have c1 := cell_at h (.lst ((row.set p.1.toNat (gt row p.2.toNat)).map D.int))
  have s2 := sLst_I c1 h3 (by simp; omega) (gt row p.1.toNat)
  rw [set_at] at s2
  by_cases hb : gt row p.2.toNat < gt row p.1.toNat
  · refine ⟨some (.int (gt row p.1.toNat)), ?_⟩
    simp only [made1, hb, if_true]
    generalize gt row p.1.toNat = u at *
    generalize gt row p.2.toNat = v at *
    simp -implicitDefEqProofs [B1_law_made, lk0, a1, a2, hb, s1, s2, -List.map_set]
  · refine ⟨x, ?_⟩
    simp only [made1, hb, if_false]
    simp -implicitDefEqProofs [B1_law_made, lk0, a1, a2, hb]
theorem x_made_row {net : List (Int × Int)} {row : List Int} (hw : Wires row.length net) (h : VH) : F_made_row [netD net, tupI row] h = .ok (tupI (madeR net row), h ++ [.lst ((madeR net row).map .int)]) := by
  obtain ⟨s', h', e, ⟨x, y, rfl⟩, rfl⟩ := for_all (it := vIt (vVar 0)) (g := gP (pTup 2 (psCons (pN 3) (psCons (pN 4) psNil)))) (body := B1_made_row) (s := [some (netD net), some (tupI row), some (.ref h.length), none, none]) (h := h ++ [.lst (row.map .int)]) (h1 := h ++ [.lst (row.map .int)]) (src := fun _ => some (net.map pD)) (xs := net.map pD)
    (fun k s h' => (∃ x y, s = [some (netD net), some (tupI row), some (.ref h.length), x, y]) ∧ h' = h ++ [.lst ((madeR (net.take k) row).map .int)]) (by simp [netD]) (fun _ _ _ _ => rfl) ⟨⟨_, _, rfl⟩, rfl⟩ (by
      rintro k d s h' ed ⟨⟨x, y, rfl⟩, rfl⟩
      obtain ⟨hk, rfl⟩ := get_pD ed
      have hp := hw net[k] (List.getElem_mem _)
      have b := body_made (row := madeR (net.take k) row) (p := net[k]) (by rw [madeR_len]; exact hp) (netD net) (tupI row) h
      refine ⟨_, _, .inl (by rw [turn_P]; exact b), ⟨_, _, rfl⟩, ?_⟩
      rw [List.take_succ_eq_append_getElem hk, madeR_snoc])
  have e : L1_made_row [some (netD net), some (tupI row), some (.ref h.length), none, none] (h ++ [.lst (row.map .int)]) = _ := e
  rw [List.length_map, List.take_length] at e
  have lk0 := lk_at h ((madeR net row).map D.int) []
  unfold F_made_row
  refine mF_rt (s' := [some (netD net), some (tupI row), some (.ref h.length), x, y]) ?_
  have ls : seqOf h (tupI row) = some (row.map .int) := rfl
  simp -implicitDefEqProofs [m_made_row, ls, e, lk0]
  rfl
theorem x_law_made {net : List (Int × Int)} {row : List Int} (hw : Wires row.length net) (h : VH) : F_law_made [netD net, tupI row] h = .ok (tupI (madeR net row), h ++ [.lst ((madeR net row).map .int)]) := by
  obtain ⟨s', h', e, ⟨x, y, z, rfl⟩, rfl⟩ := for_all (it := vIt (vVar 0)) (g := gP (pTup 2 (psCons (pN 3) (psCons (pN 4) psNil)))) (body := B1_law_made) (s := [some (netD net), some (tupI row), some (.ref h.length), none, none, none]) (h := h ++ [.lst (row.map .int)]) (h1 := h ++ [.lst (row.map .int)]) (src := fun _ => some (net.map pD)) (xs := net.map pD)
    (fun k s h' => (∃ x y z, s = [some (netD net), some (tupI row), some (.ref h.length), x, y, z]) ∧ h' = h ++ [.lst ((madeR (net.take k) row).map .int)]) (by simp [netD]) (fun _ _ _ _ => rfl) ⟨⟨_, _, _, rfl⟩, rfl⟩ (by
      rintro k d s h' ed ⟨⟨x, y, z, rfl⟩, rfl⟩
      obtain ⟨hk, rfl⟩ := get_pD ed
      have hp := hw net[k] (List.getElem_mem _)
      obtain ⟨z', b⟩ := body_lmade (row := madeR (net.take k) row) (p := net[k]) (by rw [madeR_len]; exact hp) (netD net) (tupI row) z h
      refine ⟨_, _, .inl (by rw [turn_P]; exact b), ⟨_, _, _, rfl⟩, ?_⟩
      rw [List.take_succ_eq_append_getElem hk, madeR_snoc])
  have e : L1_law_made [some (netD net), some (tupI row), some (.ref h.length), none, none, none] (h ++ [.lst (row.map .int)]) = _ := e
  rw [List.length_map, List.take_length] at e
  have lk0 := lk_at h ((madeR net row).map D.int) []
  unfold F_law_made
  refine mF_rt (s' := [some (netD net), some (tupI row), some (.ref h.length), x, y, z]) ?_
  have ls : seqOf h (tupI row) = some (row.map .int) := rfl
  simp -implicitDefEqProofs [m_law_made, ls, e, lk0]
  rfl
end K03

namespace K03
open PySem Vq
/-! ### plain facts of runs; what may be shown -/
theorem ext_gt {a b : List Int} (h : a.length = b.length) (e : ∀ w, w < a.length → gt a w = gt b w) : a = b := by
  apply List.ext_getElem h
  intro i h1 h2
  have := e i h1
  simpa [gt, List.getD_eq_getElem?_getD, h1, h2] using this
theorem gt_set {l : List Int} {i j : Nat} {v : Int} (hi : i < l.length) : gt (l.set i v) j = if i = j then v else gt l j := by
  unfold gt
  simp only [List.getD_eq_getElem?_getD]
  by_cases h : i = j
  · subst h
    simp [hi]
  · simp [h]
theorem gt_made1 {row : List Int} {p : Int × Int} (hp : 0 ≤ p.1 ∧ p.1 < row.length ∧ 0 ≤ p.2 ∧ p.2 < row.length ∧ p.1 ≠ p.2) (w : Nat) :
    gt (made1 row p) w = if w = p.1.toNat then min (gt row p.1.toNat) (gt row p.2.toNat) else if w = p.2.toNat then max (gt row p.1.toNat) (gt row p.2.toNat) else gt row w := by
  have h1 : p.1.toNat < row.length := by omega
  have h2 : p.2.toNat < row.length := by omega
  unfold made1
  by_cases c : gt row p.2.toNat < gt row p.1.toNat
  · rw [if_pos c, gt_set (by simpa using h2), gt_set h1]
    by_cases e1 : w = p.1.toNat
    · subst e1
      rw [if_neg (by omega), if_pos rfl, if_pos rfl]
      omega
    · by_cases e2 : w = p.2.toNat
      · subst e2
        rw [if_pos rfl, if_neg e1, if_pos rfl]
        omega
      · rw [if_neg (Ne.symm e2), if_neg (Ne.symm e1), if_neg e1, if_neg e2]
  · rw [if_neg c]
    by_cases e1 : w = p.1.toNat
    · subst e1
      rw [if_pos rfl]
      omega
    · by_cases e2 : w = p.2.toNat
      · subst e2
        rw [if_neg e1, if_pos rfl]
        omega
      · rw [if_neg e1, if_neg e2]
abbrev OkP (n : Nat) (p : Int × Int) : Prop := 0 ≤ p.1 ∧ p.1 < n ∧ 0 ≤ p.2 ∧ p.2 < n ∧ p.1 ≠ p.2
theorem madeR_app (a b : List (Int × Int)) (row : List Int) : madeR (a ++ b) row = madeR b (madeR a row) := by
  unfold madeR
  rw [List.foldl_append]
theorem made1_perm {row : List Int} {p : Int × Int} (hp : OkP row.length p) : (made1 row p).Perm row := by
  unfold OkP at hp
  have h1 : p.1.toNat < row.length := by omega
  have h2 : p.2.toNat < row.length := by omega
  have e1 : gt row p.1.toNat = row[p.1.toNat] := by simp [gt, h1]
  have e2 : gt row p.2.toNat = row[p.2.toNat] := by simp [gt, h2]
  unfold made1
  split
  · rw [e1, e2]
    exact List.set_set_perm h1 h2
  · exact List.Perm.refl _
theorem madeR_perm : ∀ {net : List (Int × Int)} {row : List Int}, Wires row.length net → (madeR net row).Perm row
  | [], _, _ => List.Perm.refl _
  | p :: r, row, hw => by
    have hp : OkP row.length p := hw p (List.mem_cons_self ..)
    refine (madeR_perm (net := r) (row := made1 row p) fun q hq => ?_).trans (made1_perm hp)
    rw [made1_len]
    exact hw q (List.mem_cons_of_mem _ hq)
theorem gt_map {row : List Int} (f : Int → Int) {w : Nat} (h : w < row.length) : gt (row.map f) w = f (gt row w) := by simp [gt, h]
theorem made1_map {row : List Int} {p : Int × Int} (hp : OkP row.length p) {f : Int → Int} (hf : ∀ x ∈ row, ∀ y ∈ row, x ≤ y → f x ≤ f y) : made1 (row.map f) p = (made1 row p).map f := by
  have hp' : OkP (row.map f).length p := by rw [List.length_map]; exact hp
  unfold OkP at hp
  have h1 : p.1.toNat < row.length := by omega
  have h2 : p.2.toNat < row.length := by omega
  have m1 : gt row p.1.toNat ∈ row := by simp [gt, h1]
  have m2 : gt row p.2.toNat ∈ row := by simp [gt, h2]
  refine ext_gt (by rw [made1_len, List.length_map, List.length_map, made1_len]) fun w hw => ?_
  rw [made1_len, List.length_map] at hw
  rw [gt_made1 hp', gt_map f (row := made1 row p) (w := w) (by rw [made1_len]; exact hw), gt_made1 hp, gt_map f h1, gt_map f h2, gt_map f hw]
  have a := hf _ m1 _ m2
  have b := hf _ m2 _ m1
  by_cases e1 : w = p.1.toNat
  · rw [if_pos e1, if_pos e1]
    rcases Int.le_total (gt row p.1.toNat) (gt row p.2.toNat) with z | z
    · rw [Int.min_eq_left z, Int.min_eq_left (a z)]
    · rw [Int.min_eq_right z, Int.min_eq_right (b z)]
  · rw [if_neg e1, if_neg e1]
    by_cases e2 : w = p.2.toNat
    · rw [if_pos e2, if_pos e2]
      rcases Int.le_total (gt row p.1.toNat) (gt row p.2.toNat) with z | z
      · rw [Int.max_eq_right z, Int.max_eq_right (a z)]
      · rw [Int.max_eq_left z, Int.max_eq_left (b z)]
    · rw [if_neg e2, if_neg e2]
theorem madeR_map {f : Int → Int} : ∀ {net : List (Int × Int)} {row : List Int}, Wires row.length net → (∀ x ∈ row, ∀ y ∈ row, x ≤ y → f x ≤ f y) → madeR net (row.map f) = (madeR net row).map f
  | [], _, _, _ => rfl
  | p :: r, row, hw, hf => by
    have hp : OkP row.length p := hw p (List.mem_cons_self ..)
    show madeR r (made1 (row.map f) p) = (madeR r (made1 row p)).map f
    rw [made1_map hp hf]
    refine madeR_map (fun q hq => by rw [made1_len]; exact hw q (List.mem_cons_of_mem _ hq)) fun x hx y hy => hf x ((made1_perm hp).mem_iff.mp hx) y ((made1_perm hp).mem_iff.mp hy)
theorem rising_gt {row : List Int} (h : row.Pairwise (· ≤ ·)) {i j : Nat} (hij : i < j) (hj : j < row.length) : gt row i ≤ gt row j := by
  have := List.pairwise_iff_getElem.mp h i j (by omega) hj hij
  simpa [gt, hj, show i < row.length by omega] using this
theorem madeR_rising {row : List Int} (h : row.Pairwise (· ≤ ·)) : ∀ {net : List (Int × Int)}, Wires row.length net → (∀ p ∈ net, p.1 < p.2) → madeR net row = row
  | [], _, _ => rfl
  | p :: r, hw, hlt => by
    have hp : OkP row.length p := hw p (List.mem_cons_self ..)
    have h1 := hlt p (List.mem_cons_self ..)
    unfold OkP at hp
    have e : made1 row p = row := by
      unfold made1
      have := rising_gt h (i := p.1.toNat) (j := p.2.toNat) (by omega) (by omega)
      rw [if_neg (by omega)]
    show madeR r (made1 row p) = row
    rw [e]
    exact madeR_rising h (fun q hq => hw q (List.mem_cons_of_mem _ hq)) fun q hq => hlt q (List.mem_cons_of_mem _ hq)
theorem Wires.mono {n m : Nat} {net : List (Int × Int)} (h : Wires n net) (hm : n ≤ m) : Wires m net := fun p hp => by
  have := h p hp
  omega
theorem Wires.app {n : Nat} {a b : List (Int × Int)} (h : Wires n a) (g : Wires n b) : Wires n (a ++ b) := fun p hp => by
  rcases List.mem_append.mp hp with q | q
  · exact h p q
  · exact g p q
theorem bAll_r {h : VH} {n : Nat} {l : List Bool} (e : lk h n = some (l.map .bl)) : bAll [.ref n] h = some (.bl (l.all id), h) := by
  unfold bAll pureB argBools
  simp [e]
theorem cut1 (row : List Int) : cutD (row.map D.int) (some 1) none = row.tail.map .int := by
  rw [cut_from _ (by decide)]
  cases row <;> simp
theorem x_ascending {row : List Int} (hz : row.length ≤ 1000000) (h : VH) : ∃ h', F_is_ascending [tupI row] h = .ok (.bl ((row.zip row.tail).all fun y => decide (y.1 ≤ y.2)), h') ∧ Grow h h' := by
  have c1 : C1_is_ascending [some (tupI row), none, none] h = .ok (.ref h.length, h ++ [.lst (((row.zip row.tail).map fun y => decide (y.1 ≤ y.2)).map .bl)]) := by
    have cu := cut1 row
    unfold C1_is_ascending
    rw [lc_zip (h1 := h) (ys := row) (zs := row.tail) (c := .int) (d := .int) (fun _ => true) (fun y => .bl (decide (y.1 ≤ y.2))) (by simp [tupI, slD, cu]) (by omega) (by
      intro y hy acc
      refine ⟨_, rfl, rfl, fun _ => ?_⟩
      simp -implicitDefEqProofs [E1_is_ascending, vwipe])]
    simp only [List.filter_eq_self.mpr (fun _ _ => rfl), List.map_map]
    rfl
  have ba := bAll_r (h := h ++ [.lst (((row.zip row.tail).map fun y => decide (y.1 ≤ y.2)).map .bl)]) (n := h.length) (l := (row.zip row.tail).map fun y => decide (y.1 ≤ y.2)) (lk_at h _ [])
  rw [List.all_map] at ba
  rw [show (id ∘ fun y : Int × Int => decide (y.1 ≤ y.2)) = (fun y : Int × Int => decide (y.1 ≤ y.2)) from rfl] at ba
  refine ⟨h ++ [.lst (((row.zip row.tail).map fun y => decide (y.1 ≤ y.2)).map .bl)], mF_rt (s' := [some (tupI row), none, none]) ?_, .new _ _⟩
  generalize ((row.zip row.tail).map fun y => decide (y.1 ≤ y.2)).map D.bl = l at *
  simp -implicitDefEqProofs [m_is_ascending, c1, ba]
theorem x_joined {a b : List (Int × Int)} (hz : a.length + b.length ≤ 1000000) (h : VH) : F_joined_nets [netD a, netD b] h = .ok (netD (a ++ b), h) := by
  refine mF_rt (s' := [some (netD a), some (netD b)]) ?_
  have z : a.length + b.length ≤ 16777216 := by omega
  simp -implicitDefEqProofs [m_joined_nets, netD, le_line z]
theorem E30_le : E30 ≤ 10 ^ 400 := by decide +kernel
theorem pl_lim {i : Int} (h : -E30 ≤ i ∧ i ≤ E30) : PlD 0 (.int i) := by
  have := E30_le
  exact pl_small (by omega) (by omega)
theorem pl_wire {i : Int} (h0 : 0 ≤ i) (h1 : i ≤ 1000000) : PlD 0 (.int i) := by
  have := E30_le
  have := E30_ge
  exact pl_small (by omega) (by omega)
theorem pl_row {row : List Int} (h : Lim row) : PlD 1 (tupI row) := pl_tup fun d hd => by
  obtain ⟨x, hx, rfl⟩ := List.mem_map.mp hd
  exact pl_lim (h.lim x hx)
theorem sum_const {l : List D} {c : Nat} (h : ∀ d ∈ l, sz d = c) : (l.map sz).sum = l.length * c := by
  induction l with
  | nil => simp
  | cons a r ih =>
    rw [List.map_cons, List.sum_cons, h a (List.mem_cons_self ..), ih fun d hd => h d (List.mem_cons_of_mem _ hd), List.length_cons, Nat.add_mul]
    omega
theorem sz_row {row : List Int} (h : Lim row) : sz (tupI row) = row.length + 1 := by
  unfold tupI
  rw [sz_tup (k := 0) fun d hd => by
    obtain ⟨x, hx, rfl⟩ := List.mem_map.mp hd
    exact pl_lim (h.lim x hx), sum_const (c := 1) fun d hd => by
    obtain ⟨x, hx, rfl⟩ := List.mem_map.mp hd
    exact sz_int x]
  simp
theorem pl_pD {n : Nat} (hn : n ≤ 1000) {p : Int × Int} (h : OkP n p) : PlD 1 (pD p) ∧ sz (pD p) = 3 := by
  unfold OkP at h
  have q : ∀ d ∈ [D.int p.1, D.int p.2], PlD 0 d := fun d hd => by
    simp only [List.mem_cons, List.not_mem_nil, or_false] at hd
    rcases hd with rfl | rfl
    · exact pl_wire h.1 (by omega)
    · exact pl_wire h.2.2.1 (by omega)
  refine ⟨pl_tup q, ?_⟩
  unfold pD
  rw [sz_tup q]
  simp [sz_int]
theorem pl_net {n : Nat} (hn : n ≤ 1000) {net : List (Int × Int)} (h : Wires n net) : PlD 2 (netD net) := pl_tup fun d hd => by
  obtain ⟨p, hp, rfl⟩ := List.mem_map.mp hd
  exact (pl_pD hn (h p hp)).1
theorem sz_net {n : Nat} (hn : n ≤ 1000) {net : List (Int × Int)} (h : Wires n net) : sz (netD net) = 3 * net.length + 1 := by
  unfold netD
  rw [sz_tup (k := 1) fun d hd => by
    obtain ⟨p, hp, rfl⟩ := List.mem_map.mp hd
    exact (pl_pD hn (h p hp)).1, sum_const (c := 3) fun d hd => by
    obtain ⟨p, hp, rfl⟩ := List.mem_map.mp hd
    exact (pl_pD hn (h p hp)).2]
  simp
  omega
theorem repr_same {k c s : Nat} {d : D} (hk : k ≤ 60) (p : PlD k d) (hs : c * sz d + 1 ≤ 8000) {l : List D} (hl : l = List.replicate c d) (h : VH) (m : Nat) (e : lk h m = some l) : bRepr [.ref m] h = some (.str (txtL l), h) :=
  repr_L (k := k) e (fun x hx => by
    rw [hl] at hx
    rw [List.eq_of_mem_replicate hx]
    exact p) hk (by
    rw [hl, List.map_replicate, List.sum_replicate_nat]
    exact hs)
theorem add_nets {a b : List (Int × Int)} (hz : a.length + b.length ≤ 1000000) (h : VH) : dAdd (netD a) (netD b) h = some (netD (a ++ b), h) := by
  have z : a.length + b.length ≤ 16777216 := by omega
  simp [netD, le_line z]
theorem dMul_L {h : VH} {m : Nat} {x : D} {n : Nat} (e : h[m]? = some (.lst [x])) (hn : n ≤ 1000) : dMul (.ref m) (.int n) h = some (.ref h.length, h ++ [.lst (List.replicate n x)]) := by
  have er : repD n [x] = List.replicate n x := by
    unfold repD
    induction n with
    | zero => rfl
    | succ n ih => rw [List.replicate_succ, List.flatten_cons, ih (by omega), List.replicate_succ]; rfl
  have ii0 : ∀ f, ii f (.ref m) (.int n) h = none := fun _ => rfl
  have t0 : tMulT (.ref m) (.int n) h = none := rfl
  unfold dMul orD aMul
  rw [ii0]
  simp only
  rw [t0]
  unfold tMulL
  have c1 : -(2 ^ 63) ≤ (n : Int) ∧ (n : Int) < 2 ^ 63 ∧ [x].length * (n : Int).toNat ≤ sizeLine := ⟨by omega, by omega, le_line (by simp; omega)⟩
  simp only [e]
  rw [if_pos c1]
  simp [er]
theorem dMul_3 {h : VH} {m : Nat} {x : D} (e : h[m]? = some (.lst [x])) : dMul (.ref m) (.int 3) h = some (.ref h.length, h ++ [.lst [x, x, x]]) := dMul_L (n := 3) e (by decide)
theorem dMul_2 {h : VH} {m : Nat} {x : D} (e : h[m]? = some (.lst [x])) : dMul (.ref m) (.int 2) h = some (.ref h.length, h ++ [.lst [x, x]]) := dMul_L (n := 2) e (by decide)
theorem r_made {net : List (Int × Int)} {row : List Int} (hw : Wires row.length net) (h : VH) : ∃ h', F_made_row [netD net, tupI row] h = .ok (tupI (madeR net row), h') ∧ Grow h h' := ⟨_, x_made_row hw h, .new _ _⟩
theorem r_lmade {net : List (Int × Int)} {row : List Int} (hw : Wires row.length net) (h : VH) : ∃ h', F_law_made [netD net, tupI row] h = .ok (tupI (madeR net row), h') ∧ Grow h h' := ⟨_, x_law_made hw h, .new _ _⟩
end K03

namespace K03
open PySem Vq
/-! ### standard nets, plainly -/
def idI (n : Nat) : List Int := (List.range n).map Int.ofNat
@[simp] theorem id_len (n : Nat) : (idI n).length = n := by simp [idI]
theorem gt_id {n w : Nat} (h : w < n) : gt (idI n) w = w := by simp [gt, idI, h]
def stF (names : List Int) (p : Int × Int) : Int × Int := (min (gt names p.1.toNat) (gt names p.2.toNat), max (gt names p.1.toNat) (gt names p.2.toNat))
def stN (names : List Int) (p : Int × Int) : List Int := (names.set p.1.toNat (stF names p).1).set p.2.toNat (stF names p).2
def st1 (s : List (Int × Int) × List Int) (p : Int × Int) : List (Int × Int) × List Int := (s.1 ++ [stF s.2 p], stN s.2 p)
def stR (n : Nat) (net : List (Int × Int)) : List (Int × Int) × List Int := net.foldl st1 ([], idI n)
theorem stR_snoc (n : Nat) (net : List (Int × Int)) (p : Int × Int) : stR n (net ++ [p]) = st1 (stR n net) p := by
  unfold stR
  rw [List.foldl_append]
  rfl
structure StI (n : Nat) (net : List (Int × Int)) (s : List (Int × Int) × List Int) : Prop where
  len : s.2.length = n
  rng : ∀ w, w < n → 0 ≤ gt s.2 w ∧ gt s.2 w < n
  inj : ∀ v w, v < n → w < n → gt s.2 v = gt s.2 w → v = w
  wires : Wires n s.1
  std : ∀ p ∈ s.1, p.1 < p.2
  olen : s.1.length = net.length
  rel : ∀ row : List Int, row.length = n → ∀ w, w < n → gt (madeR net row) w = gt (madeR s.1 row) (gt s.2 w).toNat
theorem gt_stN {n : Nat} {names : List Int} {p : Int × Int} (hl : names.length = n) (hp : OkP n p) (w : Nat) : gt (stN names p) w = if w = p.2.toNat then (stF names p).2 else if w = p.1.toNat then (stF names p).1 else gt names w := by
  unfold OkP at hp
  unfold stN
  rw [gt_set (by rw [List.length_set]; omega), gt_set (by omega)]
  by_cases e : w = p.2.toNat
  · rw [if_pos e.symm, if_pos e]
  · rw [if_neg (Ne.symm e), if_neg e]
    by_cases e2 : w = p.1.toNat
    · rw [if_pos e2.symm, if_pos e2]
    · rw [if_neg (Ne.symm e2), if_neg e2]
theorem wires_snoc {n : Nat} {net : List (Int × Int)} {p : Int × Int} (h : Wires n net) (hp : OkP n p) : Wires n (net ++ [p]) := fun q hq => by
  rcases List.mem_append.mp hq with g | g
  · exact h q g
  · rw [List.mem_singleton.mp g]
    exact hp
theorem StI.step {n : Nat} {net : List (Int × Int)} {s : List (Int × Int) × List Int} {p : Int × Int} (I : StI n net s) (hw : Wires n net) (hp : OkP n p) : StI n (net ++ [p]) (st1 s p) := by
  obtain ⟨own, names⟩ := s
  have hl : names.length = n := I.len
  have hp' := hp
  unfold OkP at hp'
  have ha : p.1.toNat < n := by omega
  have hb : p.2.toNat < n := by omega
  have hab : p.1.toNat ≠ p.2.toNat := by omega
  have rx := I.rng _ ha
  have ry := I.rng _ hb
  have xy : gt names p.1.toNat ≠ gt names p.2.toNat := fun e => hab (I.inj _ _ ha hb e)
  have f1 : (stF names p).1 = min (gt names p.1.toNat) (gt names p.2.toNat) := rfl
  have f2 : (stF names p).2 = max (gt names p.1.toNat) (gt names p.2.toNat) := rfl
  have hF : OkP n (stF names p) := by
    unfold OkP
    rw [f1, f2]
    simp only at rx ry
    omega
  have hlt : (stF names p).1 < (stF names p).2 := by
    rw [f1, f2]
    omega
  have other : ∀ w, w < n → w ≠ p.1.toNat → w ≠ p.2.toNat → gt names w ≠ gt names p.1.toNat ∧ gt names w ≠ gt names p.2.toNat := fun w hw h1 h2 => ⟨fun e => h1 (I.inj _ _ hw ha e), fun e => h2 (I.inj _ _ hw hb e)⟩
  simp only at rx ry
  refine ⟨?_, ?_, ?_, wires_snoc I.wires hF, ?_, ?_, ?_⟩
  · simp only [st1, stN, List.length_set]
    exact hl
  · intro w hw
    show 0 ≤ gt (stN names p) w ∧ gt (stN names p) w < n
    rw [gt_stN hl hp]
    have := I.rng w hw
    simp only at this
    split
    · omega
    · split
      · omega
      · exact this
  · intro v w hv hw e
    have e : gt (stN names p) v = gt (stN names p) w := e
    rw [gt_stN hl hp, gt_stN hl hp] at e
    by_cases v2 : v = p.2.toNat
    · rw [if_pos v2] at e
      by_cases w2 : w = p.2.toNat
      · omega
      · rw [if_neg w2] at e
        by_cases w1 : w = p.1.toNat
        · rw [if_pos w1] at e
          omega
        · rw [if_neg w1] at e
          have := other w hw w1 w2
          omega
    · rw [if_neg v2] at e
      by_cases v1 : v = p.1.toNat
      · rw [if_pos v1] at e
        by_cases w2 : w = p.2.toNat
        · rw [if_pos w2] at e
          omega
        · rw [if_neg w2] at e
          by_cases w1 : w = p.1.toNat
          · omega
          · rw [if_neg w1] at e
            have := other w hw w1 w2
            omega
      · rw [if_neg v1] at e
        have := other v hv v1 v2
        by_cases w2 : w = p.2.toNat
        · rw [if_pos w2] at e
          omega
        · rw [if_neg w2] at e
          by_cases w1 : w = p.1.toNat
          · rw [if_pos w1] at e
            omega
          · rw [if_neg w1] at e
            exact I.inj v w hv hw e
  · intro q hq
    rcases List.mem_append.mp hq with g | g
    · exact I.std q g
    · rw [List.mem_singleton.mp g]
      exact hlt
  · have := I.olen
    simp only [st1, List.length_append, List.length_singleton] at this ⊢
    omega
  · intro row hr w hw
    show gt (madeR (net ++ [p]) row) w = gt (madeR (own ++ [stF names p]) row) (gt (stN names p) w).toNat
    rw [madeR_snoc, madeR_snoc]
    have l1 : (madeR net row).length = n := by rw [madeR_len, hr]
    have l2 : (madeR own row).length = n := by rw [madeR_len, hr]
    rw [gt_made1 (by rw [l1]; exact hp), gt_made1 (by rw [l2]; exact hF), gt_stN hl hp]
    have ra := I.rel row hr _ ha
    have rb := I.rel row hr _ hb
    simp only at ra rb
    rw [ra, rb]
    have mm : min (gt (madeR own row) (stF names p).1.toNat) (gt (madeR own row) (stF names p).2.toNat) = min (gt (madeR own row) (gt names p.1.toNat).toNat) (gt (madeR own row) (gt names p.2.toNat).toNat) ∧ max (gt (madeR own row) (stF names p).1.toNat) (gt (madeR own row) (stF names p).2.toNat) = max (gt (madeR own row) (gt names p.1.toNat).toNat) (gt (madeR own row) (gt names p.2.toNat).toNat) := by
      rcases Int.lt_or_gt_of_ne xy with z | z
      · have e1 : (stF names p).1 = gt names p.1.toNat := by rw [f1]; omega
        have e2 : (stF names p).2 = gt names p.2.toNat := by rw [f2]; omega
        rw [e1, e2]
        exact ⟨rfl, rfl⟩
      · have e1 : (stF names p).1 = gt names p.2.toNat := by rw [f1]; omega
        have e2 : (stF names p).2 = gt names p.1.toNat := by rw [f2]; omega
        rw [e1, e2]
        exact ⟨Int.min_comm .., Int.max_comm ..⟩
    rw [mm.1, mm.2]
    by_cases w1 : w = p.1.toNat
    · have w2 : w ≠ p.2.toNat := by omega
      rw [if_pos w1, if_neg w2, if_pos w1, if_pos rfl]
    · rw [if_neg w1]
      by_cases w2 : w = p.2.toNat
      · rw [if_pos w2, if_pos w2, if_neg (by unfold OkP at hF; omega), if_pos rfl]
      · rw [if_neg w2, if_neg w2, if_neg w1]
        have o := other w hw w1 w2
        have r := I.rng w hw
        simp only at r
        have n1 : (gt names w).toNat ≠ (stF names p).1.toNat := by omega
        have n2 : (gt names w).toNat ≠ (stF names p).2.toNat := by omega
        rw [if_neg n1, if_neg n2]
        exact I.rel row hr w hw
theorem stI0 (n : Nat) : StI n [] ([], idI n) := by
  refine ⟨id_len n, fun w hw => ?_, fun v w hv hw e => ?_, fun p hp => absurd hp List.not_mem_nil, fun p hp => absurd hp List.not_mem_nil, rfl, fun row hr w hw => ?_⟩
  · rw [gt_id hw]
    omega
  · simp only [gt_id hv, gt_id hw] at e
    omega
  · simp only [gt_id hw, Int.toNat_natCast]
theorem stR_go {n : Nat} : ∀ {net done : List (Int × Int)} {s : List (Int × Int) × List Int}, StI n done s → Wires n done → Wires n net → StI n (done ++ net) (net.foldl st1 s)
  | [], done, s, I, _, _ => by
    rw [List.append_nil]
    exact I
  | p :: r, done, s, I, wd, wn => by
    have hp : OkP n p := wn p (List.mem_cons_self ..)
    have := stR_go (net := r) (I.step wd hp) (wires_snoc wd hp) fun q hq => wn q (List.mem_cons_of_mem _ hq)
    rw [List.append_assoc] at this
    exact this
theorem stR_ok {n : Nat} {net : List (Int × Int)} (hw : Wires n net) : StI n net (stR n net) := by
  have := stR_go (stI0 n) (fun p hp => absurd hp List.not_mem_nil) hw
  exact this
/-- a standard net is its own -/
theorem stF_id {n : Nat} {p : Int × Int} (hp : OkP n p) (hlt : p.1 < p.2) : stF (idI n) p = p ∧ stN (idI n) p = idI n := by
  unfold OkP at hp
  have h1 : gt (idI n) p.1.toNat = p.1 := by rw [gt_id (by omega)]; omega
  have h2 : gt (idI n) p.2.toNat = p.2 := by rw [gt_id (by omega)]; omega
  have e : stF (idI n) p = p := by
    unfold stF
    rw [h1, h2, Int.min_eq_left (by omega), Int.max_eq_right (by omega)]
  refine ⟨e, ext_gt (by simp [stN]) fun w hw => ?_⟩
  rw [gt_stN (id_len n) hp, e]
  have hw : w < n := by simpa [stN] using hw
  rw [gt_id hw]
  by_cases e2 : w = p.2.toNat
  · rw [if_pos e2]
    omega
  · rw [if_neg e2]
    by_cases e1 : w = p.1.toNat
    · rw [if_pos e1]
      omega
    · rw [if_neg e1]
theorem st_self {n : Nat} : ∀ {net acc : List (Int × Int)}, Wires n net → (∀ p ∈ net, p.1 < p.2) → net.foldl st1 (acc, idI n) = (acc ++ net, idI n)
  | [], acc, _, _ => by simp
  | p :: r, acc, hw, hs => by
    have e := stF_id (hw p (List.mem_cons_self ..)) (hs p (List.mem_cons_self ..))
    show r.foldl st1 (acc ++ [stF (idI n) p], stN (idI n) p) = _
    rw [e.1, e.2, st_self (fun q hq => hw q (List.mem_cons_of_mem _ hq)) fun q hq => hs q (List.mem_cons_of_mem _ hq), List.append_assoc]
    rfl
theorem stR_self {n : Nat} {net : List (Int × Int)} (hw : Wires n net) (hs : ∀ p ∈ net, p.1 < p.2) : stR n net = (net, idI n) := by
  unfold stR
  rw [st_self hw hs, List.nil_append]
/-! ### what sorts -/
def Rises (row : List Int) : Prop := row.Pairwise (· ≤ ·)
def Sorts (n : Nat) (net : List (Int × Int)) : Prop := ∀ row : List Int, row.length = n → Rises (madeR net row)
theorem rises_iff {row : List Int} : Rises row ↔ ∀ w, w + 1 < row.length → gt row w ≤ gt row (w + 1) := by
  constructor
  · intro h w hw
    exact rising_gt h (by omega) hw
  · intro h
    have key : ∀ d i, i + d < row.length → gt row i ≤ gt row (i + d) := by
      intro d
      induction d with
      | zero => intro i _; exact Int.le_refl _
      | succ d ih =>
        intro i hi
        have a := ih i (by omega)
        have b := h (i + d) (by omega)
        rw [show i + d + 1 = i + (d + 1) by omega] at b
        omega
    refine List.pairwise_iff_getElem.mpr fun i j hi hj hij => ?_
    have := key (j - i) i (by omega)
    rw [show i + (j - i) = j by omega] at this
    simpa [gt, hi, hj] using this
theorem id_rises (n : Nat) : Rises (idI n) := rises_iff.mpr fun w hw => by
  rw [id_len] at hw
  rw [gt_id (by omega), gt_id hw]
  omega
theorem sorted_eq {a b : List Int} (p : a.Perm b) (ha : Rises a) (hb : Rises b) : a = b := p.eq_of_pairwise (fun x y _ _ h1 h2 => Int.le_antisymm h1 h2) ha hb
theorem sorts_names {n : Nat} {net : List (Int × Int)} (hw : Wires n net) (h : Sorts n net) : (stR n net).2 = idI n ∧ Sorts n (stR n net).1 := by
  have I := stR_ok hw
  have e1 : madeR net (idI n) = idI n := sorted_eq (madeR_perm (by rw [id_len]; exact hw)) (h _ (id_len n)) (id_rises n)
  have e2 : madeR (stR n net).1 (idI n) = idI n := madeR_rising (id_rises n) (by rw [id_len]; exact I.wires) I.std
  have en : (stR n net).2 = idI n := by
    refine ext_gt (by rw [I.len, id_len]) fun w hw => ?_
    rw [I.len] at hw
    have r := I.rel (idI n) (id_len n) w hw
    have g := I.rng w hw
    rw [e1, e2, gt_id hw, gt_id (by omega)] at r
    rw [gt_id hw]
    omega
  refine ⟨en, fun row hr => ?_⟩
  have : madeR net row = madeR (stR n net).1 row := by
    refine ext_gt (by rw [madeR_len, madeR_len]) fun w hw => ?_
    rw [madeR_len, hr] at hw
    have r := I.rel row hr w hw
    rw [en, gt_id hw, Int.toNat_natCast] at r
    exact r
  rw [← this]
  exact h row hr
end K03

namespace K03
open PySem Vq
/-! ### rows of noughts and ones, all at once -/
def rowT (n t : Nat) : List Int := (List.range n).map fun k => if t.testBit k then 1 else 0
@[simp] theorem rowT_len (n t : Nat) : (rowT n t).length = n := by simp [rowT]
theorem gt_rowT {n t w : Nat} (h : w < n) : gt (rowT n t) w = if t.testBit w then 1 else 0 := by simp [gt, rowT, h]
def bg (B : List Nat) (w : Nat) : Nat := B.getD w 0
theorem bg_set {B : List Nat} {i j v : Nat} (hi : i < B.length) : bg (B.set i v) j = if i = j then v else bg B j := by
  unfold bg
  simp only [List.getD_eq_getElem?_getD]
  by_cases h : i = j
  · subst h
    simp [hi]
  · simp [h]
def maskR (w : Nat) : Nat → Nat
  | 0 => (2 ^ 2 ^ w - 1) * 2 ^ 2 ^ w
  | d + 1 => maskR w d ||| maskR w d * 2 ^ 2 ^ (w + 1 + d)
theorem mask_bit (w : Nat) : ∀ d t : Nat, (maskR w d).testBit t = (decide (t < 2 ^ (w + 1 + d)) && t.testBit w)
  | 0, t => by
    show ((2 ^ 2 ^ w - 1) * 2 ^ 2 ^ w).testBit t = _
    rw [Nat.testBit_mul_two_pow, Nat.testBit_two_pow_sub_one, Nat.add_zero]
    have e2 : 2 ^ (w + 1) = 2 * 2 ^ w := by rw [Nat.pow_succ, Nat.mul_comm]
    rw [e2]
    by_cases h1 : 2 ^ w ≤ t
    · by_cases h2 : t < 2 * 2 ^ w
      · have a : t - 2 ^ w < 2 ^ w := by omega
        rw [Nat.testBit_of_two_pow_le_and_two_pow_add_one_gt h1 (by rw [e2]; exact h2)]
        simp [h1, h2, a]
      · have a : ¬ t - 2 ^ w < 2 ^ w := by omega
        simp [h2, a]
    · rw [Nat.testBit_lt_two_pow (by omega)]
      simp [h1]
  | d + 1, t => by
    show (maskR w d ||| maskR w d * 2 ^ 2 ^ (w + 1 + d)).testBit t = _
    rw [Nat.testBit_or, Nat.testBit_mul_two_pow, mask_bit w d, mask_bit w d]
    obtain ⟨K, hK⟩ : ∃ K, K = w + 1 + d := ⟨_, rfl⟩
    have e2 : 2 ^ (w + 1 + (d + 1)) = 2 * 2 ^ K := by
      rw [show w + 1 + (d + 1) = K + 1 by omega, Nat.pow_succ, Nat.mul_comm]
    rw [e2, ← hK]
    by_cases h1 : 2 ^ K ≤ t
    · obtain ⟨s, rfl⟩ : ∃ s, t = 2 ^ K + s := ⟨t - 2 ^ K, by omega⟩
      have e3 : 2 ^ K + s - 2 ^ K = s := by omega
      rw [e3, Nat.testBit_two_pow_add_gt (by omega) s]
      have a : ¬ 2 ^ K + s < 2 ^ K := by omega
      have b : (2 ^ K + s < 2 * 2 ^ K) = (s < 2 ^ K) := by
        apply propext
        omega
      simp [a, b]
    · have a : t < 2 ^ K := by omega
      have b : t < 2 * 2 ^ K := by omega
      simp [h1, a, b]
theorem mask_lt (w d : Nat) : maskR w d < 2 ^ 2 ^ (w + 1 + d) := Nat.lt_pow_two_of_testBit _ fun i hi => by
  rw [mask_bit, decide_eq_false (by omega), Bool.false_and]
structure BitsI (n : Nat) (net : List (Int × Int)) (B : List Nat) : Prop where
  len : B.length = n
  lt : ∀ w, w < n → bg B w < 2 ^ 2 ^ n
  is : ∀ t, t < 2 ^ n → ∀ w, w < n → gt (madeR net (rowT n t)) w = if (bg B w).testBit t then 1 else 0
def bits0 (n : Nat) : List Nat := (List.range n).map fun w => maskR w (n - 1 - w)
theorem bits_zero (n : Nat) : BitsI n [] (bits0 n) := by
  have e : ∀ w, w < n → bg (bits0 n) w = maskR w (n - 1 - w) := fun w hw => by simp [bg, bits0, hw]
  refine ⟨by simp [bits0], fun w hw => ?_, fun t ht w hw => ?_⟩
  · rw [e w hw]
    have := mask_lt w (n - 1 - w)
    rwa [show w + 1 + (n - 1 - w) = n by omega] at this
  · rw [e w hw, mask_bit, show w + 1 + (n - 1 - w) = n by omega, decide_eq_true ht, Bool.true_and]
    exact gt_rowT hw
def bit1 (B : List Nat) (p : Int × Int) : List Nat := (B.set p.1.toNat (bg B p.1.toNat &&& bg B p.2.toNat)).set p.2.toNat (bg B p.1.toNat ||| bg B p.2.toNat)
theorem BitsI.step {n : Nat} {net : List (Int × Int)} {B : List Nat} {p : Int × Int} (I : BitsI n net B) (hp : OkP n p) : BitsI n (net ++ [p]) (bit1 B p) := by
  have hp' := hp
  unfold OkP at hp'
  have ha : p.1.toNat < n := by omega
  have hb : p.2.toNat < n := by omega
  have hab : p.1.toNat ≠ p.2.toNat := by omega
  have lB := I.len
  have eb : ∀ w, bg (bit1 B p) w = if w = p.2.toNat then bg B p.1.toNat ||| bg B p.2.toNat else if w = p.1.toNat then bg B p.1.toNat &&& bg B p.2.toNat else bg B w := fun w => by
    unfold bit1
    rw [bg_set (by rw [List.length_set]; omega), bg_set (by omega)]
    by_cases e : w = p.2.toNat
    · rw [if_pos e.symm, if_pos e]
    · rw [if_neg (Ne.symm e), if_neg e]
      by_cases e2 : w = p.1.toNat
      · rw [if_pos e2.symm, if_pos e2]
      · rw [if_neg (Ne.symm e2), if_neg e2]
  refine ⟨by simp [bit1, lB], fun w hw => ?_, fun t ht w hw => ?_⟩
  · rw [eb]
    split
    · exact Nat.or_lt_two_pow (I.lt _ ha) (I.lt _ hb)
    · split
      · exact Nat.and_lt_two_pow _ (I.lt _ hb)
      · exact I.lt w hw
  · have l1 : (madeR net (rowT n t)).length = n := by rw [madeR_len, rowT_len]
    rw [madeR_snoc, gt_made1 (by rw [l1]; exact hp), I.is t ht _ ha, I.is t ht _ hb, I.is t ht w hw, eb]
    by_cases w1 : w = p.1.toNat
    · have w2 : w ≠ p.2.toNat := by omega
      rw [if_pos w1, if_neg w2, if_pos w1, Nat.testBit_and]
      cases (bg B p.1.toNat).testBit t <;> cases (bg B p.2.toNat).testBit t <;> decide
    · rw [if_neg w1]
      by_cases w2 : w = p.2.toNat
      · rw [if_pos w2, if_pos w2, Nat.testBit_or]
        cases (bg B p.1.toNat).testBit t <;> cases (bg B p.2.toNat).testBit t <;> decide
      · rw [if_neg w2, if_neg w2, if_neg w1]
/-! ### noughts and ones suffice -/
theorem some_bits (f : Nat → Bool) : ∀ n : Nat, ∃ t, t < 2 ^ n ∧ ∀ k, k < n → t.testBit k = f k
  | 0 => ⟨0, by decide, fun k hk => absurd hk (Nat.not_lt_zero k)⟩
  | n + 1 => by
    obtain ⟨t, ht, e⟩ := some_bits f n
    have e2 : 2 ^ (n + 1) = 2 * 2 ^ n := by rw [Nat.pow_succ, Nat.mul_comm]
    cases hf : f n with
    | false =>
      refine ⟨t, by omega, fun k hk => ?_⟩
      by_cases h : k = n
      · rw [h, Nat.testBit_lt_two_pow ht, hf]
      · exact e k (by omega)
    | true =>
      refine ⟨2 ^ n + t, by omega, fun k hk => ?_⟩
      by_cases h : k = n
      · rw [h, Nat.testBit_two_pow_add_eq, Nat.testBit_lt_two_pow ht, hf]
        rfl
      · rw [Nat.testBit_two_pow_add_gt (by omega) t]
        exact e k (by omega)
def wrongB (n : Nat) (B : List Nat) (w : Nat) : Nat := bg B w &&& (2 ^ 2 ^ n - 1 - bg B (w + 1))
theorem wrong_bit {n : Nat} {net : List (Int × Int)} {B : List Nat} (I : BitsI n net B) {w : Nat} (hw : w + 1 < n) (t : Nat) : (wrongB n B w).testBit t = ((bg B w).testBit t && (decide (t < 2 ^ n) && !(bg B (w + 1)).testBit t)) := by
  unfold wrongB
  rw [Nat.testBit_and, show 2 ^ 2 ^ n - 1 - bg B (w + 1) = 2 ^ 2 ^ n - (bg B (w + 1) + 1) by omega, Nat.testBit_two_pow_sub_succ (I.lt _ hw)]
theorem none_sorts {n : Nat} {net : List (Int × Int)} {B : List Nat} (hn : Wires n net) (I : BitsI n net B) (h : ∀ w, w + 1 < n → wrongB n B w = 0) : Sorts n net := by
  intro row hr
  refine rises_iff.mpr fun w hw => ?_
  have lM : (madeR net row).length = n := by rw [madeR_len, hr]
  rw [lM] at hw
  refine Int.not_lt.mp fun hlt => ?_
  obtain ⟨M, hM⟩ : ∃ M, M = madeR net row := ⟨_, rfl⟩
  rw [← hM] at hlt lM
  obtain ⟨t, ht, et⟩ := some_bits (fun k => decide (gt M (w + 1) < gt row k)) n
  have er : rowT n t = row.map fun x => if gt M (w + 1) < x then 1 else 0 := by
    refine ext_gt (by rw [rowT_len, List.length_map, hr]) fun k hk => ?_
    rw [rowT_len] at hk
    rw [gt_rowT hk, et k hk, gt_map _ (by rw [hr]; exact hk)]
    simp
  have em : madeR net (rowT n t) = M.map fun x => if gt M (w + 1) < x then 1 else 0 := by
    rw [er, hM]
    refine madeR_map (by rw [hr]; exact hn) fun x _ y _ hxy => ?_
    split <;> split <;> omega
  have g1 := I.is t ht w (by omega)
  have g2 := I.is t ht (w + 1) hw
  rw [em, gt_map _ (by omega), if_pos hlt] at g1
  rw [em, gt_map _ (by omega), if_neg (Int.lt_irrefl _)] at g2
  have b1 : (bg B w).testBit t = true := by
    cases e : (bg B w).testBit t with
    | true => rfl
    | false => rw [e] at g1; exact absurd g1 (by decide)
  have b2 : (bg B (w + 1)).testBit t = false := by
    cases e : (bg B (w + 1)).testBit t with
    | false => rfl
    | true => rw [e] at g2; exact absurd g2 (by decide)
  have z := wrong_bit I hw t
  rw [h w hw, b1, b2, decide_eq_true ht, Nat.zero_testBit] at z
  exact absurd z (by decide)
theorem some_fails {n : Nat} {net : List (Int × Int)} {B : List Nat} (I : BitsI n net B) {w : Nat} (hw : w + 1 < n) (h : 0 < wrongB n B w) : (wrongB n B w).log2 < 2 ^ n ∧ ¬ Rises (madeR net (rowT n (wrongB n B w).log2)) := by
  obtain ⟨t, ht⟩ : ∃ t, t = (wrongB n B w).log2 := ⟨_, rfl⟩
  have b : (wrongB n B w).testBit t = true := by
    rw [ht]
    exact Nat.testBit_log2 (by omega)
  rw [← ht]
  rw [wrong_bit I hw, Bool.and_eq_true, Bool.and_eq_true] at b
  obtain ⟨b1, b3, b2⟩ := b
  have b3 := of_decide_eq_true b3
  have b2 : (bg B (w + 1)).testBit t = false := by simpa using b2
  refine ⟨b3, fun r => ?_⟩
  have := rises_iff.mp r w (by rw [madeR_len, rowT_len]; exact hw)
  rw [I.is t b3 w (by omega), I.is t b3 (w + 1) hw, b1, b2] at this
  exact absurd this (by decide)
/-! ### the operators on naturals -/
theorem aShl_n {m j k : Nat} (hm : m < 2 ^ k) (hk : k + j ≤ 100000000) (h : VH) : aShl (.int (m : Int)) (.int (j : Int)) h = some (.int ((m * 2 ^ j : Nat) : Int), h) := by
  have hb : Builtin.Int.intBits (m : Int) ≤ k := by
    unfold Builtin.Int.intBits
    by_cases h0 : m = 0
    · subst h0
      simp
    · rw [if_neg (by simpa using h0), Int.natAbs_natCast]
      have := (Nat.log2_lt h0).mpr hm
      omega
  have ok : shlOk (m : Int) (j : Int) = true := by
    unfold shlOk
    rw [decide_eq_true (by omega), decide_eq_true (by omega)]
    rfl
  simp [aShl, ii, ok]
theorem aAnd_n (m k : Nat) (h : VH) : aAnd (.int (m : Int)) (.int (k : Int)) h = some (.int ((m &&& k : Nat) : Int), h) := by
  have : Builtin.bitAnd (m : Int) (k : Int) = ((m &&& k : Nat) : Int) := by
    unfold Builtin.bitAnd
    rw [decide_eq_true (by omega), decide_eq_true (by omega)]
    rfl
  simp [aAnd, ii, this]
theorem aOr_n (m k : Nat) (h : VH) : aOr (.int (m : Int)) (.int (k : Int)) h = some (.int ((m ||| k : Nat) : Int), h) := by
  have := L2.bitOr_nn (x := (m : Int)) (y := (k : Int)) (by omega) (by omega)
  rw [Int.toNat_natCast, Int.toNat_natCast] at this
  simp [aOr, ii, this]
theorem aShr_n (m k : Nat) (h : VH) : aShr (.int (m : Int)) (.int (k : Int)) h = some (.int ((m / 2 ^ k : Nat) : Int), h) := by
  simp [aShr, ii]
theorem bit_of (t k : Nat) : ((t / 2 ^ k &&& 1 : Nat) : Int) = if t.testBit k then 1 else 0 := by
  rw [Nat.and_one_is_mod, Nat.testBit_eq_decide_div_mod_eq]
  have := Nat.mod_two_eq_zero_or_one (t / 2 ^ k)
  rcases this with e | e <;> simp [e]
end K03

namespace K03
open PySem Vq
def minI (a b : Int) : Int := if b < a then b else a
def maxI (a b : Int) : Int := if b > a then b else a
theorem grow_set {h0 h : VH} {n : Nat} {c : Cell} (x : Grow h0 h) (hn : h0.length ≤ n) : Grow h0 (h.set n c) := by
  obtain ⟨g, rfl⟩ := x
  exact ⟨g.set (n - h0.length) c, List.set_append_right _ _ hn⟩
theorem mn_is (a b : Int) (h : VH) : bMin [.int a, .int b] h = some (.int (min a b), h) := by
  have : bMin [.int a, .int b] h = some (.int (minI a b), h) := rfl
  rw [this]
  have e : minI a b = min a b := by
    unfold minI
    split <;> omega
  rw [e]
theorem mx_is (a b : Int) (h : VH) : bMax [.int a, .int b] h = some (.int (max a b), h) := by
  have : bMax [.int a, .int b] h = some (.int (maxI a b), h) := rfl
  rw [this]
  have e : maxI a b = max a b := by
    unfold maxI
    split <;> omega
  rw [e]
theorem fst_st {names : List Int} {p : Int × Int} : (stF names p).1 = min (gt names p.1.toNat) (gt names p.2.toNat) := rfl
theorem snd_st {names : List Int} {p : Int × Int} : (stF names p).2 = max (gt names p.1.toNat) (gt names p.2.toNat) := rfl
theorem body_std {names : List Int} {own : List (Int × Int)} {p : Int × Int} (hp : OkP names.length p) (hz : own.length < 16777216) {N M : Nat} {H : VH} (c1 : H[N]? = some (.lst (names.map .int))) (c2 : H[M]? = some (.lst (own.map pD))) (hne : N ≠ M) (a b : D) (x y : Option D) :
    B1_standard_net [some a, some b, some (.ref N), some (.ref M), some (.int p.1), some (.int p.2), x, y] H = .ok (.nx, [some a, some b, some (.ref N), some (.ref M), some (.int p.1), some (.int p.2), some (.int (stF names p).1), some (.int (stF names p).2)], (H.set M (.lst ((own ++ [stF names p]).map pD))).set N (.lst ((stN names p).map .int))) := by
  obtain ⟨h1, h2, h3, h4, h5⟩ := hp
  have a1 := atR h1 h2
  have a2 := atR h3 h4
  have lk0 := lk_of c1
  have ty := tyL_of (lk_of c2)
  have ap := mAppend_of (d := .tup [.int (stF names p).1, .int (stF names p).2]) c2 (by simpa using hz)
  have e1 : own.map pD ++ [D.tup [.int (stF names p).1, .int (stF names p).2]] = (own ++ [stF names p]).map pD := by simp [pD]
  rw [e1] at ap
  obtain ⟨H2, eH2⟩ : ∃ H2, H2 = H.set M (.lst ((own ++ [stF names p]).map pD)) := ⟨_, rfl⟩
  rw [← eH2] at ap ⊢
  have c3 : H2[N]? = some (.lst (names.map .int)) := by rw [eH2, List.getElem?_set_ne (Ne.symm hne)]; exact c1
  have s1 := sLst_I c3 h1 (by omega) (stF names p).1
  have c4 := set_get (l' := (names.set p.1.toNat (stF names p).1).map .int) c3
  have s2 := sLst_I c4 h3 (by simp; omega) (stF names p).2
  rw [List.set_set] at s2
  have e2 : (names.set p.1.toNat (stF names p).1).set p.2.toNat (stF names p).2 = stN names p := rfl
  rw [e2] at s2
  have f1 := @fst_st names p
  have f2 := @snd_st names p
  generalize stN names p = u at *
  generalize (names.set p.1.toNat (stF names p).1).map D.int = u2 at *
  generalize (stF names p).1 = lo at *
  generalize (stF names p).2 = hi at *
  generalize (own ++ [stF names p]).map pD = u3 at *
  have b1 : ∀ h, bMin [.int (gt names p.1.toNat), .int (gt names p.2.toNat)] h = some (.int lo, h) := fun h => by rw [mn_is, f1]
  have b2 : ∀ h, bMax [.int (gt names p.1.toNat), .int (gt names p.2.toNat)] h = some (.int hi, h) := fun h => by rw [mx_is, f2]
  simp -implicitDefEqProofs [B1_standard_net, lk0, a1, a2, b1, b2, ty, ap, s1, s2]
theorem body_lstd {names : List Int} {own : List (Int × Int)} {p : Int × Int} (hp : OkP names.length p) (hz : own.length < 16777216) {N M : Nat} {H : VH} (c1 : H[N]? = some (.lst (names.map .int))) (c2 : H[M]? = some (.lst (own.map pD))) (hne : N ≠ M) (a b : D) (x y : Option D) :
    B1_law_standard [some a, some b, some (.ref M), some (.ref N), some (.int p.1), some (.int p.2), x, y] H = .ok (.nx, [some a, some b, some (.ref M), some (.ref N), some (.int p.1), some (.int p.2), some (.int (stF names p).1), some (.int (stF names p).2)], (H.set M (.lst ((own ++ [stF names p]).map pD))).set N (.lst ((stN names p).map .int))) := by
  obtain ⟨h1, h2, h3, h4, h5⟩ := hp
  have a1 := atR h1 h2
  have a2 := atR h3 h4
  have lk0 := lk_of c1
  have ty := tyL_of (lk_of c2)
  have ap := mAppend_of (d := .tup [.int (stF names p).1, .int (stF names p).2]) c2 (by simpa using hz)
  have e1 : own.map pD ++ [D.tup [.int (stF names p).1, .int (stF names p).2]] = (own ++ [stF names p]).map pD := by simp [pD]
  rw [e1] at ap
  obtain ⟨H2, eH2⟩ : ∃ H2, H2 = H.set M (.lst ((own ++ [stF names p]).map pD)) := ⟨_, rfl⟩
  rw [← eH2] at ap ⊢
  have c3 : H2[N]? = some (.lst (names.map .int)) := by rw [eH2, List.getElem?_set_ne (Ne.symm hne)]; exact c1
  have s1 := sLst_I c3 h1 (by omega) (stF names p).1
  have c4 := set_get (l' := (names.set p.1.toNat (stF names p).1).map .int) c3
  have s2 := sLst_I c4 h3 (by simp; omega) (stF names p).2
  rw [List.set_set] at s2
  have e2 : (names.set p.1.toNat (stF names p).1).set p.2.toNat (stF names p).2 = stN names p := rfl
  rw [e2] at s2
  have f1 := @fst_st names p
  have f2 := @snd_st names p
  generalize stN names p = u at *
  generalize (names.set p.1.toNat (stF names p).1).map D.int = u2 at *
  generalize (stF names p).1 = lo at *
  generalize (stF names p).2 = hi at *
  generalize (own ++ [stF names p]).map pD = u3 at *
  have b1 : ∀ h, bMin [.int (gt names p.1.toNat), .int (gt names p.2.toNat)] h = some (.int lo, h) := fun h => by rw [mn_is, f1]
  have b2 : ∀ h, bMax [.int (gt names p.1.toNat), .int (gt names p.2.toNat)] h = some (.int hi, h) := fun h => by rw [mx_is, f2]
  simp -implicitDefEqProofs [B1_law_standard, lk0, a1, a2, b1, b2, ty, ap, s1, s2]
theorem st_take {n : Nat} {net : List (Int × Int)} {k : Nat} (hk : k < net.length) : stR n (net.take (k + 1)) = st1 (stR n (net.take k)) net[k] := by
  rw [List.take_succ_eq_append_getElem hk, stR_snoc]
theorem wires_take {n : Nat} {net : List (Int × Int)} (h : Wires n net) (k : Nat) : Wires n (net.take k) := fun p hp => h p (List.mem_of_mem_take hp)
def stD (s : List (Int × Int) × List Int) : D := .tup [netD s.1, tupI s.2]
theorem rgB_nat {n : Nat} (hn : n ≤ 1000) : rgB 0 n = true := by
  unfold rgB inRng
  rw [decide_eq_true (by omega), decide_eq_true (by omega), decide_eq_true (by omega)]
  rfl
theorem rg_id (n : Nat) : rangeD 0 1 ((n : Int) - 0).toNat = (idI n).map .int := by
  rw [rangeD_one]
  unfold idI
  rw [List.map_map]
  have e : ((n : Int) - 0).toNat = n := by omega
  rw [e]
  refine List.map_congr_left fun k _ => ?_
  simp
theorem id_map (n : Nat) : (idI n).map D.int = (List.range n).map fun (k : Nat) => D.int (k : Int) := by
  unfold idI
  rw [List.map_map]
  rfl
theorem x_standard {n : Nat} (hn : n ≤ 1000) {net : List (Int × Int)} (hw : Wires n net) (hz : net.length ≤ 1000) (h : VH) : ∃ h', F_standard_net [.int n, netD net] h = .ok (stD (stR n net), h') ∧ Grow h h' := by
  obtain ⟨h1, eh1⟩ : ∃ h1, h1 = h ++ [.lst ((idI n).map .int)] ++ [.lst []] := ⟨_, rfl⟩
  obtain ⟨N, hN⟩ : ∃ N, N = h.length := ⟨_, rfl⟩
  obtain ⟨M, hM⟩ : ∃ M, M = h.length + 1 := ⟨_, rfl⟩
  have rg := rgB_nat hn
  have idm := id_map n
  obtain ⟨s', h', e, ⟨w, x, y, z, rfl⟩, g', c1', c2'⟩ := for_all (it := vIt (vVar 1)) (g := gP (pTup 2 (psCons (pN 4) (psCons (pN 5) psNil)))) (body := B1_standard_net) (s := [some (.int n), some (netD net), some (.ref N), some (.ref M), none, none, none, none]) (h := h1) (h1 := h1) (src := fun _ => some (net.map pD)) (xs := net.map pD)
    (fun k s h' => (∃ w x y z, s = [some (.int n), some (netD net), some (.ref N), some (.ref M), w, x, y, z]) ∧ Grow h h' ∧ h'[N]? = some (.lst ((stR n (net.take k)).2.map .int)) ∧ h'[M]? = some (.lst ((stR n (net.take k)).1.map pD))) (by simp [netD]) (fun _ _ _ _ => rfl) ⟨⟨_, _, _, _, rfl⟩, by rw [eh1]; exact (Grow.new _ _).app _, by rw [eh1, hN]; simp [stR], by rw [eh1, hM]; simp [stR]⟩ (by
      rintro k d s h' ed ⟨⟨w, x, y, z, rfl⟩, g, c1, c2⟩
      obtain ⟨hk, rfl⟩ := get_pD ed
      have I := stR_ok (wires_take hw k)
      have ol := I.olen
      have b := body_std (p := net[k]) (by rw [I.len]; exact hw net[k] (List.getElem_mem _)) (by rw [ol, List.length_take]; omega) c1 c2 (by omega) (.int n) (netD net) y z
      refine ⟨_, _, .inl (by rw [turn_P]; exact b), ⟨_, _, _, _, rfl⟩, grow_set (grow_set g (by omega)) (by omega), ?_, ?_⟩
      · rw [st_take hk]
        rw [List.getElem?_set_self (by rw [List.length_set]; exact lt_of_get c1)]
        rfl
      · rw [st_take hk, List.getElem?_set_ne (by omega), List.getElem?_set_self (lt_of_get c2)]
        rfl)
  have e : L1_standard_net [some (.int n), some (netD net), some (.ref N), some (.ref M), none, none, none, none] h1 = _ := e
  rw [List.length_map, List.take_length] at c1' c2'
  have l1 := lk_of c1'
  have l2 := lk_of c2'
  refine ⟨h', mF_rt (s' := [some (.int n), some (netD net), some (.ref N), some (.ref M), w, x, y, z]) ?_, g'⟩
  have eh1' : h ++ [Cell.lst ((idI n).map .int)] ++ [Cell.lst []] = h1 := eh1.symm
  simp only [List.append_assoc, List.cons_append, List.nil_append] at eh1'
  show m_standard_net [some (.int n), some (netD net), none, none, none, none, none, none] h = _
  rw [idm] at eh1'
  rw [show stD (stR n net) = .tup [.tup ((stR n net).1.map pD), .tup ((stR n net).2.map .int)] from rfl]
  generalize (stR n net).1.map pD = u1 at *
  generalize (stR n net).2.map D.int = u2 at *
  rw [hN, hM] at e
  simp only [hN, hM] at l1 l2 ⊢
  simp -implicitDefEqProofs [m_standard_net, vLR1, rg, eh1', e, l1, l2]
theorem x_law_standard {n : Nat} (hn : n ≤ 1000) {net : List (Int × Int)} (hw : Wires n net) (hz : net.length ≤ 1000) (h : VH) : ∃ h', F_law_standard [.int n, netD net] h = .ok (stD (stR n net), h') ∧ Grow h h' := by
  obtain ⟨h1, eh1⟩ : ∃ h1, h1 = h ++ [.lst []] ++ [.lst ((idI n).map .int)] := ⟨_, rfl⟩
  obtain ⟨M, hM⟩ : ∃ N, N = h.length := ⟨_, rfl⟩
  obtain ⟨N, hN⟩ : ∃ M, M = h.length + 1 := ⟨_, rfl⟩
  have rg := rgB_nat hn
  have idm := id_map n
  obtain ⟨s', h', e, ⟨w, x, y, z, rfl⟩, g', c1', c2'⟩ := for_all (it := vIt (vVar 1)) (g := gP (pTup 2 (psCons (pN 4) (psCons (pN 5) psNil)))) (body := B1_law_standard) (s := [some (.int n), some (netD net), some (.ref M), some (.ref N), none, none, none, none]) (h := h1) (h1 := h1) (src := fun _ => some (net.map pD)) (xs := net.map pD)
    (fun k s h' => (∃ w x y z, s = [some (.int n), some (netD net), some (.ref M), some (.ref N), w, x, y, z]) ∧ Grow h h' ∧ h'[N]? = some (.lst ((stR n (net.take k)).2.map .int)) ∧ h'[M]? = some (.lst ((stR n (net.take k)).1.map pD))) (by simp [netD]) (fun _ _ _ _ => rfl) ⟨⟨_, _, _, _, rfl⟩, by rw [eh1]; exact (Grow.new _ _).app _, by rw [eh1, hN]; simp [stR], by rw [eh1, hM]; simp [stR]⟩ (by
      rintro k d s h' ed ⟨⟨w, x, y, z, rfl⟩, g, c1, c2⟩
      obtain ⟨hk, rfl⟩ := get_pD ed
      have I := stR_ok (wires_take hw k)
      have ol := I.olen
      have b := body_lstd (p := net[k]) (by rw [I.len]; exact hw net[k] (List.getElem_mem _)) (by rw [ol, List.length_take]; omega) c1 c2 (by omega) (.int n) (netD net) y z
      refine ⟨_, _, .inl (by rw [turn_P]; exact b), ⟨_, _, _, _, rfl⟩, grow_set (grow_set g (by omega)) (by omega), ?_, ?_⟩
      · rw [st_take hk]
        rw [List.getElem?_set_self (by rw [List.length_set]; exact lt_of_get c1)]
        rfl
      · rw [st_take hk, List.getElem?_set_ne (by omega), List.getElem?_set_self (lt_of_get c2)]
        rfl)
  have e : L1_law_standard [some (.int n), some (netD net), some (.ref M), some (.ref N), none, none, none, none] h1 = _ := e
  rw [List.length_map, List.take_length] at c1' c2'
  have l1 := lk_of c1'
  have l2 := lk_of c2'
  refine ⟨h', mF_rt (s' := [some (.int n), some (netD net), some (.ref M), some (.ref N), w, x, y, z]) ?_, g'⟩
  have eh1' : h ++ [Cell.lst []] ++ [Cell.lst ((idI n).map .int)] = h1 := eh1.symm
  simp only [List.append_assoc, List.cons_append, List.nil_append] at eh1'
  show m_law_standard [some (.int n), some (netD net), none, none, none, none, none, none] h = _
  rw [idm] at eh1'
  rw [show stD (stR n net) = .tup [.tup ((stR n net).1.map pD), .tup ((stR n net).2.map .int)] from rfl]
  generalize (stR n net).1.map pD = u1 at *
  generalize (stR n net).2.map D.int = u2 at *
  rw [hN, hM] at e
  simp only [hN, hM] at l1 l2 ⊢
  simp -implicitDefEqProofs [m_law_standard, vLR1, rg, eh1', e, l1, l2]
end K03

namespace K03
open PySem Vq
/-! ### turned round -/
def mir (n : Nat) (p : Int × Int) : Int × Int := ((n : Int) - 1 - p.2, (n : Int) - 1 - p.1)
def negrev (row : List Int) : List Int := row.reverse.map fun x => -x
@[simp] theorem negrev_len (row : List Int) : (negrev row).length = row.length := by simp [negrev]
theorem gt_negrev {row : List Int} {w : Nat} (h : w < row.length) : gt (negrev row) w = - gt row (row.length - 1 - w) := by
  unfold negrev
  rw [gt_map _ (by rw [List.length_reverse]; exact h)]
  have e : gt row.reverse w = gt row (row.length - 1 - w) := by
    simp [gt, List.getD_eq_getElem?_getD, List.getElem?_reverse h]
  rw [e]
theorem mir_ok {n : Nat} {p : Int × Int} (h : OkP n p) : OkP n (mir n p) := by
  unfold OkP at *
  unfold mir
  simp only
  omega
theorem mir_wires {n : Nat} {net : List (Int × Int)} (h : Wires n net) : Wires n (net.map (mir n)) := fun p hp => by
  obtain ⟨q, hq, rfl⟩ := List.mem_map.mp hp
  exact mir_ok (h q hq)
theorem mir_mir (n : Nat) (net : List (Int × Int)) : (net.map (mir n)).map (mir n) = net := by
  rw [List.map_map]
  conv => rhs; rw [← List.map_id net]
  refine List.map_congr_left fun p _ => ?_
  obtain ⟨a, b⟩ := p
  simp only [Function.comp, mir, id]
  congr 1 <;> omega
theorem made1_mir {n : Nat} {row : List Int} {p : Int × Int} (hl : row.length = n) (hp : OkP n p) : made1 (negrev row) (mir n p) = negrev (made1 row p) := by
  have hm := mir_ok hp
  have l1 : (made1 row p).length = n := by rw [made1_len, hl]
  unfold OkP at hp
  refine ext_gt (by rw [made1_len, negrev_len, negrev_len, made1_len]) fun w hw => ?_
  rw [made1_len, negrev_len, hl] at hw
  rw [gt_made1 (by rw [negrev_len, hl]; exact hm), gt_negrev (row := made1 row p) (by omega), l1, gt_made1 (by rw [hl]; exact hp)]
  have e1 : (mir n p).1.toNat = n - 1 - p.2.toNat := by
    show ((n : Int) - 1 - p.2).toNat = _
    omega
  have e2 : (mir n p).2.toNat = n - 1 - p.1.toNat := by
    show ((n : Int) - 1 - p.1).toNat = _
    omega
  rw [e1, e2, gt_negrev (by omega), gt_negrev (by omega), gt_negrev (by omega), hl]
  rw [show n - 1 - (n - 1 - p.2.toNat) = p.2.toNat by omega, show n - 1 - (n - 1 - p.1.toNat) = p.1.toNat by omega]
  by_cases w1 : w = n - 1 - p.2.toNat
  · rw [if_pos w1, if_neg (by omega), if_pos (by omega)]
    omega
  · rw [if_neg w1]
    by_cases w2 : w = n - 1 - p.1.toNat
    · rw [if_pos w2, if_pos (by omega)]
      omega
    · rw [if_neg w2, if_neg (by omega), if_neg (by omega)]
theorem madeR_mir {n : Nat} : ∀ {net : List (Int × Int)} {row : List Int}, row.length = n → Wires n net → madeR (net.map (mir n)) (negrev row) = negrev (madeR net row)
  | [], _, _, _ => rfl
  | p :: r, row, hl, hw => by
    have hp : OkP n p := hw p (List.mem_cons_self ..)
    show madeR (r.map (mir n)) (made1 (negrev row) (mir n p)) = negrev (madeR r (made1 row p))
    rw [made1_mir hl hp]
    exact madeR_mir (by rw [made1_len, hl]) fun q hq => hw q (List.mem_cons_of_mem _ hq)
theorem negrev_lim {row : List Int} (h : Lim row) : Lim (negrev row) := ⟨fun x hx => by
  obtain ⟨y, hy, rfl⟩ := List.mem_map.mp hx
  have := h.lim y (by simpa using hy)
  show -E30 ≤ -y ∧ -y ≤ E30
  omega⟩
/-! ### other names -/
def rn (names : List Int) (p : Int × Int) : Int × Int := (gt names p.1.toNat, gt names p.2.toNat)
def und (n : Nat) (names : List Int) : List Int := (List.range n).map fun (w : Nat) => ((names.idxOf (w : Int) : Nat) : Int)
@[simp] theorem und_len (n : Nat) (names : List Int) : (und n names).length = n := by simp [und]
theorem gt_und {n : Nat} {names : List Int} {w : Nat} (h : w < n) : gt (und n names) w = ((names.idxOf (w : Int) : Nat) : Int) := by simp [gt, und, h]
structure NmI (n : Nat) (names : List Int) : Prop where
  perm : names.Perm (idI n)
theorem NmI.len {n : Nat} {names : List Int} (h : NmI n names) : names.length = n := by rw [h.perm.length_eq, id_len]
theorem NmI.mem {n : Nat} {names : List Int} (h : NmI n names) {x : Int} : x ∈ names ↔ 0 ≤ x ∧ x < n := by
  rw [h.perm.mem_iff]
  unfold idI
  constructor
  · intro hx
    obtain ⟨k, hk, rfl⟩ := List.mem_map.mp hx
    rw [List.mem_range] at hk
    show 0 ≤ (k : Int) ∧ (k : Int) < n
    omega
  · intro hx
    refine List.mem_map.mpr ⟨x.toNat, List.mem_range.mpr (by omega), ?_⟩
    show ((x.toNat : Nat) : Int) = x
    omega
theorem NmI.nodup {n : Nat} {names : List Int} (h : NmI n names) : names.Nodup := by
  refine h.perm.nodup_iff.mpr ?_
  unfold idI
  refine List.pairwise_map.mpr ?_
  refine List.nodup_range.imp fun hab z => hab ?_
  have z : ((_ : Nat) : Int) = ((_ : Nat) : Int) := z
  omega
theorem NmI.rng {n : Nat} {names : List Int} (h : NmI n names) {k : Nat} (hk : k < n) : 0 ≤ gt names k ∧ gt names k < n := by
  have hl := h.len
  have e : gt names k = names[k]'(by omega) := by simp [gt, hl, hk]
  rw [e]
  exact h.mem.mp (List.getElem_mem _)
theorem NmI.und_rng {n : Nat} {names : List Int} (h : NmI n names) {w : Nat} (hw : w < n) : 0 ≤ gt (und n names) w ∧ gt (und n names) w < n := by
  rw [gt_und hw]
  have := List.idxOf_lt_length_of_mem (h.mem.mpr ⟨by omega, by omega⟩ : (w : Int) ∈ names)
  rw [h.len] at this
  omega
theorem NmI.there {n : Nat} {names : List Int} (h : NmI n names) {w : Nat} (hw : w < n) : gt names (gt (und n names) w).toNat = w := by
  have hm : (w : Int) ∈ names := h.mem.mpr ⟨by omega, by omega⟩
  have hi := List.idxOf_lt_length_of_mem hm
  rw [gt_und hw, Int.toNat_natCast]
  have : gt names (names.idxOf (w : Int)) = names[names.idxOf (w : Int)] := by simp [gt, hi]
  rw [this]
  exact List.getElem_idxOf hi
theorem NmI.back {n : Nat} {names : List Int} (h : NmI n names) {k : Nat} (hk : k < n) : gt (und n names) (gt names k).toNat = k := by
  have hr := h.rng hk
  have hl := h.len
  have hw : (gt names k).toNat < n := by omega
  rw [gt_und hw]
  have e : (((gt names k).toNat : Nat) : Int) = names[k]'(by omega) := by
    have : gt names k = names[k]'(by omega) := by simp [gt, hl, hk]
    rw [← this]
    omega
  rw [e, h.nodup.idxOf_getElem]
theorem rn_ok {n : Nat} {names : List Int} (h : NmI n names) {p : Int × Int} (hp : OkP n p) : OkP n (rn names p) := by
  unfold OkP at *
  have r1 := h.rng (k := p.1.toNat) (by omega)
  have r2 := h.rng (k := p.2.toNat) (by omega)
  have b1 := h.back (k := p.1.toNat) (by omega)
  have b2 := h.back (k := p.2.toNat) (by omega)
  refine ⟨r1.1, r1.2, r2.1, r2.2, fun e => ?_⟩
  have e : gt names p.1.toNat = gt names p.2.toNat := e
  rw [e, b2] at b1
  omega
theorem rn_wires {n : Nat} {names : List Int} (h : NmI n names) {net : List (Int × Int)} (hw : Wires n net) : Wires n (net.map (rn names)) := fun p hp => by
  obtain ⟨q, hq, rfl⟩ := List.mem_map.mp hp
  exact rn_ok h (hw q hq)
theorem rn_back {n : Nat} {names : List Int} (h : NmI n names) {net : List (Int × Int)} (hw : Wires n net) : (net.map (rn names)).map (rn (und n names)) = net := by
  rw [List.map_map]
  conv => rhs; rw [← List.map_id net]
  refine List.map_congr_left fun p hp => ?_
  have hp := hw p hp
  obtain ⟨a, b⟩ := p
  simp only at hp
  show (gt (und n names) (gt names a.toNat).toNat, gt (und n names) (gt names b.toNat).toNat) = (a, b)
  rw [h.back (by omega), h.back (by omega)]
  congr 1 <;> omega
def led (n : Nat) (names row : List Int) : List Int := (List.range n).map fun w => gt row (gt (und n names) w).toNat
@[simp] theorem led_len (n : Nat) (names row : List Int) : (led n names row).length = n := by simp [led]
theorem gt_led {n : Nat} {names row : List Int} {w : Nat} (h : w < n) : gt (led n names row) w = gt row (gt (und n names) w).toNat := by simp [gt, led, h]
theorem led_name {n : Nat} {names row : List Int} (h : NmI n names) {k : Nat} (hk : k < n) : gt (led n names row) (gt names k).toNat = gt row k := by
  have := h.rng hk
  rw [gt_led (by omega), h.back hk, Int.toNat_natCast]
theorem made1_led {n : Nat} {names row : List Int} {p : Int × Int} (h : NmI n names) (hl : row.length = n) (hp : OkP n p) : made1 (led n names row) (rn names p) = led n names (made1 row p) := by
  have hr := rn_ok h hp
  refine ext_gt (by rw [made1_len, led_len, led_len]) fun w hw => ?_
  rw [made1_len, led_len] at hw
  have ur := h.und_rng hw
  have th := h.there hw
  rw [gt_made1 (by rw [led_len]; exact hr), gt_led (row := made1 row p) hw, gt_made1 (by rw [hl]; exact hp)]
  unfold OkP at hp
  have b1 := h.back (k := p.1.toNat) (by omega)
  have b2 := h.back (k := p.2.toNat) (by omega)
  have r1 := h.rng (k := p.1.toNat) (by omega)
  have r2 := h.rng (k := p.2.toNat) (by omega)
  have e1 : (rn names p).1 = gt names p.1.toNat := rfl
  have e2 : (rn names p).2 = gt names p.2.toNat := rfl
  rw [e1, e2, led_name h (by omega), led_name h (by omega), gt_led hw]
  have i1 : (w = (gt names p.1.toNat).toNat) ↔ ((gt (und n names) w).toNat = p.1.toNat) := by
    constructor
    · intro z
      rw [z, b1]
      omega
    · intro z
      rw [← z, th]
      omega
  have i2 : (w = (gt names p.2.toNat).toNat) ↔ ((gt (und n names) w).toNat = p.2.toNat) := by
    constructor
    · intro z
      rw [z, b2]
      omega
    · intro z
      rw [← z, th]
      omega
  simp only [i1, i2]
theorem madeR_led {n : Nat} {names : List Int} (h : NmI n names) : ∀ {net : List (Int × Int)} {row : List Int}, row.length = n → Wires n net → madeR (net.map (rn names)) (led n names row) = led n names (madeR net row)
  | [], _, _, _ => rfl
  | p :: r, row, hl, hw => by
    have hp : OkP n p := hw p (List.mem_cons_self ..)
    show madeR (r.map (rn names)) (made1 (led n names row) (rn names p)) = led n names (madeR r (made1 row p))
    rw [made1_led h hl hp]
    exact madeR_led h (by rw [made1_len, hl]) fun q hq => hw q (List.mem_cons_of_mem _ hq)
theorem gt_mem {row : List Int} {k : Nat} (h : k < row.length) : gt row k ∈ row := by
  have e : gt row k = row[k] := by simp [gt, h]
  rw [e]
  exact List.getElem_mem _
theorem led_lim {n : Nat} {names row : List Int} (h : NmI n names) (hl : row.length = n) (lim : Lim row) : Lim (led n names row) := ⟨fun x hx => by
  obtain ⟨w, hw, rfl⟩ := List.mem_map.mp hx
  rw [List.mem_range] at hw
  have ur := h.und_rng hw
  have hu : (gt (und n names) w).toNat < row.length := by omega
  exact lim.lim _ (gt_mem hu)⟩
theorem led_back {n : Nat} {names row : List Int} (h : NmI n names) (hl : row.length = n) : ((List.range n).map fun w => gt (led n names row) (gt names w).toNat) = row := by
  refine ext_gt (by simp [hl]) fun w hw => ?_
  have hw : w < n := by simpa using hw
  have e : gt ((List.range n).map fun w => gt (led n names row) (gt names w).toNat) w = gt (led n names row) (gt names w).toNat := by simp [gt, hw]
  rw [e, led_name h hw]
/-! ### ascending rows -/
def ascB (row : List Int) : Bool := (row.zip row.tail).all fun y => decide (y.1 ≤ y.2)
theorem ascB_iff {row : List Int} : ascB row = true ↔ Rises row := by
  rw [rises_iff]
  unfold ascB
  rw [List.all_eq_true]
  constructor
  · intro h w hw
    have := h (row[w], row[w + 1]) (List.mem_iff_getElem?.mpr ⟨w, by
      rw [List.getElem?_zip_eq_some]
      refine ⟨List.getElem?_eq_getElem (by omega), ?_⟩
      rw [List.getElem?_tail]
      exact List.getElem?_eq_getElem hw⟩)
    have this : row[w] ≤ row[w + 1] := of_decide_eq_true this
    simpa [gt, hw, show w < row.length by omega] using this
  · intro h y hy
    obtain ⟨i, hi⟩ := List.mem_iff_getElem?.mp hy
    rw [List.getElem?_zip_eq_some] at hi
    obtain ⟨h1, h2⟩ := hi
    rw [List.getElem?_tail] at h2
    obtain ⟨hl, e2⟩ := List.getElem?_eq_some_iff.mp h2
    obtain ⟨hl1, e1⟩ := List.getElem?_eq_some_iff.mp h1
    have := h i hl
    refine decide_eq_true ?_
    rw [← e1, ← e2]
    simpa [gt, hl, hl1] using this
end K03

namespace K03
open PySem Vq
theorem x_mirrored {n : Nat} {net : List (Int × Int)} (hz : net.length ≤ 1000000) (h : VH) : ∃ h', F_mirrored_net [.int n, netD net] h = .ok (netD (net.map (mir n)), h') ∧ Grow h h' := by
  have c1 : C1_mirrored_net [some (.int n), some (netD net), none, none] h = .ok (.ref h.length, h ++ [.lst ((net.map (mir n)).map pD)]) := by
    unfold C1_mirrored_net
    rw [lc_tup (h1 := h) (ys := net) (c := pD) (fun _ => true) (fun p => pD (mir n p)) (by simp [netD]) (by omega) (by
      intro y hy acc
      refine ⟨_, rfl, rfl, fun _ => ?_⟩
      simp -implicitDefEqProofs [E1_mirrored_net, vwipe, pD, mir])]
    simp only [List.filter_eq_self.mpr (fun _ _ => rfl), List.map_map]
    rfl
  have lk0 := lk_at h ((net.map (mir n)).map pD) []
  refine ⟨h ++ [.lst ((net.map (mir n)).map pD)], mF_rt (s' := [some (.int n), some (netD net), none, none]) ?_, .new _ _⟩
  have f : netD (net.map (mir n)) = .tup ((net.map (mir n)).map pD) := rfl
  rw [f]
  generalize (net.map (mir n)).map pD = u at *
  simp -implicitDefEqProofs [m_mirrored_net, c1, lk0]
theorem x_renamed {n : Nat} {net : List (Int × Int)} {names : List Int} {d : D} (hd : ∀ h, seqOf h d = some (names.map .int)) (hl : names.length = n) (hw : Wires n net) (hz : net.length ≤ 1000000) (h : VH) : ∃ h', F_renamed_net [netD net, d] h = .ok (netD (net.map (rn names)), h') ∧ Grow h h' := by
  have c1 : C1_renamed_net [some (netD net), some d, none, none] h = .ok (.ref h.length, h ++ [.lst ((net.map (rn names)).map pD)]) := by
    unfold C1_renamed_net
    rw [lc_tup (h1 := h) (ys := net) (c := pD) (fun _ => true) (fun p => pD (rn names p)) (by simp [netD]) (by omega) (by
      intro y hy acc
      have hp := hw y hy
      have a1 := atR (row := names) hp.1 (by omega)
      have a2 := atR (row := names) hp.2.2.1 (by omega)
      refine ⟨_, rfl, rfl, fun _ => ?_⟩
      simp -implicitDefEqProofs [E1_renamed_net, vwipe, pD, rn, hd, a1, a2])]
    simp only [List.filter_eq_self.mpr (fun _ _ => rfl), List.map_map]
    rfl
  have lk0 := lk_at h ((net.map (rn names)).map pD) []
  refine ⟨h ++ [.lst ((net.map (rn names)).map pD)], mF_rt (s' := [some (netD net), some d, none, none]) ?_, .new _ _⟩
  have f : netD (net.map (rn names)) = .tup ((net.map (rn names)).map pD) := rfl
  rw [f]
  generalize (net.map (rn names)).map pD = u at *
  simp -implicitDefEqProofs [m_renamed_net, c1, lk0]
def stdB (net : List (Int × Int)) : Bool := net.all fun p => decide (p.1 < p.2)
theorem x_is_standard {net : List (Int × Int)} (hz : net.length ≤ 1000000) (h : VH) : ∃ h', F_is_standard [netD net] h = .ok (.bl (stdB net), h') ∧ Grow h h' := by
  have c1 : C1_is_standard [some (netD net), none, none] h = .ok (.ref h.length, h ++ [.lst ((net.map fun p => decide (p.1 < p.2)).map .bl)]) := by
    unfold C1_is_standard
    rw [lc_tup (h1 := h) (ys := net) (c := pD) (fun _ => true) (fun p => .bl (decide (p.1 < p.2))) (by simp [netD]) (by omega) (by
      intro y hy acc
      refine ⟨_, rfl, rfl, fun _ => ?_⟩
      simp -implicitDefEqProofs [E1_is_standard, vwipe])]
    simp only [List.filter_eq_self.mpr (fun _ _ => rfl), List.map_map]
    rfl
  have ba := bAll_r (h := h ++ [.lst ((net.map fun p => decide (p.1 < p.2)).map .bl)]) (n := h.length) (l := net.map fun p => decide (p.1 < p.2)) (lk_at h _ [])
  rw [List.all_map] at ba
  refine ⟨h ++ [.lst ((net.map fun p => decide (p.1 < p.2)).map .bl)], mF_rt (s' := [some (netD net), none, none]) ?_, .new _ _⟩
  have e : (net.all (id ∘ fun p : Int × Int => decide (p.1 < p.2))) = stdB net := rfl
  rw [e] at ba
  generalize (net.map fun p => decide (p.1 < p.2)).map D.bl = l at *
  simp -implicitDefEqProofs [m_is_standard, c1, ba]
theorem x_does_sort {net : List (Int × Int)} {row : List Int} (hw : Wires row.length net) (hz : row.length ≤ 1000000) (h : VH) : ∃ h', F_does_sort_row [netD net, tupI row] h = .ok (.bl (ascB (madeR net row)), h') ∧ Grow h h' := by
  have e1 := x_made_row hw h
  obtain ⟨h1, e2, g2⟩ := x_ascending (row := madeR net row) (by rw [madeR_len]; exact hz) (h ++ [.lst ((madeR net row).map .int)])
  refine ⟨h1, mF_rt (s' := [some (netD net), some (tupI row)]) ?_, (Grow.new _ _).trans g2⟩
  have e2 : F_is_ascending [tupI (madeR net row)] (h ++ [Cell.lst ((madeR net row).map .int)]) = .ok (.bl (ascB (madeR net row)), h1) := e2
  generalize (madeR net row).map D.int = u at *
  simp -implicitDefEqProofs [m_does_sort_row, e1, e2]
end K03

namespace K03
open PySem Vq
theorem rng_get {lo : Int} {n k : Nat} {d : D} (ed : (rangeD lo 1 n)[k]? = some d) : k < n ∧ d = .int (lo + k) := by
  rw [rangeD_get] at ed
  by_cases h : k < n
  · rw [if_pos h] at ed
    cases ed
    exact ⟨h, by rw [Int.mul_one]⟩
  · rw [if_neg h] at ed
    cases ed
theorem shl1 {j : Nat} (hj : j ≤ 100000) (h : VH) : aShl (.int 1) (.int (j : Int)) h = some (.int ((2 ^ j : Nat) : Int), h) := by
  have := aShl_n (m := 1) (j := j) (k := 1) (by decide) (by omega) h
  rw [Nat.one_mul] at this
  exact this
theorem pow_le {a b : Nat} (h : a ≤ b) : 2 ^ a ≤ 2 ^ b := Nat.pow_le_pow_right (by decide) h
theorem pow10 {a : Nat} (h : a ≤ 10) : 2 ^ a ≤ 1024 := pow_le h
def castL (B : List Nat) : List Int := B.map Int.ofNat
theorem gt_cast (B : List Nat) (k : Nat) : gt (castL B) k = (bg B k : Int) := by
  unfold gt castL bg
  simp only [List.getD_eq_getElem?_getD, List.getElem?_map]
  cases B[k]? <;> rfl
theorem set_cast (B : List Nat) (k m : Nat) : (castL B).set k (m : Int) = castL (B.set k m) := by
  unfold castL
  rw [List.map_set]
  rfl
@[simp] theorem cast_len (B : List Nat) : (castL B).length = B.length := by simp [castL]
/-! ### the masks -/
theorem mask_turn {n w d : Nat} (hn : n ≤ 10) (hd : w + 1 + d < n) (a b c k x1 x2 x3 x4 x5 x6 : Option D) (h : VH) :
    B3_law_failing [a, b, c, some (.int (w : Int)), some (.int (maskR w d : Nat)), some (.int (((w : Int) + 1) + (d : Nat))), x1, x2, x3, x4, x5, x6] h = .ok (.nx, [a, b, c, some (.int (w : Int)), some (.int (maskR w (d + 1) : Nat)), some (.int (((w : Int) + 1) + (d : Nat))), x1, x2, x3, x4, x5, x6], h) := by
  have e : ((w : Int) + 1) + (d : Nat) = ((w + 1 + d : Nat) : Int) := by omega
  have p := pow10 (a := w + 1 + d) (by omega)
  have s1 := shl1 (j := w + 1 + d) (by omega)
  have s2 := aShl_n (m := maskR w d) (j := 2 ^ (w + 1 + d)) (mask_lt w d) (by omega)
  have s3 := aOr_n (maskR w d) (maskR w d * 2 ^ 2 ^ (w + 1 + d))
  have s4 : maskR w d ||| maskR w d * 2 ^ 2 ^ (w + 1 + d) = maskR w (d + 1) := rfl
  rw [s4] at s3
  rw [e]
  generalize maskR w (d + 1) = M1 at *
  generalize maskR w d * 2 ^ 2 ^ (w + 1 + d) = M2 at *
  generalize maskR w d = M3 at *
  generalize 2 ^ (w + 1 + d) = K at *
  generalize w + 1 + d = j at *
  simp -implicitDefEqProofs [B3_law_failing, s1, s2, s3]
theorem mask_one {n w : Nat} (hn : n ≤ 10) (hw : w < n) {N : Nat} {B : List Nat} (hB : B.length ≤ 1000) {H : VH} (cB : H[N]? = some (.lst ((castL B).map .int))) (b y z x1 x2 x3 x4 x5 x6 : Option D) :
    ∃ y' z', B4_law_failing [some (.int (n : Int)), b, some (.ref N), some (.int (w : Int)), y, z, x1, x2, x3, x4, x5, x6] H = .ok (.nx, [some (.int (n : Int)), b, some (.ref N), some (.int (w : Int)), y', z', x1, x2, x3, x4, x5, x6], H.set N (.lst ((castL (B ++ [maskR w (n - 1 - w)])).map .int))) := by
  have p := pow10 (a := w) (by omega)
  have s1 := shl1 (j := w) (by omega)
  have s2 := shl1 (j := 2 ^ w) (by omega)
  have hp : 0 < 2 ^ 2 ^ w := Nat.pow_pos (by decide)
  have s3 : ((2 ^ 2 ^ w : Nat) : Int) - 1 = ((2 ^ 2 ^ w - 1 : Nat) : Int) := by omega
  have s4 := aShl_n (m := 2 ^ 2 ^ w - 1) (j := 2 ^ w) (k := 2 ^ w) (by omega) (by omega)
  have s5 : (2 ^ 2 ^ w - 1) * 2 ^ 2 ^ w = maskR w 0 := rfl
  rw [s5] at s4
  have hit : (vRng2 (vCons (vOp dAdd (vVar 3) (vC (.int 1))) (vCons (vVar 0) vNil))) [some (.int (n : Int)), b, some (.ref N), some (.int (w : Int)), some (.int (maskR w 0 : Nat)), z, x1, x2, x3, x4, x5, x6] H = .ok (fun _ => some (rangeD ((w : Int) + 1) 1 ((n : Int) - ((w : Int) + 1)).toNat), H) :=
    vRng2_of (by simp) (inRng_small (by omega) (by omega)) (inRng_small (by omega) (by omega))
  have ln : ((n : Int) - ((w : Int) + 1)).toNat = n - 1 - w := by omega
  rw [ln] at hit
  obtain ⟨s', H', eL, ⟨z', rfl⟩, rfl⟩ := for_all (g := gP (pN 5)) (body := B3_law_failing) (fun d s h' => (∃ z', s = [some (.int (n : Int)), b, some (.ref N), some (.int (w : Int)), some (.int (maskR w d : Nat)), z', x1, x2, x3, x4, x5, x6]) ∧ h' = H) hit (fun _ _ _ _ => rfl) ⟨⟨z, rfl⟩, rfl⟩ (by
    rintro d v s h' ed ⟨⟨z', rfl⟩, rfl⟩
    obtain ⟨hd, rfl⟩ := rng_get ed
    have b := mask_turn hn (w := w) (d := d) (by omega) (some (.int (n : Int))) b (some (.ref N)) (some (.int ((w : Int) + 1 + (d : Nat)))) x1 x2 x3 x4 x5 x6 h'
    exact ⟨_, _, .inl (by rw [turn_N]; exact b), ⟨_, rfl⟩, rfl⟩)
  have eL : L3_law_failing [some (.int (n : Int)), b, some (.ref N), some (.int (w : Int)), some (.int (maskR w 0 : Nat)), z, x1, x2, x3, x4, x5, x6] H' = _ := eL
  have lr : (rangeD ((w : Int) + 1) 1 (n - 1 - w)).length = n - 1 - w := rangeD_length ..
  rw [lr] at eL
  have ty := tyL_of (lk_of cB)
  have ap := mAppend_of (d := .int (maskR w (n - 1 - w) : Nat)) cB (by simp only [List.length_map, cast_len]; omega)
  have e1 : (castL B).map D.int ++ [D.int (maskR w (n - 1 - w) : Nat)] = (castL (B ++ [maskR w (n - 1 - w)])).map D.int := by simp [castL]
  rw [e1] at ap
  refine ⟨some (.int (maskR w (n - 1 - w) : Nat)), z', ?_⟩
  generalize (castL (B ++ [maskR w (n - 1 - w)])).map D.int = u at *
  generalize maskR w (n - 1 - w) = M at *
  generalize maskR w 0 = M0 at *
  generalize 2 ^ 2 ^ w - 1 = M1 at *
  generalize 2 ^ 2 ^ w = M2 at *
  generalize 2 ^ w = M3 at *
  simp -implicitDefEqProofs [B4_law_failing, s1, s2, s3, s4, eL, ty, ap]
/-! ### a comparator on all rows -/
theorem bits_turn {n : Nat} {B : List Nat} {p : Int × Int} (hB : B.length = n) (hp : OkP n p) {N : Nat} {H : VH} (cB : H[N]? = some (.lst ((castL B).map .int))) (a b w m k x y z t : Option D) :
    ∃ x' y', B2_law_failing [a, b, some (.ref N), w, m, k, some (.int p.1), some (.int p.2), x, y, z, t] H = .ok (.nx, [a, b, some (.ref N), w, m, k, some (.int p.1), some (.int p.2), x', y', z, t], H.set N (.lst ((castL (bit1 B p)).map .int))) := by
  obtain ⟨h1, h2, h3, h4, h5⟩ := hp
  have lk0 := lk_of cB
  have a1 := atR (row := castL B) h1 (by rw [cast_len]; omega)
  have a2 := atR (row := castL B) h3 (by rw [cast_len]; omega)
  rw [gt_cast] at a1 a2
  have b1 := aAnd_n (bg B p.1.toNat) (bg B p.2.toNat)
  have b2 := aOr_n (bg B p.1.toNat) (bg B p.2.toNat)
  have s1 := sLst_I cB h1 (by rw [cast_len]; omega) ((bg B p.1.toNat &&& bg B p.2.toNat : Nat) : Int)
  rw [set_cast] at s1
  have c2 := set_get (l' := (castL (B.set p.1.toNat (bg B p.1.toNat &&& bg B p.2.toNat))).map .int) cB
  have s2 := sLst_I c2 h3 (by rw [cast_len, List.length_set]; omega) ((bg B p.1.toNat ||| bg B p.2.toNat : Nat) : Int)
  rw [set_cast, List.set_set] at s2
  have e : (B.set p.1.toNat (bg B p.1.toNat &&& bg B p.2.toNat)).set p.2.toNat (bg B p.1.toNat ||| bg B p.2.toNat) = bit1 B p := rfl
  rw [e] at s2
  refine ⟨some (.int ((bg B p.1.toNat &&& bg B p.2.toNat : Nat) : Int)), some (.int ((bg B p.1.toNat ||| bg B p.2.toNat : Nat) : Int)), ?_⟩
  generalize bit1 B p = u at *
  generalize (castL (B.set p.1.toNat (bg B p.1.toNat &&& bg B p.2.toNat))).map D.int = u2 at *
  generalize bg B p.1.toNat &&& bg B p.2.toNat = u3 at *
  generalize bg B p.1.toNat ||| bg B p.2.toNat = u4 at *
  simp -implicitDefEqProofs [B2_law_failing, lk0, a1, a2, b1, b2, s1, s2]
end K03

namespace K03
open PySem Vq
theorem C1_fail {n t : Nat} (hn : n ≤ 1000) {s : VS} {h : VH} (g0 : s[0]? = some (some (.int (n : Int)))) (g11 : s[11]? = some (some (.int (t : Int)))) (hl : s.length = 12) : C1_law_failing s h = .ok (.ref h.length, h ++ [.lst ((rowT n t).map .int)]) := by
  unfold C1_law_failing
  rw [lc_rng1 (h1 := h) (n := (n : Int)) (fun k => .int (if t.testBit k then 1 else 0)) (by simp [g0]) (by omega) (by omega) (by
    intro k hk acc
    refine ⟨_, rfl, ?_⟩
    have l1 : (vwipe s [5]).length = 12 := by simp [vwipe, hl]
    have v5 : ((vwipe s [5]).set 5 (some (D.int (k : Int))))[5]? = some (some (.int (k : Int))) := List.getElem?_set_self (by omega)
    have v11 : ((vwipe s [5]).set 5 (some (D.int (k : Int))))[11]? = some (some (.int (t : Int))) := by
      rw [List.getElem?_set_ne (by decide)]
      simp [vwipe, g11]
    have s1 := aShr_n t k
    have s2 := aAnd_n (t / 2 ^ k) 1
    rw [bit_of] at s2
    have e1 : ((1 : Nat) : Int) = 1 := rfl
    rw [e1] at s2
    generalize t / 2 ^ k = q at *
    generalize (if t.testBit k then (1 : Int) else 0) = r at *
    simp -implicitDefEqProofs [E1_law_failing, v5, v11, s1, s2])]
  unfold rowT
  rw [List.map_map, Int.toNat_natCast]
  rfl
/-- what the search of a failing row tells -/
def FailR (n : Nat) (net : List (Int × Int)) (r : D) : Prop := (r = .non ∧ Sorts n net) ∨ ∃ t, r = tupI (rowT n t) ∧ ¬ Rises (madeR net (rowT n t))
theorem bits_loop {n : Nat} (hn : n ≤ 10) (b : D) {h0 h : VH} (g0 : Grow h0 h) {N : Nat} (hN : h0.length ≤ N) (cN : h[N]? = some (.lst ((castL []).map .int))) :
    ∃ w y z h', L4_law_failing [some (.int (n : Int)), some b, some (.ref N), none, none, none, none, none, none, none, none, none] h = .ok (.nx, [some (.int (n : Int)), some b, some (.ref N), w, y, z, none, none, none, none, none, none], h') ∧ Grow h0 h' ∧ h'[N]? = some (.lst ((castL (bits0 n)).map .int)) := by
  have hit : (vRng1 (vCons (vVar 0) vNil)) [some (.int (n : Int)), some b, some (.ref N), none, none, none, none, none, none, none, none, none] h = .ok (fun _ => some (rangeD 0 1 (n : Int).toNat), h) := vRng1_of (by simp) (inRng_small (by omega) (by omega))
  rw [Int.toNat_natCast] at hit
  obtain ⟨s', h', eL, ⟨w, y, z, rfl⟩, g', c'⟩ := for_all (g := gP (pN 3)) (body := B4_law_failing) (fun k s h' => (∃ w y z, s = [some (.int (n : Int)), some b, some (.ref N), w, y, z, none, none, none, none, none, none]) ∧ Grow h0 h' ∧ h'[N]? = some (.lst ((castL ((bits0 n).take k)).map .int))) hit (fun _ _ _ _ => rfl) ⟨⟨_, _, _, rfl⟩, g0, cN⟩ (by
    rintro k d s h' ed ⟨⟨w, y, z, rfl⟩, g, c⟩
    obtain ⟨hk, rfl⟩ := rng_get ed
    have lB : ((bits0 n).take k).length ≤ 1000 := by
      rw [List.length_take]
      omega
    obtain ⟨y', z', e⟩ := mask_one hn hk lB c (some b) y z none none none none none none
    have ek : (0 : Int) + (k : Int) = (k : Int) := by omega
    rw [ek]
    refine ⟨_, _, .inl (by rw [turn_N]; exact e), ⟨_, _, _, rfl⟩, grow_set g hN, ?_⟩
    rw [List.getElem?_set_self (lt_of_get c)]
    have hl : k < (bits0 n).length := by simp [bits0, hk]
    rw [List.take_succ_eq_append_getElem hl]
    have : (bits0 n)[k] = maskR k (n - 1 - k) := by simp [bits0]
    rw [this])
  have lr : (rangeD 0 1 n).length = n := rangeD_length ..
  rw [lr, List.take_of_length_le (by simp [bits0])] at c'
  exact ⟨w, y, z, h', eL, g', c'⟩
theorem net_loop {n : Nat} {net : List (Int × Int)} (hw : Wires n net) {h0 h : VH} (g0 : Grow h0 h) {N : Nat} (hN : h0.length ≤ N) (cN : h[N]? = some (.lst ((castL (bits0 n)).map .int))) (w y z : Option D) :
    ∃ i j x u B h', L2_law_failing [some (.int (n : Int)), some (netD net), some (.ref N), w, y, z, none, none, none, none, none, none] h = .ok (.nx, [some (.int (n : Int)), some (netD net), some (.ref N), w, y, z, i, j, x, u, none, none], h') ∧ Grow h0 h' ∧ h'[N]? = some (.lst ((castL B).map .int)) ∧ BitsI n net B := by
  obtain ⟨s', h', eL, ⟨i, j, x, u, rfl⟩, B, g', c', I'⟩ := for_all (it := vIt (vVar 1)) (g := gP (pTup 2 (psCons (pN 6) (psCons (pN 7) psNil)))) (body := B2_law_failing) (s := [some (.int (n : Int)), some (netD net), some (.ref N), w, y, z, none, none, none, none, none, none]) (h := h) (h1 := h) (src := fun _ => some (net.map pD)) (xs := net.map pD)
    (fun k s h' => (∃ i j x u, s = [some (.int (n : Int)), some (netD net), some (.ref N), w, y, z, i, j, x, u, none, none]) ∧ ∃ B, Grow h0 h' ∧ h'[N]? = some (.lst ((castL B).map .int)) ∧ BitsI n (net.take k) B) (by simp [netD]) (fun _ _ _ _ => rfl) ⟨⟨_, _, _, _, rfl⟩, bits0 n, g0, cN, bits_zero n⟩ (by
      rintro k d s h' ed ⟨⟨i, j, x, u, rfl⟩, B, g, c, I⟩
      obtain ⟨hk, rfl⟩ := get_pD ed
      have hp := hw net[k] (List.getElem_mem _)
      obtain ⟨x', u', e⟩ := bits_turn (p := net[k]) I.len hp c (some (.int (n : Int))) (some (netD net)) w y z x u none none
      refine ⟨_, _, .inl (by rw [turn_P]; exact e), ⟨_, _, _, _, rfl⟩, bit1 B net[k], grow_set g hN, List.getElem?_set_self (lt_of_get c), ?_⟩
      rw [List.take_succ_eq_append_getElem hk]
      exact I.step hp)
  rw [List.length_map, List.take_length] at I'
  exact ⟨i, j, x, u, B, h', eL, g', c', I'⟩
theorem look_turn {n w : Nat} (hn : n ≤ 10) (hw : w + 1 < n) {net : List (Int × Int)} {B : List Nat} (I : BitsI n net B) {N : Nat} {H : VH} (cB : H[N]? = some (.lst ((castL B).map .int))) (b m k i j x u a c : Option D) :
    (wrongB n B w = 0 ∧ ∃ a', B1_law_failing [some (.int (n : Int)), b, some (.ref N), some (.int (w : Int)), m, k, i, j, x, u, a, c] H = .ok (.nx, [some (.int (n : Int)), b, some (.ref N), some (.int (w : Int)), m, k, i, j, x, u, a', c], H)) ∨
      (0 < wrongB n B w ∧ ∃ s' H', B1_law_failing [some (.int (n : Int)), b, some (.ref N), some (.int (w : Int)), m, k, i, j, x, u, a, c] H = .ok (.rt (tupI (rowT n (wrongB n B w).log2)), s', H') ∧ Grow H H') := by
  have lk0 := lk_of cB
  have lB := I.len
  have a1 := atR (row := castL B) (i := (w : Int)) (by omega) (by rw [cast_len]; omega)
  have a2 := atR (row := castL B) (i := (w : Int) + 1) (by omega) (by rw [cast_len]; omega)
  have e1 : ((w : Int) + 1).toNat = w + 1 := by omega
  rw [gt_cast, Int.toNat_natCast] at a1
  rw [gt_cast, e1] at a2
  have p := pow10 hn
  have s1 := shl1 (j := n) (by omega)
  have s2 := shl1 (j := 2 ^ n) (by omega)
  have hb := I.lt (w + 1) hw
  have hp : 0 < 2 ^ 2 ^ n := Nat.pow_pos (by decide)
  have s3 : ((2 ^ 2 ^ n : Nat) : Int) - 1 - (bg B (w + 1) : Int) = ((2 ^ 2 ^ n - 1 - bg B (w + 1) : Nat) : Int) := by omega
  have s4 := aAnd_n (bg B w) (2 ^ 2 ^ n - 1 - bg B (w + 1))
  have e2 : bg B w &&& (2 ^ 2 ^ n - 1 - bg B (w + 1)) = wrongB n B w := rfl
  rw [e2] at s4
  by_cases hz : wrongB n B w = 0
  · refine .inl ⟨hz, some (.int 0), ?_⟩
    rw [hz] at s4
    generalize 2 ^ 2 ^ n - 1 - bg B (w + 1) = u1 at *
    generalize 2 ^ 2 ^ n = u2 at *
    generalize 2 ^ n = u3 at *
    simp -implicitDefEqProofs [B1_law_failing, lk0, a1, a2, s1, s2, s3, s4]
  · have hpos : 0 < wrongB n B w := by omega
    have bl : (Builtin.Int.intBits ((wrongB n B w : Nat) : Int) : Int) - 1 = (((wrongB n B w).log2 : Nat) : Int) := by
      unfold Builtin.Int.intBits
      rw [if_neg (by simpa using hz), Int.natAbs_natCast]
      omega
    have c1 := C1_fail (n := n) (t := (wrongB n B w).log2) (s := [some (.int (n : Int)), b, some (.ref N), some (.int (w : Int)), m, k, i, j, x, u, some (.int (wrongB n B w : Nat)), some (.int ((wrongB n B w).log2 : Nat))]) (h := H) (by omega) rfl rfl rfl
    have gp : (0 : Int) < ((wrongB n B w : Nat) : Int) := by omega
    have l1 := lk_at H ((rowT n (wrongB n B w).log2).map .int) []
    refine .inr ⟨hpos, [some (.int (n : Int)), b, some (.ref N), some (.int (w : Int)), m, k, i, j, x, u, some (.int (wrongB n B w : Nat)), some (.int ((wrongB n B w).log2 : Nat))], H ++ [.lst ((rowT n (wrongB n B w).log2).map .int)], ?_, .new _ _⟩
    have ft : tupI (rowT n (wrongB n B w).log2) = .tup ((rowT n (wrongB n B w).log2).map .int) := rfl
    rw [ft]
    generalize (rowT n (wrongB n B w).log2).map D.int = row at *
    generalize (wrongB n B w).log2 = t at *
    generalize wrongB n B w = W at *
    generalize 2 ^ 2 ^ n - 1 - bg B (w + 1) = u1 at *
    generalize 2 ^ 2 ^ n = u2 at *
    generalize 2 ^ n = u3 at *
    simp -implicitDefEqProofs [B1_law_failing, lk0, a1, a2, s1, s2, s3, s4, gp, hz, bl, c1, l1]
theorem s_failing {n : Nat} (hn : n ≤ 10) {net : List (Int × Int)} (hw : Wires n net) (h : VH) : ∃ r h', F_law_failing [.int n, netD net] h = .ok (r, h') ∧ Grow h h' ∧ FailR n net r := by
  obtain ⟨w, y, z, h1, e1, g1, c1⟩ := bits_loop hn (netD net) (h0 := h) (h := h ++ [.lst []]) (.new _ _) (N := h.length) (Nat.le_refl _) (cell_at _ _)
  obtain ⟨i, j, x, u, B, h2, e2, g2, c2, I⟩ := net_loop hw g1 (Nat.le_refl _) c1 w y z
  have hit : (vRng1 (vCons (vOp aSub (vVar 0) (vC (.int 1))) vNil)) [some (.int (n : Int)), some (netD net), some (.ref h.length), w, y, z, i, j, x, u, none, none] h2 = .ok (fun _ => some (rangeD 0 1 ((n : Int) - 1).toNat), h2) := vRng1_of (by simp) (inRng_small (by omega) (by omega))
  have s1 : S1_law_failing [some (.int (n : Int)), some (netD net), none, none, none, none, none, none, none, none, none, none] h = .ok (.nx, [some (.int (n : Int)), some (netD net), some (.ref h.length), none, none, none, none, none, none, none, none, none], h ++ [.lst []]) := by
    simp -implicitDefEqProofs [S1_law_failing]
  rcases for_run (g := gP (pN 3)) (body := B1_law_failing) (fun k s h' => (∃ w a, s = [some (.int (n : Int)), some (netD net), some (.ref h.length), w, y, z, i, j, x, u, a, none]) ∧ h' = h2 ∧ ∀ v, v < k → wrongB n B v = 0)
      (fun d _ h' => Grow h2 h' ∧ ∃ t, d = tupI (rowT n t) ∧ ¬ Rises (madeR net (rowT n t))) hit (fun _ _ _ _ => rfl) ⟨⟨_, _, rfl⟩, rfl, fun v hv => absurd hv (Nat.not_lt_zero v)⟩ (by
      rintro k d s h' ed ⟨⟨w, a, rfl⟩, rfl, hz⟩
      obtain ⟨hk, rfl⟩ := rng_get ed
      have ek : (0 : Int) + (k : Int) = (k : Int) := by omega
      rw [ek]
      rcases look_turn hn (w := k) (by omega) I c2 (some (netD net)) y z i j x u a none with ⟨z0, a', e⟩ | ⟨z0, s', H', e, gH⟩
      · refine .inl ⟨_, _, .inl (by rw [turn_N]; exact e), ⟨_, _, rfl⟩, rfl, fun v hv => ?_⟩
        by_cases hv2 : v = k
        · rw [hv2]
          exact z0
        · exact hz v (by omega)
      · exact .inr ⟨_, s', H', by rw [turn_N]; exact e, gH, _, rfl, (some_fails I (by omega) z0).2⟩) with ⟨s', h', eL, ⟨w', a', rfl⟩, rfl, hz⟩ | ⟨d, s', h', eL, gH, t, rfl, nr⟩
  · have eL : L1_law_failing [some (.int (n : Int)), some (netD net), some (.ref h.length), w, y, z, i, j, x, u, none, none] h' = _ := eL
    refine ⟨.non, h', mF_rt (s' := [some (.int (n : Int)), some (netD net), some (.ref h.length), w', y, z, i, j, x, u, a', none]) ?_, g2, .inl ⟨rfl, none_sorts hw I fun v hv => hz v ?_⟩⟩
    · show m_law_failing [some (.int (n : Int)), some (netD net), none, none, none, none, none, none, none, none, none, none] h = _
      unfold m_law_failing
      rw [seq_nx s1, seq_nx e1, seq_nx e2, seq_nx eL]
      simp -implicitDefEqProofs
    · rw [show (rangeD 0 1 ((n : Int) - 1).toNat).length = ((n : Int) - 1).toNat from rangeD_length ..]
      omega
  · have eL : L1_law_failing [some (.int (n : Int)), some (netD net), some (.ref h.length), w, y, z, i, j, x, u, none, none] h2 = _ := eL
    refine ⟨_, h', mF_rt (s' := s') ?_, g2.trans gH, .inr ⟨t, rfl, nr⟩⟩
    show m_law_failing [some (.int (n : Int)), some (netD net), none, none, none, none, none, none, none, none, none, none] h = _
    unfold m_law_failing
    rw [seq_nx s1, seq_nx e1, seq_nx e2, seq_rt eL]
end K03

namespace K03
open PySem Vq
theorem Grow.le {h h' : VH} (x : Grow h h') : h.length ≤ h'.length := by
  obtain ⟨g, rfl⟩ := x
  simp
abbrev GO {α : Type} (f : Fn → Fn → α) : α := f F_does_sort_row F_law_made
theorem goes_is {net : List (Int × Int)} {row : List Int} (hw : Wires row.length net) : decide (madeR net row = srtI row) = ascB (madeR net row) := by
  by_cases h : Rises (madeR net row)
  · rw [ascB_iff.mpr h]
    exact decide_eq_true (sorted_eq ((madeR_perm hw).trans (srtI_perm row).symm) h (srtI_sorted row))
  · have e : ascB (madeR net row) = false := by
      cases e : ascB (madeR net row) with
      | false => rfl
      | true => exact absurd (ascB_iff.mp e) h
    rw [e]
    refine decide_eq_false fun z => h ?_
    rw [z]
    exact srtI_sorted row
theorem sz_bl (b : Bool) : sz (.bl b) = 1 := by
  have e : pyOf (.bl b) = .bool b := by
    unfold pyOf
    rw [pyD_b]
    rfl
  unfold sz
  rw [e]
  simp [size]
theorem repr_bs {h : VH} {m : Nat} {l : List Bool} (e : lk h m = some (l.map .bl)) (hz : l.length ≤ 100) : bRepr [.ref m] h = some (.str (txtL (l.map .bl)), h) :=
  repr_L (k := 0) e (fun d hd => by
    obtain ⟨b, _, rfl⟩ := List.mem_map.mp hd
    exact pl_bl b) (by decide) (by
    rw [sum_const (c := 1) fun d hd => by
      obtain ⟨b, _, rfl⟩ := List.mem_map.mp hd
      exact sz_bl b]
    simp only [List.length_map]
    omega)
theorem s_does_go {n : Nat} (hn : n ≤ 1000) {net : List (Int × Int)} {row : List Int} {r : D} (hw : Wires n net) (hl : row.length = n) (F : FailR n net r) (h : VH) : ∃ h', F_law_does_go [r, netD net, netD net, tupI row] h = .ok (.bl true, h') ∧ Grow h h' := by
  have hw' : Wires row.length net := by rw [hl]; exact hw
  obtain ⟨g, hg⟩ : ∃ g, g = ascB (madeR net row) := ⟨_, rfl⟩
  obtain ⟨h1, e1, g1⟩ := r_lmade hw' h
  have gi := goes_is hw'
  rw [← hg] at gi
  obtain ⟨h2, eh2⟩ : ∃ h2, h2 = h1 ++ [.lst (row.map .int)] := ⟨_, rfl⟩
  have sp := bSorted_I (h := h2) (n := h1.length) (l := row) (by rw [eh2]; exact lk_at _ _ [])
  obtain ⟨h3, eh3⟩ : ∃ h3, h3 = h2 ++ [.lst ((srtI row).map .int)] := ⟨_, rfl⟩
  have l3 : lk h3 h2.length = some ((srtI row).map .int) := by rw [eh3]; exact lk_at _ _ []
  rw [← eh3] at sp
  have sq : ∀ h, seqOf h (tupI row) = some (row.map .int) := fun _ => rfl
  have de := dEq_I h3 (madeR net row) (srtI row)
  rw [gi] at de
  have e3 : GO S3_law_does_go [some r, some (netD net), some (netD net), some (tupI row), none, none, none] h = .ok (.nx, [some r, some (netD net), some (netD net), some (tupI row), some (.bl g), none, none], h3) := by
    have e1 : F_law_made [netD net, tupI row] h = .ok (.tup ((madeR net row).map .int), h1) := e1
    generalize (madeR net row).map D.int = u1 at *
    generalize (srtI row).map D.int = u2 at *
    simp -implicitDefEqProofs [GO, S3_law_does_go, e1, sq, ← eh2, sp, l3, de]
  obtain ⟨h4, e4, g4⟩ := x_does_sort hw' (by omega) h3
  obtain ⟨h5, e5, g5⟩ := x_does_sort hw' (by omega) h4
  rw [← hg] at e4 e5
  obtain ⟨f, hf⟩ : ∃ f, f = h5.length := ⟨_, rfl⟩
  obtain ⟨h6, eh6⟩ : ∃ h6, h6 = h5 ++ [.lst [.bl g, .bl g]] ++ [.lst [.bl g, .bl g]] := ⟨_, rfl⟩
  have c1 : h6[f]? = some (.lst [.bl g, .bl g]) := by
    rw [eh6, hf, List.getElem?_append_left (by simp)]
    simp
  have c2 : h6[f + 1]? = some (.lst [.bl g, .bl g]) := by
    rw [eh6, hf, List.getElem?_append_right (by simp)]
    simp
  have e2 : GO S2_law_does_go [some r, some (netD net), some (netD net), some (tupI row), some (.bl g), none, none] h3 = .ok (.nx, [some r, some (netD net), some (netD net), some (tupI row), some (.bl g), some (.ref f), some (.ref (f + 1))], h6) := by
    simp -implicitDefEqProofs [GO, S2_law_does_go, e4, e5, hf, eh6]
  have g03 : Grow h h3 := by rw [eh3, eh2]; exact (g1.app _).app _
  have g06 : Grow h h6 := by rw [eh6]; exact (((g03.trans g4).trans g5).app _).app _
  have hlf : h.length ≤ f := by
    have := Grow.le ((g03.trans g4).trans g5)
    omega
  rcases F with ⟨rfl, hs⟩ | ⟨t, rfl, nr⟩
  · have gt : g = true := by rw [hg]; exact ascB_iff.mpr (hs row hl)
    subst gt
    obtain ⟨h7, eh7⟩ : ∃ h7, h7 = h6 ++ [.lst [.bl true, .bl true]] := ⟨_, rfl⟩
    have e1' : GO S1_law_does_go [some .non, some (netD net), some (netD net), some (tupI row), some (.bl true), some (.ref f), some (.ref (f + 1))] h6 = .ok (.nx, [some .non, some (netD net), some (netD net), some (tupI row), some (.bl true), some (.ref f), some (.ref h6.length)], h7) := by
      simp -implicitDefEqProofs [GO, S1_law_does_go, eh7, dIsN, isNon]
    have r1 := repr_bs (h := h7) (m := f) (l := [true, true]) (by rw [eh7]; exact lk_app (lk_of c1) _) (by decide)
    have r2 := repr_bs (h := h7) (m := h6.length) (l := [true, true]) (by rw [eh7]; exact lk_at _ _ []) (by decide)
    refine ⟨h7, mF_rt (s' := [some .non, some (netD net), some (netD net), some (tupI row), some (.bl true), some (.ref f), some (.ref h6.length)]) ?_, by rw [eh7]; exact g06.app _⟩
    show GO m_law_does_go [some .non, some (netD net), some (netD net), some (tupI row), none, none, none] h = _
    simp only [GO] at *
    unfold m_law_does_go
    rw [seq_nx e3, seq_nx e2, seq_nx e1']
    simp -implicitDefEqProofs [r1, r2]
  · have hwt : Wires (rowT n t).length net := by rw [rowT_len]; exact hw
    obtain ⟨h7, e7, g7⟩ := x_does_sort hwt (by rw [rowT_len]; omega) h6
    have ef : ascB (madeR net (rowT n t)) = false := by
      cases e : ascB (madeR net (rowT n t)) with
      | false => rfl
      | true => exact absurd (ascB_iff.mp e) nr
    rw [ef] at e7
    have c17 : h7[f]? = some (.lst [.bl g, .bl g]) := by
      obtain ⟨x, rfl⟩ := g7
      rw [List.getElem?_append_left (lt_of_get c1)]
      exact c1
    have c27 : h7[f + 1]? = some (.lst [.bl g, .bl g]) := by
      obtain ⟨x, rfl⟩ := g7
      rw [List.getElem?_append_left (lt_of_get c2)]
      exact c2
    have ap1 := mAppend_of (d := .bl false) c17 (by simp)
    obtain ⟨h8, eh8⟩ : ∃ h8, h8 = h7.set f (.lst ([.bl g, .bl g] ++ [.bl false])) := ⟨_, rfl⟩
    have c28 : h8[f + 1]? = some (.lst [.bl g, .bl g]) := by rw [eh8, List.getElem?_set_ne (by omega)]; exact c27
    have ap2 := mAppend_of (d := .bl false) c28 (by simp)
    rw [← eh8] at ap1
    obtain ⟨h9, eh9⟩ : ∃ h9, h9 = h8.set (f + 1) (.lst ([.bl g, .bl g] ++ [.bl false])) := ⟨_, rfl⟩
    rw [← eh9] at ap2
    have c19 : h9[f]? = some (.lst [.bl g, .bl g, .bl false]) := by
      rw [eh9, List.getElem?_set_ne (by omega), eh8, List.getElem?_set_self (lt_of_get c17)]
      rfl
    have c29 : h9[f + 1]? = some (.lst [.bl g, .bl g, .bl false]) := by
      rw [eh9, List.getElem?_set_self (lt_of_get c28)]
      rfl
    have ty1 := tyL_of (lk_of c1)
    have ty2 := tyL_of (lk_of c28)
    have dn : ∀ (l : List Int), isNon (tupI l) = false := fun _ => rfl
    have e1' : GO S1_law_does_go [some (tupI (rowT n t)), some (netD net), some (netD net), some (tupI row), some (.bl g), some (.ref f), some (.ref (f + 1))] h6 = .ok (.nx, [some (tupI (rowT n t)), some (netD net), some (netD net), some (tupI row), some (.bl g), some (.ref f), some (.ref (f + 1))], h9) := by
      simp -implicitDefEqProofs [GO, S1_law_does_go, dn, ty1, e7, ap1, ty2, ap2]
    have r1 := repr_bs (h := h9) (m := f) (l := [g, g, false]) (lk_of c19) (by simp)
    have r2 := repr_bs (h := h9) (m := f + 1) (l := [g, g, false]) (lk_of c29) (by simp)
    refine ⟨h9, mF_rt (s' := [some (tupI (rowT n t)), some (netD net), some (netD net), some (tupI row), some (.bl g), some (.ref f), some (.ref (f + 1))]) ?_, by rw [eh9, eh8]; exact grow_set (grow_set (g06.trans g7) hlf) (by omega)⟩
    show GO m_law_does_go [some (tupI (rowT n t)), some (netD net), some (netD net), some (tupI row), none, none, none] h = _
    simp only [GO] at *
    unfold m_law_does_go
    rw [seq_nx e3, seq_nx e2, seq_nx e1']
    simp -implicitDefEqProofs [r1, r2]
end K03

namespace K03
open PySem Vq
abbrev SR {α : Type} (f : Fn → Fn → Fn → Fn → Fn → Fn → Fn → α) : α := f F_law_does_go F_law_failing F_standard_net F_is_standard F_made_row F_law_made F_law_standard
theorem bAll_b {h : VH} {n : Nat} {l : List Bool} (e : lk h n = some (l.map .bl)) : bAll [.ref n] h = some (.bl (l.all id), h) := bAll_r e
theorem repr_is {h : VH} {m : Nat} {l : List Int} (e : lk h m = some (l.map .int)) (lim : Lim l) (hz : l.length ≤ 1000) : bRepr [.ref m] h = some (.str (txtL (l.map .int)), h) :=
  repr_L (k := 0) e (fun d hd => by
    obtain ⟨x, hx, rfl⟩ := List.mem_map.mp hd
    exact pl_lim (lim.lim x hx)) (by decide) (by
    rw [sum_const (c := 1) fun d hd => by
      obtain ⟨b, _, rfl⟩ := List.mem_map.mp hd
      exact sz_int b]
    simp only [List.length_map]
    omega)
theorem lim_names {n : Nat} {l : List Int} (hn : n ≤ 1000) (hl : l.length = n) (h : ∀ w, w < n → 0 ≤ gt l w ∧ gt l w < n) : Lim l := ⟨fun x hx => by
  obtain ⟨k, hk, e⟩ := List.mem_iff_getElem.mp hx
  have := h k (by omega)
  have g : gt l k = x := by simp [gt, hk, e]
  have := E30_ge
  omega⟩
theorem id_lim {n : Nat} (hn : n ≤ 1000) : Lim (idI n) := lim_names hn (id_len n) fun w hw => by
  rw [gt_id hw]
  omega
theorem pl_std {n : Nat} (hn : n ≤ 1000) {own : List (Int × Int)} {nm : List Int} (hw : Wires n own) (lim : Lim nm) : PlD 3 (stD (own, nm)) ∧ sz (stD (own, nm)) = 3 * own.length + nm.length + 3 := by
  have q : ∀ d ∈ [netD own, tupI nm], PlD 2 d := fun d hd => by
    simp only [List.mem_cons, List.not_mem_nil, or_false] at hd
    rcases hd with rfl | rfl
    · exact pl_net hn hw
    · exact (pl_row lim).mono (by decide)
  refine ⟨pl_tup q, ?_⟩
  unfold stD
  rw [sz_tup q]
  simp only [List.map_cons, List.map_nil, List.sum_cons, List.sum_nil, sz_net hn hw, sz_row lim]
  omega
theorem C2_std {nm B : List Int} (hB : ∀ x ∈ nm, 0 ≤ x ∧ x < B.length) (hz : nm.length ≤ 1000) {s : VS} {h : VH} (g4 : s[4]? = some (some (tupI nm))) (g9 : s[9]? = some (some (tupI B))) (hl : s.length = 15) :
    SR C2_law_is_standard_right s h = .ok (.ref h.length, h ++ [.lst ((nm.map fun x => gt B x.toNat).map .int)]) := by
  simp only [SR]
  unfold C2_law_is_standard_right
  rw [lc_tup (h1 := h) (ys := nm) (c := .int) (fun _ => true) (fun x => .int (gt B x.toNat)) (by simp [g4, tupI]) (by omega) (by
    intro y hy acc
    refine ⟨_, rfl, rfl, fun _ => ?_⟩
    have l1 : (vwipe s [12]).length = 15 := by simp [vwipe, hl]
    have v12 : ((vwipe s [12]).set 12 (some (D.int y)))[12]? = some (some (.int y)) := List.getElem?_set_self (by omega)
    have v9 : ((vwipe s [12]).set 12 (some (D.int y)))[9]? = some (some (tupI B)) := by
      rw [List.getElem?_set_ne (by decide)]
      simp [vwipe, g9]
    have a1 := atR (row := B) (hB y hy).1 (hB y hy).2
    have sq : ∀ h, seqOf h (tupI B) = some (B.map .int) := fun _ => rfl
    simp -implicitDefEqProofs [E2_law_is_standard_right, v12, v9, sq, a1])]
  simp only [List.filter_eq_self.mpr (fun _ _ => rfl), List.map_map]
  rfl
theorem C1_std {net : List (Int × Int)} (hz : net.length ≤ 1000) {s : VS} {h : VH} (g1 : s[1]? = some (some (netD net))) (hl : s.length = 15) :
    SR C1_law_is_standard_right s h = .ok (.ref h.length, h ++ [.lst ((net.map fun p => decide (p.1 < p.2)).map .bl)]) := by
  simp only [SR]
  unfold C1_law_is_standard_right
  rw [lc_tup (h1 := h) (ys := net) (c := pD) (fun _ => true) (fun p => .bl (decide (p.1 < p.2))) (by simp [g1, netD]) (by omega) (by
    intro y hy acc
    refine ⟨_, rfl, rfl, fun _ => ?_⟩
    have l1 : (vwipe s [13, 14]).length = 15 := by simp [vwipe, hl]
    have v13 : (((vwipe s [13, 14]).set 13 (some (D.int y.1))).set 14 (some (D.int y.2)))[13]? = some (some (.int y.1)) := by
      rw [List.getElem?_set_ne (by decide)]
      exact List.getElem?_set_self (by omega)
    have v14 : (((vwipe s [13, 14]).set 13 (some (D.int y.1))).set 14 (some (D.int y.2)))[14]? = some (some (.int y.2)) := List.getElem?_set_self (by rw [List.length_set]; omega)
    simp -implicitDefEqProofs [E1_law_is_standard_right, v13, v14])]
  simp only [List.filter_eq_self.mpr (fun _ _ => rfl), List.map_map]
  rfl
theorem s_standard_right {n : Nat} (hn : n ≤ 10) {net : List (Int × Int)} {row : List Int} (w : Wires n net) (z : net.length ≤ 500) (hl : row.length = n) (lim : Lim row) (h : VH) : ∃ h', F_law_is_standard_right [.int n, netD net, tupI row] h = .ok (.bl true, h') ∧ Grow h h' := by
  have hn' : n ≤ 1000 := by omega
  have hw : Wires row.length net := by rw [hl]; exact w
  have I := stR_ok w
  obtain ⟨O, hO⟩ : ∃ O, O = (stR n net).1 := ⟨_, rfl⟩
  obtain ⟨Nm, hNm⟩ : ∃ N, N = (stR n net).2 := ⟨_, rfl⟩
  have eR : stR n net = (O, Nm) := by rw [hO, hNm]
  rw [eR] at I
  have wO : Wires n O := I.wires
  have zO : O.length = net.length := I.olen
  have lN : Nm.length = n := I.len
  have hwO : Wires row.length O := by rw [hl]; exact wO
  have limN : Lim Nm := lim_names hn' lN I.rng
  obtain ⟨M, hM⟩ : ∃ M, M = madeR net row := ⟨_, rfl⟩
  obtain ⟨B, hB⟩ : ∃ B, B = madeR O row := ⟨_, rfl⟩
  have lM : M.length = n := by rw [hM, madeR_len, hl]
  have lB : B.length = n := by rw [hB, madeR_len, hl]
  have limM : Lim M := by rw [hM]; exact lim.perm (madeR_perm hw)
  have nmem : ∀ x ∈ Nm, 0 ≤ x ∧ x < B.length := fun x hx => by
    obtain ⟨k, hk, e⟩ := List.mem_iff_getElem.mp hx
    have := I.rng k (by omega)
    have g : gt Nm k = x := by simp [gt, hk, e]
    simp only [g] at this
    omega
  have eC : (Nm.map fun x => gt B x.toNat) = M := by
    refine ext_gt (by rw [List.length_map, lN, lM]) fun k hk => ?_
    rw [List.length_map, lN] at hk
    rw [gt_map (fun x => gt B x.toNat) (by omega), hM, hB]
    exact (I.rel row hl k hk).symm
  have pS := pl_std hn' wO limN
  have pNet := pl_net hn' w
  have pO := pl_net hn' wO
  have pRow := pl_row lim
  have pM := pl_row limM
  have sNet := sz_net hn' w
  have sO := sz_net hn' wO
  have sRow := sz_row lim
  have sM := sz_row limM
  have rk : ∀ (h : VH) (x : Nat), lk h x = some [netD net, tupI row] → bRepr [.ref x] h = some (.str (txtL [netD net, tupI row]), h) := fun h x e =>
    repr_L (k := 2) e (fun d hd => by
      simp only [List.mem_cons, List.not_mem_nil, or_false] at hd
      rcases hd with rfl | rfl
      · exact pNet
      · exact pRow.mono (by decide)) (by decide) (by simp only [List.map_cons, List.map_nil, List.sum_cons, List.sum_nil]; omega)
  have rS := repr_same (c := 3) (s := 0) (k := 3) (by decide) pS.1 (by omega) (l := [stD (O, Nm), stD (O, Nm), stD (O, Nm)]) rfl
  -- own, names
  obtain ⟨h1, a1, g1⟩ := x_law_standard hn' w (by omega) h
  rw [eR] at a1
  have e10 : SR S10_law_is_standard_right [some (.int (n : Int)), some (netD net), some (tupI row), none, none, none, none, none, none, none, none, none, none, none, none] h = .ok (.nx, [some (.int (n : Int)), some (netD net), some (tupI row), some (netD O), some (tupI Nm), none, none, none, none, none, none, none, none, none, none], h1) := by
    simp -implicitDefEqProofs [SR, S10_law_is_standard_right, a1, stD]
  obtain ⟨h2, a2, g2⟩ := r_lmade hw h1
  rw [← hM] at a2
  obtain ⟨h3, eh3⟩ : ∃ h3, h3 = h2 ++ [.lst [netD net, tupI row]] := ⟨_, rfl⟩
  have r3 := rk h3 h2.length (by rw [eh3]; exact lk_at _ _ [])
  obtain ⟨h4, eh4⟩ : ∃ h4, h4 = h3 ++ [.lst ((idI n).map .int)] := ⟨_, rfl⟩
  have rg := rgB_nat hn'
  have idm := id_map n
  have l4 : lk h4 h3.length = some ((idI n).map .int) := by rw [eh4]; exact lk_at _ _ []
  have ti : tupI (idI n) = .tup ((idI n).map .int) := rfl
  have e9 : SR S9_law_is_standard_right [some (.int (n : Int)), some (netD net), some (tupI row), some (netD O), some (tupI Nm), none, none, none, none, none, none, none, none, none, none] h1 = .ok (.nx, [some (.int (n : Int)), some (netD net), some (tupI row), some (netD O), some (tupI Nm), some (tupI M), some (.str (txtL [netD net, tupI row])), some (tupI (idI n)), none, none, none, none, none, none, none], h4) := by
    rw [idm] at eh4 l4 ti
    rw [ti]
    simp -implicitDefEqProofs [SR, S9_law_is_standard_right, a2, ← eh3, r3, vLR1, rg, ← eh4, l4]
  -- told
  obtain ⟨h5, a5, g5⟩ := x_standard hn' w (by omega) h4
  obtain ⟨h6, a6, g6⟩ := x_standard hn' w (by omega) h5
  obtain ⟨h7, a7, g7⟩ := x_standard hn' w (by omega) h6
  rw [eR] at a5 a6 a7
  obtain ⟨T, hT⟩ : ∃ T, T = h7.length := ⟨_, rfl⟩
  obtain ⟨h8, eh8⟩ : ∃ h8, h8 = h7 ++ [.lst [stD (O, Nm), stD (O, Nm), stD (O, Nm)]] := ⟨_, rfl⟩
  have l8 : lk h8 T = some [stD (O, Nm), stD (O, Nm), stD (O, Nm)] := by rw [eh8, hT]; exact lk_at _ _ []
  have e8 : SR S8_law_is_standard_right [some (.int (n : Int)), some (netD net), some (tupI row), some (netD O), some (tupI Nm), some (tupI M), some (.str (txtL [netD net, tupI row])), some (tupI (idI n)), none, none, none, none, none, none, none] h4 = .ok (.nx, [some (.int (n : Int)), some (netD net), some (tupI row), some (netD O), some (tupI Nm), some (tupI M), some (.str (txtL [netD net, tupI row])), some (tupI (idI n)), some (.ref T), none, none, none, none, none, none], h8) := by
    simp -implicitDefEqProofs [SR, S8_law_is_standard_right, a5, a6, a7, hT, eh8]
  have t7 := rS h8 T l8
  obtain ⟨h9, eh9⟩ : ∃ h9, h9 = h8 ++ [.lst [stD (O, Nm)]] := ⟨_, rfl⟩
  have m3 := dMul_3 (h := h9) (m := h8.length) (x := stD (O, Nm)) (by rw [eh9]; exact cell_at _ _)
  obtain ⟨h10, eh10⟩ : ∃ h10, h10 = h9 ++ [.lst [stD (O, Nm), stD (O, Nm), stD (O, Nm)]] := ⟨_, rfl⟩
  rw [← eh10] at m3
  have t10 := rS h10 h9.length (by rw [eh10]; exact lk_at _ _ [])
  have e04 : h8 ++ [Cell.lst [stD (O, Nm)]] = h9 := eh9.symm
  have fo : D.tup [netD O, tupI Nm] = stD (O, Nm) := rfl
  have e7 : SR S7_law_is_standard_right [some (.int (n : Int)), some (netD net), some (tupI row), some (netD O), some (tupI Nm), some (tupI M), some (.str (txtL [netD net, tupI row])), some (tupI (idI n)), some (.ref T), none, none, none, none, none, none] h8 = .ok (.nx, [some (.int (n : Int)), some (netD net), some (tupI row), some (netD O), some (tupI Nm), some (tupI M), some (.str (txtL [netD net, tupI row])), some (tupI (idI n)), some (.ref T), none, none, none, none, none, none], h10) := by
    simp -implicitDefEqProofs [SR, S7_law_is_standard_right, t7, fo, e04, m3, t10]
  have l10 : lk h10 T = some [stD (O, Nm), stD (O, Nm), stD (O, Nm)] := by rw [eh10, eh9]; exact lk_app (lk_app l8 _) _
  have ix0 : ∀ x, L2.atI [x, stD (O, Nm), stD (O, Nm)] 0 = some x := fun x => rfl
  have ix1 : ∀ x y, L2.atI [x, y, stD (O, Nm)] 1 = some y := fun x y => rfl
  have ix2 : ∀ x y z : D, L2.atI [x, y, z] 2 = some z := fun x y z => rfl
  have sqS : ∀ h, seqOf h (stD (O, Nm)) = some [netD O, tupI Nm] := fun _ => rfl
  have jx0 : ∀ x y : D, L2.atI [x, y] 0 = some x := fun x y => rfl
  -- back, further
  obtain ⟨h11, a11, g11⟩ := r_made hwO h10
  obtain ⟨h12, a12, g12⟩ := r_made hw h11
  rw [← hB] at a11
  rw [← hM] at a12
  have lk2 : ∀ {h h' : VH}, Grow h h' → lk h T = some [stD (O, Nm), stD (O, Nm), stD (O, Nm)] → lk h' T = some [stD (O, Nm), stD (O, Nm), stD (O, Nm)] := fun g e => g.lk e
  have e6 : SR S6_law_is_standard_right [some (.int (n : Int)), some (netD net), some (tupI row), some (netD O), some (tupI Nm), some (tupI M), some (.str (txtL [netD net, tupI row])), some (tupI (idI n)), some (.ref T), none, none, none, none, none, none] h10 = .ok (.nx, [some (.int (n : Int)), some (netD net), some (tupI row), some (netD O), some (tupI Nm), some (tupI M), some (.str (txtL [netD net, tupI row])), some (tupI (idI n)), some (.ref T), some (tupI B), some (tupI M), none, none, none, none], h12) := by
    simp -implicitDefEqProofs [SR, S6_law_is_standard_right, l10, ix0, sqS, jx0, a11, a12]
  have l12 := lk2 (g11.trans g12) l10
  have c2 := C2_std nmem (by omega) (s := [some (.int (n : Int)), some (netD net), some (tupI row), some (netD O), some (tupI Nm), some (tupI M), some (.str (txtL [netD net, tupI row])), some (tupI (idI n)), some (.ref T), some (tupI B), some (tupI M), none, none, none, none]) (h := h12) rfl rfl rfl
  rw [eC] at c2
  obtain ⟨h13, eh13⟩ : ∃ h13, h13 = h12 ++ [.lst (M.map .int)] := ⟨_, rfl⟩
  have r13 := repr_is (h := h13) (m := h12.length) (by rw [eh13]; exact lk_at _ _ []) limM (by omega)
  obtain ⟨h14, eh14⟩ : ∃ h14, h14 = h13 ++ [.lst (M.map .int)] := ⟨_, rfl⟩
  have r14 := repr_is (h := h14) (m := h13.length) (by rw [eh14]; exact lk_at _ _ []) limM (by omega)
  have rM := repr_D pM (by decide) (by omega)
  have sqM : ∀ h, seqOf h (tupI M) = some (M.map .int) := fun _ => rfl
  rw [← eh13] at c2
  have e5 : SR S5_law_is_standard_right [some (.int (n : Int)), some (netD net), some (tupI row), some (netD O), some (tupI Nm), some (tupI M), some (.str (txtL [netD net, tupI row])), some (tupI (idI n)), some (.ref T), some (tupI B), some (tupI M), none, none, none, none] h12 = .ok (.nx, [some (.int (n : Int)), some (netD net), some (tupI row), some (netD O), some (tupI Nm), some (tupI M), some (.str (txtL [netD net, tupI row])), some (tupI (idI n)), some (.ref T), some (tupI B), some (tupI M), none, none, none, none], h14) := by
    simp only [SR] at c2 ⊢
    unfold S5_law_is_standard_right
    simp -implicitDefEqProofs [c2, r13, sqM, ← eh14, r14, rM]
  have l14 : lk h14 T = some [stD (O, Nm), stD (O, Nm), stD (O, Nm)] := by rw [eh14, eh13]; exact lk_app (lk_app l12 _) _
  -- is_standard
  obtain ⟨h15, a15, g15⟩ := x_is_standard (net := O) (by omega) h14
  obtain ⟨h16, a16, g16⟩ := x_is_standard (net := net) (by omega) h15
  have sO1 : stdB O = true := by
    unfold stdB
    rw [List.all_eq_true]
    exact fun p hp => decide_eq_true (I.std p hp)
  rw [sO1] at a15
  obtain ⟨h17, eh17⟩ : ∃ h17, h17 = h16 ++ [.lst [.bl true, .bl (stdB net)]] := ⟨_, rfl⟩
  have r17 := repr_bs (h := h17) (m := h16.length) (l := [true, stdB net]) (by rw [eh17]; exact lk_at _ _ []) (by simp)
  have c1 := C1_std (net := net) (by omega) (s := [some (.int (n : Int)), some (netD net), some (tupI row), some (netD O), some (tupI Nm), some (tupI M), some (.str (txtL [netD net, tupI row])), some (tupI (idI n)), some (.ref T), some (tupI B), some (tupI M), none, none, none, none]) (h := h17) rfl rfl
  obtain ⟨h18, eh18⟩ : ∃ h18, h18 = h17 ++ [.lst ((net.map fun p => decide (p.1 < p.2)).map .bl)] := ⟨_, rfl⟩
  have b18 := bAll_b (h := h18) (n := h17.length) (l := net.map fun p => decide (p.1 < p.2)) (by rw [eh18]; exact lk_at _ _ [])
  rw [List.all_map, show (net.all (id ∘ fun p : Int × Int => decide (p.1 < p.2))) = stdB net from rfl] at b18
  rw [← eh18] at c1
  obtain ⟨h19, eh19⟩ : ∃ h19, h19 = h18 ++ [.lst [.bl true, .bl (stdB net)]] := ⟨_, rfl⟩
  have r19 := repr_bs (h := h19) (m := h18.length) (l := [true, stdB net]) (by rw [eh19]; exact lk_at _ _ []) (by simp)
  have eb : [true, stdB net].map D.bl = [.bl true, .bl (stdB net)] := rfl
  have e4 : SR S4_law_is_standard_right [some (.int (n : Int)), some (netD net), some (tupI row), some (netD O), some (tupI Nm), some (tupI M), some (.str (txtL [netD net, tupI row])), some (tupI (idI n)), some (.ref T), some (tupI B), some (tupI M), none, none, none, none] h14 = .ok (.nx, [some (.int (n : Int)), some (netD net), some (tupI row), some (netD O), some (tupI Nm), some (tupI M), some (.str (txtL [netD net, tupI row])), some (tupI (idI n)), some (.ref T), some (tupI B), some (tupI M), none, none, none, none], h19) := by
    simp only [SR] at c1 ⊢
    unfold S4_law_is_standard_right
    simp -implicitDefEqProofs [l14, ix0, sqS, jx0, a15, a16, ← eh17, r17, c1, b18, ← eh19, r19]
  have g1419 : Grow h14 h19 := by
    rw [eh19, eh18, eh17]
    exact (((g15.trans g16).app _).app _).app _
  have l19 := lk2 g1419 l14
  -- of its own
  obtain ⟨h20, a20, g20⟩ := x_standard hn' wO (by omega) h19
  rw [stR_self wO I.std] at a20
  have pI := pl_std hn' wO (id_lim hn')
  rw [id_len] at pI
  have rI := repr_D pI.1 (by decide) (by omega)
  have fi : D.tup [netD O, tupI (idI n)] = stD (O, idI n) := rfl
  have e3 : SR S3_law_is_standard_right [some (.int (n : Int)), some (netD net), some (tupI row), some (netD O), some (tupI Nm), some (tupI M), some (.str (txtL [netD net, tupI row])), some (tupI (idI n)), some (.ref T), some (tupI B), some (tupI M), none, none, none, none] h19 = .ok (.nx, [some (.int (n : Int)), some (netD net), some (tupI row), some (netD O), some (tupI Nm), some (tupI M), some (.str (txtL [netD net, tupI row])), some (tupI (idI n)), some (.ref T), some (tupI B), some (tupI M), none, none, none, none], h20) := by
    simp -implicitDefEqProofs [SR, S3_law_is_standard_right, l19, ix1, sqS, jx0, a20, rI, fi]
  obtain ⟨r, h21, a21, g21, F1⟩ := s_failing hn wO h20
  have e2 : SR S2_law_is_standard_right [some (.int (n : Int)), some (netD net), some (tupI row), some (netD O), some (tupI Nm), some (tupI M), some (.str (txtL [netD net, tupI row])), some (tupI (idI n)), some (.ref T), some (tupI B), some (tupI M), none, none, none, none] h20 = .ok (.nx, [some (.int (n : Int)), some (netD net), some (tupI row), some (netD O), some (tupI Nm), some (tupI M), some (.str (txtL [netD net, tupI row])), some (tupI (idI n)), some (.ref T), some (tupI B), some (tupI M), some (r), none, none, none], h21) := by
    simp -implicitDefEqProofs [SR, S2_law_is_standard_right, a21]
  obtain ⟨r2, h22, a22, g22, F2⟩ := s_failing hn w h21
  have e1 : SR S1_law_is_standard_right [some (.int (n : Int)), some (netD net), some (tupI row), some (netD O), some (tupI Nm), some (tupI M), some (.str (txtL [netD net, tupI row])), some (tupI (idI n)), some (.ref T), some (tupI B), some (tupI M), some (r), none, none, none] h21 = .ok (.nx, [some (.int (n : Int)), some (netD net), some (tupI row), some (netD O), some (tupI Nm), some (tupI M), some (.str (txtL [netD net, tupI row])), some (tupI (idI n)), some (.ref T), some (tupI B), some (tupI M), some (r), none, none, none], h22) := by
    have isn : ∀ l, isNon (tupI l) = false := fun _ => rfl
    rcases F2 with ⟨rfl, hs⟩ | ⟨t, rfl, nr⟩
    · have q := sorts_names w hs
      rw [eR] at q
      have rn : r = .non := by
        rcases F1 with ⟨e, _⟩ | ⟨t, _, nr⟩
        · exact e
        · exact absurd (q.2 _ (rowT_len n t)) nr
      subst rn
      have en : Nm = idI n := q.1
      have dn := dNe_I h22 Nm (idI n)
      rw [decide_eq_true en] at dn
      have dn : dNe (tupI Nm) (tupI (idI n)) h22 = some (.bl (!true), h22) := dn
      simp -implicitDefEqProofs [SR, S1_law_is_standard_right, a22, dn, dIsN, dNotN, isNon]
    · simp -implicitDefEqProofs [SR, S1_law_is_standard_right, a22, isn]
  have l22 := lk2 ((g20.trans g21).trans g22) l19
  obtain ⟨h23, a23, g23⟩ := s_does_go hn' wO hl F1 h22
  obtain ⟨h24, eh24⟩ : ∃ h24, h24 = h23 ++ [.lst [netD net, tupI row]] := ⟨_, rfl⟩
  have r24 := rk h24 h23.length (by rw [eh24]; exact lk_at _ _ [])
  have gA : Grow h h14 := by
    rw [eh14, eh13]
    refine (Grow.app ?_ _).app _
    refine Grow.trans ?_ (g11.trans g12)
    rw [eh10, eh9, eh8]
    refine ((Grow.app ?_ _).app _).app _
    refine Grow.trans ?_ ((g5.trans g6).trans g7)
    rw [eh4, eh3]
    exact ((g1.trans g2).app _).app _
  refine ⟨h24, mF_rt (s' := [some (.int (n : Int)), some (netD net), some (tupI row), some (netD O), some (tupI Nm), some (tupI M), some (.str (txtL [netD net, tupI row])), some (tupI (idI n)), some (.ref T), some (tupI B), some (tupI M), some (r), none, none, none]) ?_, by rw [eh24]; exact (((gA.trans g1419).trans ((g20.trans g21).trans g22)).trans g23).app _⟩
  show SR m_law_is_standard_right [some (.int (n : Int)), some (netD net), some (tupI row), none, none, none, none, none, none, none, none, none, none, none, none] h = _
  simp only [SR] at *
  unfold m_law_is_standard_right
  rw [seq_nx e10, seq_nx e9, seq_nx e8, seq_nx e7, seq_nx e6, seq_nx e5, seq_nx e4, seq_nx e3, seq_nx e2, seq_nx e1]
  simp -implicitDefEqProofs [l22, ix2, sqS, jx0, a23, ← eh24, r24]
end K03

namespace K03
open PySem Vq
abbrev MR {α : Type} (f : Fn → Fn → Fn → Fn → Fn → α) : α := f F_law_does_go F_law_failing F_made_row F_mirrored_net F_law_made
theorem C3_mir {n : Nat} {net : List (Int × Int)} (hz : net.length ≤ 1000) {s : VS} {h : VH} (g0 : s[0]? = some (some (.int (n : Int)))) (g1 : s[1]? = some (some (netD net))) (hl : s.length = 12) :
    MR C3_law_is_mirror_right s h = .ok (.ref h.length, h ++ [.lst ((net.map (mir n)).map pD)]) := by
  simp only [MR]
  unfold C3_law_is_mirror_right
  rw [lc_tup (h1 := h) (ys := net) (c := pD) (fun _ => true) (fun p => pD (mir n p)) (by simp [g1, netD]) (by omega) (by
    intro y hy acc
    refine ⟨_, rfl, rfl, fun _ => ?_⟩
    have l1 : (vwipe s [9, 10]).length = 12 := by simp [vwipe, hl]
    have v9 : (((vwipe s [9, 10]).set 9 (some (D.int y.1))).set 10 (some (D.int y.2)))[9]? = some (some (.int y.1)) := by
      rw [List.getElem?_set_ne (by decide)]
      exact List.getElem?_set_self (by omega)
    have v10 : (((vwipe s [9, 10]).set 9 (some (D.int y.1))).set 10 (some (D.int y.2)))[10]? = some (some (.int y.2)) := List.getElem?_set_self (by rw [List.length_set]; omega)
    have v0 : (((vwipe s [9, 10]).set 9 (some (D.int y.1))).set 10 (some (D.int y.2)))[0]? = some (some (.int (n : Int))) := by
      rw [List.getElem?_set_ne (by decide), List.getElem?_set_ne (by decide)]
      simp [vwipe, g0]
    simp -implicitDefEqProofs [E3_law_is_mirror_right, v9, v10, v0, pD, mir])]
  simp only [List.filter_eq_self.mpr (fun _ _ => rfl), List.map_map]
  rfl
theorem C2_mir {l : List Int} (hz : l.length ≤ 1000) {s : VS} {h : VH} (g : s[2]? = some (some (tupI l))) (hl : s.length = 12) :
    MR C2_law_is_mirror_right s h = .ok (.ref (h.length + 1), h ++ [.lst (l.map .int)] ++ [.lst ((negrev l).map .int)]) := by
  have sq : ∀ h, seqOf h (tupI l) = some (l.map .int) := fun _ => rfl
  simp only [MR]
  unfold C2_law_is_mirror_right
  rw [lc_pure (src := fun h' => (lk h' h.length).bind fun l1 => if l1.length = (l.map D.int).length then some l1.reverse else none) (h1 := h ++ [.lst (l.map .int)]) (ys := l.reverse) (c := .int) (fun _ => true) (fun x => .int (-x)) (by simp [vRev, g, sq, revOf]) (fun acc => by simp) (by rw [List.length_reverse]; exact le_line (by omega)) (by
    intro y hy acc
    refine ⟨_, rfl, rfl, fun _ => ?_⟩
    have l1 : (vwipe s [11]).length = 12 := by simp [vwipe, hl]
    have v11 : ((vwipe s [11]).set 11 (some (D.int y)))[11]? = some (some (.int y)) := List.getElem?_set_self (by omega)
    simp -implicitDefEqProofs [E2_law_is_mirror_right, v11])]
  simp only [List.filter_eq_self.mpr (fun _ _ => rfl), List.length_append, List.length_singleton]
  unfold negrev
  rw [List.map_map]
  rfl
theorem C1_mir {l : List Int} (hz : l.length ≤ 1000) {s : VS} {h : VH} (g : s[5]? = some (some (tupI l))) (hl : s.length = 12) :
    MR C1_law_is_mirror_right s h = .ok (.ref (h.length + 1), h ++ [.lst (l.map .int)] ++ [.lst ((negrev l).map .int)]) := by
  have sq : ∀ h, seqOf h (tupI l) = some (l.map .int) := fun _ => rfl
  simp only [MR]
  unfold C1_law_is_mirror_right
  rw [lc_pure (src := fun h' => (lk h' h.length).bind fun l1 => if l1.length = (l.map D.int).length then some l1.reverse else none) (h1 := h ++ [.lst (l.map .int)]) (ys := l.reverse) (c := .int) (fun _ => true) (fun x => .int (-x)) (by simp [vRev, g, sq, revOf]) (fun acc => by simp) (by rw [List.length_reverse]; exact le_line (by omega)) (by
    intro y hy acc
    refine ⟨_, rfl, rfl, fun _ => ?_⟩
    have l1 : (vwipe s [11]).length = 12 := by simp [vwipe, hl]
    have v11 : ((vwipe s [11]).set 11 (some (D.int y)))[11]? = some (some (.int y)) := List.getElem?_set_self (by omega)
    simp -implicitDefEqProofs [E1_law_is_mirror_right, v11])]
  simp only [List.filter_eq_self.mpr (fun _ _ => rfl), List.length_append, List.length_singleton]
  unfold negrev
  rw [List.map_map]
  rfl
theorem s_mirror_right {n : Nat} (hn : n ≤ 10) {net : List (Int × Int)} {row : List Int} (w : Wires n net) (z : net.length ≤ 500) (hl : row.length = n) (lim : Lim row) (h : VH) : ∃ h', F_law_is_mirror_right [.int n, netD net, tupI row] h = .ok (.bl true, h') ∧ Grow h h' := by
  have hn' : n ≤ 1000 := by omega
  have hw : Wires row.length net := by rw [hl]; exact w
  obtain ⟨E, hE⟩ : ∃ E, E = net.map (mir n) := ⟨_, rfl⟩
  have wE : Wires n E := by rw [hE]; exact mir_wires w
  have zE : E.length = net.length := by rw [hE, List.length_map]
  have eEE : E.map (mir n) = net := by rw [hE]; exact mir_mir n net
  obtain ⟨M, hM⟩ : ∃ M, M = madeR net row := ⟨_, rfl⟩
  have lM : M.length = n := by rw [hM, madeR_len, hl]
  have limM : Lim M := by rw [hM]; exact lim.perm (madeR_perm hw)
  obtain ⟨U, hU⟩ : ∃ U, U = negrev row := ⟨_, rfl⟩
  obtain ⟨V, hV⟩ : ∃ V, V = negrev M := ⟨_, rfl⟩
  have lU : U.length = n := by rw [hU, negrev_len, hl]
  have lV : V.length = n := by rw [hV, negrev_len, lM]
  have limV : Lim V := by rw [hV]; exact negrev_lim limM
  have hwU : Wires U.length E := by rw [lU]; exact wE
  have eUV : madeR E U = V := by
    rw [hE, hU, hV, hM]
    exact madeR_mir hl w
  have pNet := pl_net hn' w
  have pE := pl_net hn' wE
  have pRow := pl_row lim
  have pV := pl_row limV
  have sNet := sz_net hn' w
  have sE := sz_net hn' wE
  have sRow := sz_row lim
  have sV := sz_row limV
  have rk : ∀ (h : VH) (x : Nat), lk h x = some [netD net, tupI row] → bRepr [.ref x] h = some (.str (txtL [netD net, tupI row]), h) := fun h x e =>
    repr_L (k := 2) e (fun d hd => by
      simp only [List.mem_cons, List.not_mem_nil, or_false] at hd
      rcases hd with rfl | rfl
      · exact pNet
      · exact pRow.mono (by decide)) (by decide) (by simp only [List.map_cons, List.map_nil, List.sum_cons, List.sum_nil]; omega)
  have rE := repr_same (c := 3) (s := 0) (k := 2) (by decide) pE (by omega) (l := [netD E, netD E, netD E]) rfl
  have rV := repr_same (c := 2) (s := 0) (k := 1) (by decide) pV (by omega) (l := [tupI V, tupI V]) rfl
  have rN := repr_D pNet (by decide) (by omega)
  have c3 := C3_mir (n := n) (net := net) (by omega) (s := [some (.int (n : Int)), some (netD net), some (tupI row), none, none, none, none, none, none, none, none, none]) (h := h) rfl rfl rfl
  rw [← hE] at c3
  obtain ⟨h1, eh1⟩ : ∃ h1, h1 = h ++ [.lst (E.map pD)] := ⟨_, rfl⟩
  have l1 : lk h1 h.length = some (E.map pD) := by rw [eh1]; exact lk_at _ _ []
  rw [← eh1] at c3
  obtain ⟨h2, eh2⟩ : ∃ h2, h2 = h1 ++ [.lst [netD net, tupI row]] := ⟨_, rfl⟩
  have r2 := rk h2 h1.length (by rw [eh2]; exact lk_at _ _ [])
  obtain ⟨h3, a3, g3⟩ := r_lmade hw h2
  rw [← hM] at a3
  have fE : netD E = .tup (E.map pD) := rfl
  have e5 : MR S5_law_is_mirror_right [some (.int (n : Int)), some (netD net), some (tupI row), none, none, none, none, none, none, none, none, none] h = .ok (.nx, [some (.int (n : Int)), some (netD net), some (tupI row), some (netD E), some (.str (txtL [netD net, tupI row])), some (tupI M), none, none, none, none, none, none], h3) := by
    rw [fE]
    simp only [MR] at c3 ⊢
    unfold S5_law_is_mirror_right
    generalize E.map pD = u at *
    simp -implicitDefEqProofs [c3, l1, ← eh2, r2, a3]
  obtain ⟨h4, a4, g4⟩ := x_mirrored (n := n) (net := net) (by omega) h3
  obtain ⟨h5, a5, g5⟩ := x_mirrored (n := n) (net := net) (by omega) h4
  obtain ⟨h6, a6, g6⟩ := x_mirrored (n := n) (net := net) (by omega) h5
  rw [← hE] at a4 a5 a6
  obtain ⟨T, hT⟩ : ∃ T, T = h6.length := ⟨_, rfl⟩
  obtain ⟨h7, eh7⟩ : ∃ h7, h7 = h6 ++ [.lst [netD E, netD E, netD E]] := ⟨_, rfl⟩
  have l7 : lk h7 T = some [netD E, netD E, netD E] := by rw [eh7, hT]; exact lk_at _ _ []
  have e4 : MR S4_law_is_mirror_right [some (.int (n : Int)), some (netD net), some (tupI row), some (netD E), some (.str (txtL [netD net, tupI row])), some (tupI M), none, none, none, none, none, none] h3 = .ok (.nx, [some (.int (n : Int)), some (netD net), some (tupI row), some (netD E), some (.str (txtL [netD net, tupI row])), some (tupI M), some (.ref T), none, none, none, none, none], h7) := by
    simp -implicitDefEqProofs [MR, S4_law_is_mirror_right, a4, a5, a6, hT, eh7]
  have t7 := rE h7 T l7
  obtain ⟨h8, eh8⟩ : ∃ h8, h8 = h7 ++ [.lst [netD E]] := ⟨_, rfl⟩
  have m8 := dMul_3 (h := h8) (m := h7.length) (x := netD E) (by rw [eh8]; exact cell_at _ _)
  obtain ⟨h9, eh9⟩ : ∃ h9, h9 = h8 ++ [.lst [netD E, netD E, netD E]] := ⟨_, rfl⟩
  rw [← eh9] at m8
  have t9 := rE h9 h8.length (by rw [eh9]; exact lk_at _ _ [])
  have l9 : lk h9 T = some [netD E, netD E, netD E] := by rw [eh9, eh8]; exact lk_app (lk_app l7 _) _
  obtain ⟨h10, a10, g10⟩ := x_mirrored (n := n) (net := E) (by omega) h9
  rw [eEE] at a10
  have ix0 : ∀ x y z : D, L2.atI [x, y, z] 0 = some x := fun x y z => rfl
  have ix1 : ∀ x y z : D, L2.atI [x, y, z] 1 = some y := fun x y z => rfl
  have ix2 : ∀ x y z : D, L2.atI [x, y, z] 2 = some z := fun x y z => rfl
  have e3 : MR S3_law_is_mirror_right [some (.int (n : Int)), some (netD net), some (tupI row), some (netD E), some (.str (txtL [netD net, tupI row])), some (tupI M), some (.ref T), none, none, none, none, none] h7 = .ok (.nx, [some (.int (n : Int)), some (netD net), some (tupI row), some (netD E), some (.str (txtL [netD net, tupI row])), some (tupI M), some (.ref T), none, none, none, none, none], h10) := by
    simp -implicitDefEqProofs [MR, S3_law_is_mirror_right, t7, ← eh8, m8, t9, l9, ix0, a10, rN]
  have l10 := g10.lk l9
  have c2 := C2_mir (l := row) (by omega) (s := [some (.int (n : Int)), some (netD net), some (tupI row), some (netD E), some (.str (txtL [netD net, tupI row])), some (tupI M), some (.ref T), none, none, none, none, none]) (h := h10) rfl rfl
  rw [← hU] at c2
  obtain ⟨h11, eh11⟩ : ∃ h11, h11 = h10 ++ [.lst (row.map .int)] ++ [.lst (U.map .int)] := ⟨_, rfl⟩
  have l11 : lk h11 (h10.length + 1) = some (U.map .int) := by
    rw [eh11]
    simpa using lk_at (h10 ++ [.lst (row.map .int)]) (U.map .int) []
  rw [← eh11] at c2
  have c1 := C1_mir (l := M) (by omega) (s := [some (.int (n : Int)), some (netD net), some (tupI row), some (netD E), some (.str (txtL [netD net, tupI row])), some (tupI M), some (.ref T), none, none, none, none, none]) (h := h11) rfl rfl
  rw [← hV] at c1
  obtain ⟨h12, eh12⟩ : ∃ h12, h12 = h11 ++ [.lst (M.map .int)] ++ [.lst (V.map .int)] := ⟨_, rfl⟩
  have l12 : lk h12 (h11.length + 1) = some (V.map .int) := by
    rw [eh12]
    simpa using lk_at (h11 ++ [.lst (M.map .int)]) (V.map .int) []
  rw [← eh12] at c1
  have fU : tupI U = .tup (U.map .int) := rfl
  have fV : tupI V = .tup (V.map .int) := rfl
  have e2 : MR S2_law_is_mirror_right [some (.int (n : Int)), some (netD net), some (tupI row), some (netD E), some (.str (txtL [netD net, tupI row])), some (tupI M), some (.ref T), none, none, none, none, none] h10 = .ok (.nx, [some (.int (n : Int)), some (netD net), some (tupI row), some (netD E), some (.str (txtL [netD net, tupI row])), some (tupI M), some (.ref T), some (tupI U), some (tupI V), none, none, none], h12) := by
    rw [fU, fV]
    simp only [MR] at c1 c2 ⊢
    unfold S2_law_is_mirror_right
    generalize U.map D.int = u at *
    generalize V.map D.int = v at *
    simp -implicitDefEqProofs [c2, l11, c1, l12]
  have g1012 : Grow h10 h12 := by
    rw [eh12, eh11]
    exact ((((Grow.new _ _).app _).app _).app _)
  have l12T := g1012.lk l10
  obtain ⟨h13, a13, g13⟩ := r_made hwU h12
  obtain ⟨h14, a14, g14⟩ := r_made hwU h13
  rw [eUV] at a13 a14
  have l13T := g13.lk l12T
  obtain ⟨h15, eh15⟩ : ∃ h15, h15 = h14 ++ [.lst [tupI V, tupI V]] := ⟨_, rfl⟩
  have t15 := rV h15 h14.length (by rw [eh15]; exact lk_at _ _ [])
  obtain ⟨h16, eh16⟩ : ∃ h16, h16 = h15 ++ [.lst [tupI V]] := ⟨_, rfl⟩
  have m16 := dMul_2 (h := h16) (m := h15.length) (x := tupI V) (by rw [eh16]; exact cell_at _ _)
  obtain ⟨h17, eh17⟩ : ∃ h17, h17 = h16 ++ [.lst [tupI V, tupI V]] := ⟨_, rfl⟩
  rw [← eh17] at m16
  have t17 := rV h17 h16.length (by rw [eh17]; exact lk_at _ _ [])
  have e1 : MR S1_law_is_mirror_right [some (.int (n : Int)), some (netD net), some (tupI row), some (netD E), some (.str (txtL [netD net, tupI row])), some (tupI M), some (.ref T), some (tupI U), some (tupI V), none, none, none] h12 = .ok (.nx, [some (.int (n : Int)), some (netD net), some (tupI row), some (netD E), some (.str (txtL [netD net, tupI row])), some (tupI M), some (.ref T), some (tupI U), some (tupI V), none, none, none], h17) := by
    simp -implicitDefEqProofs [MR, S1_law_is_mirror_right, l12T, ix0, a13, l13T, ix1, a14, ← eh15, t15, ← eh16, m16, t17]
  obtain ⟨r, h18, a18, g18, F⟩ := s_failing hn wE h17
  have g1217 : Grow h12 h17 := by
    rw [eh17, eh16, eh15]
    exact (((g13.trans g14).app _).app _).app _
  have l18 := (g1217.trans g18).lk l12T
  obtain ⟨h19, a19, g19⟩ := s_does_go hn' wE lU F h18
  obtain ⟨h20, eh20⟩ : ∃ h20, h20 = h19 ++ [.lst [netD net, tupI row]] := ⟨_, rfl⟩
  have r20 := rk h20 h19.length (by rw [eh20]; exact lk_at _ _ [])
  have gA : Grow h h10 := by
    refine Grow.trans ?_ g10
    rw [eh9, eh8, eh7]
    refine ((Grow.app ?_ _).app _).app _
    refine Grow.trans ?_ ((g4.trans g5).trans g6)
    refine Grow.trans ?_ g3
    rw [eh2, eh1]
    exact (Grow.new _ _).app _
  refine ⟨h20, mF_rt (s' := [some (.int (n : Int)), some (netD net), some (tupI row), some (netD E), some (.str (txtL [netD net, tupI row])), some (tupI M), some (.ref T), some (tupI U), some (tupI V), none, none, none]) ?_, by rw [eh20]; exact ((((gA.trans g1012).trans g1217).trans g18).trans g19).app _⟩
  show MR m_law_is_mirror_right [some (.int (n : Int)), some (netD net), some (tupI row), none, none, none, none, none, none, none, none, none] h = _
  simp only [MR] at *
  unfold m_law_is_mirror_right
  rw [seq_nx e5, seq_nx e4, seq_nx e3, seq_nx e2, seq_nx e1]
  simp -implicitDefEqProofs [a18, l18, ix2, a19, ← eh20, r20]
end K03

namespace K03
open PySem Vq
abbrev NR {α : Type} (f : Fn → Fn → Fn → α) : α := f F_made_row F_renamed_net F_law_made
def namesF (l : List Int) : D := .ftup (l.map .int)
theorem pyOf_f (l : List D) : pyOf (.ftup l) = pyOf (.tup l) := by
  unfold pyOf
  simp only [pyD]
theorem pl_names {l : List Int} (h : Lim l) : PlD 1 (namesF l) ∧ sz (namesF l) = l.length + 1 := by
  have p := pl_row h
  have s := sz_row h
  have e : pyOf (namesF l) = pyOf (tupI l) := pyOf_f _
  refine ⟨⟨fun f => ?_, ?_, ?_, ?_⟩, ?_⟩
  · have q := p.hp f
    rw [e]
    unfold tupI at q
    unfold namesF
    simp only [pyD] at q ⊢
    exact q
  · rw [e]
    exact p.lay
  · rw [e]
    exact p.dep
  · rw [e]
    exact p.sho
  · unfold sz at s ⊢
    rw [e]
    exact s
theorem find_int {x : Int} : ∀ {l : List Int}, x ∈ l → findF (.int x) (l.map .int) = some (l.idxOf x)
  | [], h => absurd h List.not_mem_nil
  | y :: r, h => by
    rw [List.map_cons]
    unfold findF
    by_cases e : y = x
    · subst e
      simp [eqF]
    · have eb : (y == x) = false := by simpa using e
      have hr : x ∈ r := by
        rcases List.mem_cons.mp h with z | z
        · exact absurd z.symm e
        · exact z
      simp only [eqF, eb]
      rw [if_neg (by decide), find_int hr]
      simp [List.idxOf_cons, eb]
theorem C5_ren {n : Nat} {net : List (Int × Int)} {Nm : List Int} (hl : Nm.length = n) (hw : Wires n net) (hz : net.length ≤ 1000) {s : VS} {h : VH} (g1 : s[1]? = some (some (netD net))) (g2 : s[2]? = some (some (namesF Nm))) (gl : s.length = 15) :
    NR C5_law_is_renamed_right s h = .ok (.ref h.length, h ++ [.lst ((net.map (rn Nm)).map pD)]) := by
  simp only [NR]
  unfold C5_law_is_renamed_right
  rw [lc_tup (h1 := h) (ys := net) (c := pD) (fun _ => true) (fun p => pD (rn Nm p)) (by simp [g1, netD]) (by omega) (by
    intro y hy acc
    have hp := hw y hy
    have a1 := atR (row := Nm) hp.1 (by omega)
    have a2 := atR (row := Nm) hp.2.2.1 (by omega)
    have sq : ∀ h, seqOf h (namesF Nm) = some (Nm.map .int) := fun _ => rfl
    refine ⟨_, rfl, rfl, fun _ => ?_⟩
    have l1 : (vwipe s [13, 14]).length = 15 := by simp [vwipe, gl]
    have v13 : (((vwipe s [13, 14]).set 13 (some (D.int y.1))).set 14 (some (D.int y.2)))[13]? = some (some (.int y.1)) := by
      rw [List.getElem?_set_ne (by decide)]
      exact List.getElem?_set_self (by omega)
    have v14 : (((vwipe s [13, 14]).set 13 (some (D.int y.1))).set 14 (some (D.int y.2)))[14]? = some (some (.int y.2)) := List.getElem?_set_self (by rw [List.length_set]; omega)
    have v2 : (((vwipe s [13, 14]).set 13 (some (D.int y.1))).set 14 (some (D.int y.2)))[2]? = some (some (namesF Nm)) := by
      rw [List.getElem?_set_ne (by decide), List.getElem?_set_ne (by decide)]
      simp [vwipe, g2]
    simp -implicitDefEqProofs [E5_law_is_renamed_right, v13, v14, v2, sq, a1, a2, pD, rn])]
  simp only [List.filter_eq_self.mpr (fun _ _ => rfl), List.map_map]
  rfl
theorem C4_ren {n : Nat} {Nm : List Int} (hn : n ≤ 1000) (P : NmI n Nm) {s : VS} {h : VH} (g0 : s[0]? = some (some (.int (n : Int)))) (g2 : s[2]? = some (some (namesF Nm))) (gl : s.length = 15) :
    NR C4_law_is_renamed_right s h = .ok (.ref h.length, h ++ [.lst ((und n Nm).map .int)]) := by
  simp only [NR]
  unfold C4_law_is_renamed_right
  rw [lc_rng1 (h1 := h) (n := (n : Int)) (fun k => .int ((Nm.idxOf (k : Int) : Nat) : Int)) (by simp [g0]) (by omega) (by omega) (by
    intro k hk acc
    refine ⟨_, rfl, ?_⟩
    have l1 : (vwipe s [12]).length = 15 := by simp [vwipe, gl]
    have v12 : ((vwipe s [12]).set 12 (some (D.int (k : Int))))[12]? = some (some (.int (k : Int))) := List.getElem?_set_self (by omega)
    have v2 : ((vwipe s [12]).set 12 (some (D.int (k : Int))))[2]? = some (some (namesF Nm)) := by
      rw [List.getElem?_set_ne (by decide)]
      simp [vwipe, g2]
    have fi := find_int (x := (k : Int)) (l := Nm) (P.mem.mpr ⟨by omega, by omega⟩)
    have mt : ∀ h, mTIdx (Nm.map .int) [.int (k : Int)] h = some (.int ((Nm.idxOf (k : Int) : Nat) : Int), h) := fun h => by
      have af : (flatD (.int (k : Int)) && (Nm.map D.int).all flatD) = true := by
        rw [show flatD (.int (k : Int)) = true from rfl, Bool.true_and, List.all_map]
        exact List.all_eq_true.mpr fun _ _ => rfl
      unfold mTIdx
      show (if (flatD (.int (k : Int)) && (Nm.map D.int).all flatD) = true then _ else _) = _
      rw [if_pos af, fi]
      rfl
    simp -implicitDefEqProofs [E4_law_is_renamed_right, v12, v2, namesF, mt])]
  unfold und
  rw [List.map_map, Int.toNat_natCast]
  rfl
theorem C3_ren {n : Nat} {Nm l : List Int} (hn : n ≤ 1000) (P : NmI n Nm) (hl : l.length = n) {s : VS} {h : VH} (g0 : s[0]? = some (some (.int (n : Int)))) (g8 : s[8]? = some (some (tupI (und n Nm)))) (gi : s[3]? = some (some (tupI l))) (gl : s.length = 15) :
    NR C3_law_is_renamed_right s h = .ok (.ref h.length, h ++ [.lst ((led n Nm l).map .int)]) := by
  simp only [NR]
  unfold C3_law_is_renamed_right
  rw [lc_rng1 (h1 := h) (n := (n : Int)) (fun k => .int (gt l (gt (und n Nm) k).toNat)) (by simp [g0]) (by omega) (by omega) (by
    intro k hk acc
    refine ⟨_, rfl, ?_⟩
    have hk : k < n := by omega
    have l1 : (vwipe s [12]).length = 15 := by simp [vwipe, gl]
    have v12 : ((vwipe s [12]).set 12 (some (D.int (k : Int))))[12]? = some (some (.int (k : Int))) := List.getElem?_set_self (by omega)
    have v8 : ((vwipe s [12]).set 12 (some (D.int (k : Int))))[8]? = some (some (tupI (und n Nm))) := by
      rw [List.getElem?_set_ne (by decide)]
      simp [vwipe, g8]
    have vi : ((vwipe s [12]).set 12 (some (D.int (k : Int))))[3]? = some (some (tupI l)) := by
      rw [List.getElem?_set_ne (by decide)]
      simp [vwipe, gi]
    have a1 := atR (row := und n Nm) (i := (k : Int)) (by omega) (by rw [und_len]; omega)
    rw [Int.toNat_natCast] at a1
    have ur := P.und_rng hk
    have a2 := atR (row := l) ur.1 (by omega)
    have sq : ∀ (l : List Int) h, seqOf h (tupI l) = some (l.map .int) := fun _ _ => rfl
    generalize gt (und n Nm) k = u at *
    simp -implicitDefEqProofs [E3_law_is_renamed_right, v12, v8, vi, sq, a1, a2])]
  unfold led
  rw [List.map_map, Int.toNat_natCast]
  rfl
theorem C2_ren {n : Nat} {Nm l : List Int} (hn : n ≤ 1000) (P : NmI n Nm) (hl : l.length = n) {s : VS} {h : VH} (g0 : s[0]? = some (some (.int (n : Int)))) (g8 : s[8]? = some (some (tupI (und n Nm)))) (gi : s[6]? = some (some (tupI l))) (gl : s.length = 15) :
    NR C2_law_is_renamed_right s h = .ok (.ref h.length, h ++ [.lst ((led n Nm l).map .int)]) := by
  simp only [NR]
  unfold C2_law_is_renamed_right
  rw [lc_rng1 (h1 := h) (n := (n : Int)) (fun k => .int (gt l (gt (und n Nm) k).toNat)) (by simp [g0]) (by omega) (by omega) (by
    intro k hk acc
    refine ⟨_, rfl, ?_⟩
    have hk : k < n := by omega
    have l1 : (vwipe s [12]).length = 15 := by simp [vwipe, gl]
    have v12 : ((vwipe s [12]).set 12 (some (D.int (k : Int))))[12]? = some (some (.int (k : Int))) := List.getElem?_set_self (by omega)
    have v8 : ((vwipe s [12]).set 12 (some (D.int (k : Int))))[8]? = some (some (tupI (und n Nm))) := by
      rw [List.getElem?_set_ne (by decide)]
      simp [vwipe, g8]
    have vi : ((vwipe s [12]).set 12 (some (D.int (k : Int))))[6]? = some (some (tupI l)) := by
      rw [List.getElem?_set_ne (by decide)]
      simp [vwipe, gi]
    have a1 := atR (row := und n Nm) (i := (k : Int)) (by omega) (by rw [und_len]; omega)
    rw [Int.toNat_natCast] at a1
    have ur := P.und_rng hk
    have a2 := atR (row := l) ur.1 (by omega)
    have sq : ∀ (l : List Int) h, seqOf h (tupI l) = some (l.map .int) := fun _ _ => rfl
    generalize gt (und n Nm) k = u at *
    simp -implicitDefEqProofs [E2_law_is_renamed_right, v12, v8, vi, sq, a1, a2])]
  unfold led
  rw [List.map_map, Int.toNat_natCast]
  rfl
theorem C1_ren {n : Nat} {Nm V : List Int} (hn : n ≤ 1000) (P : NmI n Nm) (hV : V.length = n) {s : VS} {h : VH} {Fd : Nat} (g0 : s[0]? = some (some (.int (n : Int)))) (g2 : s[2]? = some (some (namesF Nm))) (g11 : s[11]? = some (some (.ref Fd))) (lF : lk h Fd = some [tupI V, tupI V]) (gl : s.length = 15) :
    NR C1_law_is_renamed_right s h = .ok (.ref h.length, h ++ [.lst (((List.range n).map fun w => gt V (gt Nm w).toNat).map .int)]) := by
  simp only [NR]
  unfold C1_law_is_renamed_right
  rw [lc_rng1 (h1 := h) (n := (n : Int)) (fun k => .int (gt V (gt Nm k).toNat)) (by simp [g0]) (by omega) (by omega) (by
    intro k hk acc
    refine ⟨_, rfl, ?_⟩
    have hk : k < n := by omega
    have lN := P.len
    have l1 : (vwipe s [12]).length = 15 := by simp [vwipe, gl]
    have v12 : ((vwipe s [12]).set 12 (some (D.int (k : Int))))[12]? = some (some (.int (k : Int))) := List.getElem?_set_self (by omega)
    have v2 : ((vwipe s [12]).set 12 (some (D.int (k : Int))))[2]? = some (some (namesF Nm)) := by
      rw [List.getElem?_set_ne (by decide)]
      simp [vwipe, g2]
    have v11 : ((vwipe s [12]).set 12 (some (D.int (k : Int))))[11]? = some (some (.ref Fd)) := by
      rw [List.getElem?_set_ne (by decide)]
      simp [vwipe, g11]
    have a1 := atR (row := Nm) (i := (k : Int)) (by omega) (by omega)
    rw [Int.toNat_natCast] at a1
    have ur := P.rng hk
    have a2 := atR (row := V) ur.1 (by omega)
    have lF' := lk_app lF [.lst acc]
    have sq : ∀ (l : List Int) h, seqOf h (tupI l) = some (l.map .int) := fun _ _ => rfl
    have sqN : ∀ h, seqOf h (namesF Nm) = some (Nm.map .int) := fun _ => rfl
    have ix0 : ∀ x y : D, L2.atI [x, y] 0 = some x := fun x y => rfl
    generalize gt Nm k = u at *
    simp -implicitDefEqProofs [E1_law_is_renamed_right, v12, v2, v11, lF', ix0, sq, sqN, a1, a2])]
  rw [List.map_map, Int.toNat_natCast]
  rfl
theorem s_renamed_right {n : Nat} (hn : n ≤ 10) {net : List (Int × Int)} {row Nm : List Int} (w : Wires n net) (z : net.length ≤ 500) (P : NmI n Nm) (hl : row.length = n) (lim : Lim row) (h : VH) : ∃ h', F_law_is_renamed_right [.int n, netD net, namesF Nm, tupI row] h = .ok (.bl true, h') ∧ Grow h h' := by
  have hn' : n ≤ 1000 := by omega
  have hw : Wires row.length net := by rw [hl]; exact w
  have lN := P.len
  obtain ⟨E, hE⟩ : ∃ E, E = net.map (rn Nm) := ⟨_, rfl⟩
  have wE : Wires n E := by rw [hE]; exact rn_wires P w
  have zE : E.length = net.length := by rw [hE, List.length_map]
  obtain ⟨U, hU⟩ : ∃ U, U = und n Nm := ⟨_, rfl⟩
  have lU : U.length = n := by rw [hU, und_len]
  have eEE : E.map (rn U) = net := by rw [hE, hU]; exact rn_back P w
  obtain ⟨M, hM⟩ : ∃ M, M = madeR net row := ⟨_, rfl⟩
  have lM : M.length = n := by rw [hM, madeR_len, hl]
  have limM : Lim M := by rw [hM]; exact lim.perm (madeR_perm hw)
  obtain ⟨L, hL⟩ : ∃ L, L = led n Nm row := ⟨_, rfl⟩
  obtain ⟨V, hV⟩ : ∃ V, V = led n Nm M := ⟨_, rfl⟩
  have lL : L.length = n := by rw [hL, led_len]
  have lV : V.length = n := by rw [hV, led_len]
  have limV : Lim V := by rw [hV]; exact led_lim P lM limM
  have hwL : Wires L.length E := by rw [lL]; exact wE
  have eLV : madeR E L = V := by
    rw [hE, hL, hV, hM]
    exact madeR_led P hl w
  have eB : ((List.range n).map fun w => gt V (gt Nm w).toNat) = M := by
    rw [hV]
    exact led_back P lM
  have limN : Lim Nm := lim_names hn' lN fun w hw => P.rng hw
  have pN := pl_names limN
  have pNet := pl_net hn' w
  have pE := pl_net hn' wE
  have pRow := pl_row lim
  have pV := pl_row limV
  have sNet := sz_net hn' w
  have sE := sz_net hn' wE
  have sRow := sz_row lim
  have sV := sz_row limV
  have sN := pN.2
  have rk : ∀ (h : VH) (x : Nat), lk h x = some [netD net, namesF Nm, tupI row] → bRepr [.ref x] h = some (.str (txtL [netD net, namesF Nm, tupI row]), h) := fun h x e =>
    repr_L (k := 2) e (fun d hd => by
      simp only [List.mem_cons, List.not_mem_nil, or_false] at hd
      rcases hd with rfl | rfl | rfl
      · exact pNet
      · exact pN.1.mono (by decide)
      · exact pRow.mono (by decide)) (by decide) (by simp only [List.map_cons, List.map_nil, List.sum_cons, List.sum_nil]; omega)
  have rE := repr_same (c := 3) (s := 0) (k := 2) (by decide) pE (by omega) (l := [netD E, netD E, netD E]) rfl
  have rV := repr_same (c := 2) (s := 0) (k := 1) (by decide) pV (by omega) (l := [tupI V, tupI V]) rfl
  have rN := repr_D pNet (by decide) (by omega)
  have c5 := C5_ren (net := net) lN w (by omega) (s := [some (.int (n : Int)), some (netD net), some (namesF Nm), some (tupI row), none, none, none, none, none, none, none, none, none, none, none]) (h := h) rfl rfl rfl
  rw [← hE] at c5
  obtain ⟨h1, eh1⟩ : ∃ h1, h1 = h ++ [.lst (E.map pD)] := ⟨_, rfl⟩
  have l1 : lk h1 h.length = some (E.map pD) := by rw [eh1]; exact lk_at _ _ []
  rw [← eh1] at c5
  obtain ⟨h2, eh2⟩ : ∃ h2, h2 = h1 ++ [.lst [netD net, namesF Nm, tupI row]] := ⟨_, rfl⟩
  have r2 := rk h2 h1.length (by rw [eh2]; exact lk_at _ _ [])
  obtain ⟨h3, a3, g3⟩ := r_lmade hw h2
  rw [← hM] at a3
  have fE : netD E = .tup (E.map pD) := rfl
  have e7 : NR S7_law_is_renamed_right [some (.int (n : Int)), some (netD net), some (namesF Nm), some (tupI row), none, none, none, none, none, none, none, none, none, none, none] h = .ok (.nx, [some (.int (n : Int)), some (netD net), some (namesF Nm), some (tupI row), some (netD E), some (.str (txtL [netD net, namesF Nm, tupI row])), some (tupI M), none, none, none, none, none, none, none, none], h3) := by
    rw [fE]
    simp only [NR] at c5 ⊢
    unfold S7_law_is_renamed_right
    generalize E.map pD = u at *
    simp -implicitDefEqProofs [c5, l1, ← eh2, r2, a3]
  have sqN : ∀ h, seqOf h (namesF Nm) = some (Nm.map .int) := fun _ => rfl
  obtain ⟨h4, a4, g4⟩ := x_renamed (d := namesF Nm) sqN lN w (by omega) h3
  obtain ⟨h5, a5, g5⟩ := x_renamed (d := namesF Nm) sqN lN w (by omega) h4
  obtain ⟨h6, a6, g6⟩ := x_renamed (d := namesF Nm) sqN lN w (by omega) h5
  rw [← hE] at a4 a5 a6
  obtain ⟨T, hT⟩ : ∃ T, T = h6.length := ⟨_, rfl⟩
  obtain ⟨h7, eh7⟩ : ∃ h7, h7 = h6 ++ [.lst [netD E, netD E, netD E]] := ⟨_, rfl⟩
  have l7 : lk h7 T = some [netD E, netD E, netD E] := by rw [eh7, hT]; exact lk_at _ _ []
  have e6 : NR S6_law_is_renamed_right [some (.int (n : Int)), some (netD net), some (namesF Nm), some (tupI row), some (netD E), some (.str (txtL [netD net, namesF Nm, tupI row])), some (tupI M), none, none, none, none, none, none, none, none] h3 = .ok (.nx, [some (.int (n : Int)), some (netD net), some (namesF Nm), some (tupI row), some (netD E), some (.str (txtL [netD net, namesF Nm, tupI row])), some (tupI M), some (.ref T), none, none, none, none, none, none, none], h7) := by
    simp -implicitDefEqProofs [NR, S6_law_is_renamed_right, a4, a5, a6, hT, eh7]
  have c4 := C4_ren hn' P (s := [some (.int (n : Int)), some (netD net), some (namesF Nm), some (tupI row), some (netD E), some (.str (txtL [netD net, namesF Nm, tupI row])), some (tupI M), some (.ref T), none, none, none, none, none, none, none]) (h := h7) rfl rfl rfl
  rw [← hU] at c4
  obtain ⟨h8, eh8⟩ : ∃ h8, h8 = h7 ++ [.lst (U.map .int)] := ⟨_, rfl⟩
  have l8 : lk h8 h7.length = some (U.map .int) := by rw [eh8]; exact lk_at _ _ []
  rw [← eh8] at c4
  have fU : tupI U = .tup (U.map .int) := rfl
  have e5 : NR S5_law_is_renamed_right [some (.int (n : Int)), some (netD net), some (namesF Nm), some (tupI row), some (netD E), some (.str (txtL [netD net, namesF Nm, tupI row])), some (tupI M), some (.ref T), none, none, none, none, none, none, none] h7 = .ok (.nx, [some (.int (n : Int)), some (netD net), some (namesF Nm), some (tupI row), some (netD E), some (.str (txtL [netD net, namesF Nm, tupI row])), some (tupI M), some (.ref T), some (tupI U), none, none, none, none, none, none], h8) := by
    rw [fU]
    simp only [NR] at c4 ⊢
    unfold S5_law_is_renamed_right
    generalize U.map D.int = u at *
    simp -implicitDefEqProofs [c4, l8]
  have l8T : lk h8 T = some [netD E, netD E, netD E] := by rw [eh8]; exact lk_app l7 _
  have t8 := rE h8 T l8T
  obtain ⟨h9, eh9⟩ : ∃ h9, h9 = h8 ++ [.lst [netD E]] := ⟨_, rfl⟩
  have m9 := dMul_3 (h := h9) (m := h8.length) (x := netD E) (by rw [eh9]; exact cell_at _ _)
  obtain ⟨h10, eh10⟩ : ∃ h10, h10 = h9 ++ [.lst [netD E, netD E, netD E]] := ⟨_, rfl⟩
  rw [← eh10] at m9
  have t10 := rE h10 h9.length (by rw [eh10]; exact lk_at _ _ [])
  have l10 : lk h10 T = some [netD E, netD E, netD E] := by rw [eh10, eh9]; exact lk_app (lk_app l8T _) _
  obtain ⟨h11, a11, g11⟩ := x_renamed (d := tupI U) (names := U) (fun _ => rfl) lU wE (by omega) h10
  rw [eEE] at a11
  have ix0 : ∀ x y z : D, L2.atI [x, y, z] 0 = some x := fun x y z => rfl
  have ix1 : ∀ x y z : D, L2.atI [x, y, z] 1 = some y := fun x y z => rfl
  have e4 : NR S4_law_is_renamed_right [some (.int (n : Int)), some (netD net), some (namesF Nm), some (tupI row), some (netD E), some (.str (txtL [netD net, namesF Nm, tupI row])), some (tupI M), some (.ref T), some (tupI U), none, none, none, none, none, none] h8 = .ok (.nx, [some (.int (n : Int)), some (netD net), some (namesF Nm), some (tupI row), some (netD E), some (.str (txtL [netD net, namesF Nm, tupI row])), some (tupI M), some (.ref T), some (tupI U), none, none, none, none, none, none], h11) := by
    simp -implicitDefEqProofs [NR, S4_law_is_renamed_right, t8, ← eh9, m9, t10, l10, ix0, a11, rN]
  have l11 := g11.lk l10
  have c3 := C3_ren hn' P hl (s := [some (.int (n : Int)), some (netD net), some (namesF Nm), some (tupI row), some (netD E), some (.str (txtL [netD net, namesF Nm, tupI row])), some (tupI M), some (.ref T), some (tupI U), none, none, none, none, none, none]) (h := h11) rfl (by rw [hU]; rfl) rfl rfl
  rw [← hL] at c3
  obtain ⟨h12, eh12⟩ : ∃ h12, h12 = h11 ++ [.lst (L.map .int)] := ⟨_, rfl⟩
  have l12 : lk h12 h11.length = some (L.map .int) := by rw [eh12]; exact lk_at _ _ []
  rw [← eh12] at c3
  have c2 := C2_ren hn' P lM (s := [some (.int (n : Int)), some (netD net), some (namesF Nm), some (tupI row), some (netD E), some (.str (txtL [netD net, namesF Nm, tupI row])), some (tupI M), some (.ref T), some (tupI U), none, none, none, none, none, none]) (h := h12) rfl (by rw [hU]; rfl) rfl rfl
  rw [← hV] at c2
  obtain ⟨h13, eh13⟩ : ∃ h13, h13 = h12 ++ [.lst (V.map .int)] := ⟨_, rfl⟩
  have l13 : lk h13 h12.length = some (V.map .int) := by rw [eh13]; exact lk_at _ _ []
  rw [← eh13] at c2
  have fL : tupI L = .tup (L.map .int) := rfl
  have fV : tupI V = .tup (V.map .int) := rfl
  have e3 : NR S3_law_is_renamed_right [some (.int (n : Int)), some (netD net), some (namesF Nm), some (tupI row), some (netD E), some (.str (txtL [netD net, namesF Nm, tupI row])), some (tupI M), some (.ref T), some (tupI U), none, none, none, none, none, none] h11 = .ok (.nx, [some (.int (n : Int)), some (netD net), some (namesF Nm), some (tupI row), some (netD E), some (.str (txtL [netD net, namesF Nm, tupI row])), some (tupI M), some (.ref T), some (tupI U), some (tupI L), some (tupI V), none, none, none, none], h13) := by
    rw [fL, fV]
    simp only [NR] at c2 c3 ⊢
    unfold S3_law_is_renamed_right
    generalize L.map D.int = u at *
    generalize V.map D.int = v at *
    simp -implicitDefEqProofs [c3, l12, c2, l13]
  have l13T : lk h13 T = some [netD E, netD E, netD E] := by rw [eh13, eh12]; exact lk_app (lk_app l11 _) _
  obtain ⟨h14, a14, g14⟩ := r_made hwL h13
  obtain ⟨h15, a15, g15⟩ := r_made hwL h14
  rw [eLV] at a14 a15
  have l14T := g14.lk l13T
  obtain ⟨Fd, hFd⟩ : ∃ F, F = h15.length := ⟨_, rfl⟩
  obtain ⟨h16, eh16⟩ : ∃ h16, h16 = h15 ++ [.lst [tupI V, tupI V]] := ⟨_, rfl⟩
  have l16 : lk h16 Fd = some [tupI V, tupI V] := by rw [eh16, hFd]; exact lk_at _ _ []
  have e2 : NR S2_law_is_renamed_right [some (.int (n : Int)), some (netD net), some (namesF Nm), some (tupI row), some (netD E), some (.str (txtL [netD net, namesF Nm, tupI row])), some (tupI M), some (.ref T), some (tupI U), some (tupI L), some (tupI V), none, none, none, none] h13 = .ok (.nx, [some (.int (n : Int)), some (netD net), some (namesF Nm), some (tupI row), some (netD E), some (.str (txtL [netD net, namesF Nm, tupI row])), some (tupI M), some (.ref T), some (tupI U), some (tupI L), some (tupI V), some (.ref Fd), none, none, none], h16) := by
    simp -implicitDefEqProofs [NR, S2_law_is_renamed_right, l13T, ix0, a14, l14T, ix1, a15, hFd, eh16]
  have t16 := rV h16 Fd l16
  obtain ⟨h17, eh17⟩ : ∃ h17, h17 = h16 ++ [.lst [tupI V]] := ⟨_, rfl⟩
  have m17 := dMul_2 (h := h17) (m := h16.length) (x := tupI V) (by rw [eh17]; exact cell_at _ _)
  obtain ⟨h18, eh18⟩ : ∃ h18, h18 = h17 ++ [.lst [tupI V, tupI V]] := ⟨_, rfl⟩
  rw [← eh18] at m17
  have t18 := rV h18 h17.length (by rw [eh18]; exact lk_at _ _ [])
  have l18 : lk h18 Fd = some [tupI V, tupI V] := by rw [eh18, eh17]; exact lk_app (lk_app l16 _) _
  have c1 := C1_ren hn' P lV (s := [some (.int (n : Int)), some (netD net), some (namesF Nm), some (tupI row), some (netD E), some (.str (txtL [netD net, namesF Nm, tupI row])), some (tupI M), some (.ref T), some (tupI U), some (tupI L), some (tupI V), some (.ref Fd), none, none, none]) (h := h18) rfl rfl rfl l18 rfl
  rw [eB] at c1
  obtain ⟨h19, eh19⟩ : ∃ h19, h19 = h18 ++ [.lst (M.map .int)] := ⟨_, rfl⟩
  have r19 := repr_is (h := h19) (m := h18.length) (by rw [eh19]; exact lk_at _ _ []) limM (by omega)
  obtain ⟨h20, eh20⟩ : ∃ h20, h20 = h19 ++ [.lst (M.map .int)] := ⟨_, rfl⟩
  have r20 := repr_is (h := h20) (m := h19.length) (by rw [eh20]; exact lk_at _ _ []) limM (by omega)
  have sqM : ∀ h, seqOf h (tupI M) = some (M.map .int) := fun _ => rfl
  rw [← eh19] at c1
  have e1 : NR S1_law_is_renamed_right [some (.int (n : Int)), some (netD net), some (namesF Nm), some (tupI row), some (netD E), some (.str (txtL [netD net, namesF Nm, tupI row])), some (tupI M), some (.ref T), some (tupI U), some (tupI L), some (tupI V), some (.ref Fd), none, none, none] h16 = .ok (.nx, [some (.int (n : Int)), some (netD net), some (namesF Nm), some (tupI row), some (netD E), some (.str (txtL [netD net, namesF Nm, tupI row])), some (tupI M), some (.ref T), some (tupI U), some (tupI L), some (tupI V), some (.ref Fd), none, none, none], h20) := by
    simp only [NR] at c1 ⊢
    unfold S1_law_is_renamed_right
    simp -implicitDefEqProofs [t16, ← eh17, m17, t18, c1, r19, sqM, ← eh20, r20]
  obtain ⟨h21, eh21⟩ : ∃ h21, h21 = h20 ++ [.lst [netD net, namesF Nm, tupI row]] := ⟨_, rfl⟩
  have r21 := rk h21 h20.length (by rw [eh21]; exact lk_at _ _ [])
  have gA : Grow h h11 := by
    refine Grow.trans ?_ g11
    rw [eh10, eh9, eh8, eh7]
    refine (((Grow.app ?_ _).app _).app _).app _
    refine Grow.trans ?_ ((g4.trans g5).trans g6)
    refine Grow.trans ?_ g3
    rw [eh2, eh1]
    exact (Grow.new _ _).app _
  have gB : Grow h11 h21 := by
    rw [eh21, eh20, eh19, eh18, eh17, eh16]
    refine (((((Grow.app ?_ _).app _).app _).app _).app _).app _
    refine Grow.trans ?_ (g14.trans g15)
    rw [eh13, eh12]
    exact (Grow.new _ _).app _
  refine ⟨h21, mF_rt (s' := [some (.int (n : Int)), some (netD net), some (namesF Nm), some (tupI row), some (netD E), some (.str (txtL [netD net, namesF Nm, tupI row])), some (tupI M), some (.ref T), some (tupI U), some (tupI L), some (tupI V), some (.ref Fd), none, none, none]) ?_, gA.trans gB⟩
  show NR m_law_is_renamed_right [some (.int (n : Int)), some (netD net), some (namesF Nm), some (tupI row), none, none, none, none, none, none, none, none, none, none, none] h = _
  simp only [NR] at *
  unfold m_law_is_renamed_right
  rw [seq_nx e7, seq_nx e6, seq_nx e5, seq_nx e4, seq_nx e3, seq_nx e2, seq_nx e1]
  simp -implicitDefEqProofs [← eh21, r21]
end K03

namespace K03
open PySem Vq
abbrev WF {α : Type} (f : Fn → α) : α := f F_law_draw
theorem er_map : ∀ (l : List Int) (i : Nat), (l.map D.int).eraseIdx i = (l.eraseIdx i).map D.int
  | [], _ => rfl
  | _ :: _, 0 => rfl
  | a :: r, i + 1 => by
    show D.int a :: (r.map D.int).eraseIdx i = D.int a :: (r.eraseIdx i).map D.int
    rw [er_map r i]
theorem er_perm : ∀ {l : List Int} {i : Nat} (h : i < l.length), (l[i] :: l.eraseIdx i).Perm l
  | _ :: _, 0, _ => List.Perm.refl _
  | a :: r, i + 1, h => by
    have h' : i < r.length := by simpa using h
    show (r[i] :: a :: r.eraseIdx i).Perm (a :: r)
    exact (List.Perm.swap a r[i] (r.eraseIdx i)).trans ((er_perm h').cons a)

theorem wires_turn {b c n : Nat} {h0 h : VH} (q0 : Hb b c h0) (kp : Keep b c h0 h) {R F : Nat} (hR : h0.length ≤ R) (hF : h0.length ≤ F) (hRF : R ≠ F) {r f : List Int} (cR : h[R]? = some (.lst (r.map .int))) (cF : h[F]? = some (.lst (f.map .int))) (hr : r ≠ []) (hz : r.length ≤ 1000) (hzf : f.length ≤ 1000) (y : Option D) :
    ∃ (r' f' : List Int) (h' : VH), WF B1_law_wires [some (.ref b), some (.int (n : Int)), some (.ref R), some (.ref F), y] h = .ok (.nx, [some (.ref b), some (.int (n : Int)), some (.ref R), some (.ref F), y], h') ∧ Keep b c h0 h' ∧ h'[R]? = some (.lst (r'.map .int)) ∧ h'[F]? = some (.lst (f'.map .int)) ∧ (f' ++ r').Perm (f ++ r) ∧ f'.length = f.length + 1 := by
  have hp : 0 < r.length := List.length_pos_iff.mpr hr
  obtain ⟨d, h1, e1, d0, d1, k1⟩ := s_draw kp.bag (n := (r.length : Int)) (by omega) (by omega)
  have cR1 : h1[R]? = some (.lst (r.map .int)) := Keep.cell q0 hR k1 cR
  have cF1 : h1[F]? = some (.lst (f.map .int)) := Keep.cell q0 hF k1 cF
  have hd : d.toNat < r.length := by omega
  have po := mPopI_of (i := d) (d := .int (gt r d.toNat)) cR1 d0 (by omega) (by simp [gt, hd])
  have ee : (r.map D.int).eraseIdx d.toNat = (r.eraseIdx d.toNat).map D.int := er_map r d.toNat
  rw [ee] at po
  obtain ⟨h2, eh2⟩ : ∃ h2, h2 = h1.set R (.lst ((r.eraseIdx d.toNat).map .int)) := ⟨_, rfl⟩
  rw [← eh2] at po
  have cF2 : h2[F]? = some (.lst (f.map .int)) := by rw [eh2, List.getElem?_set_ne hRF]; exact cF1
  have ap := mAppend_of (d := .int (gt r d.toNat)) cF2 (by simp only [List.length_map]; omega)
  have e3 : f.map D.int ++ [D.int (gt r d.toNat)] = (f ++ [gt r d.toNat]).map D.int := by simp
  rw [e3] at ap
  have bl := q0.b_lt
  have cl := q0.c_lt
  have lkR := lk_of cR
  have tyF := tyL_of (lk_of cF)
  have tyR := tyL_of (lk_of cR)
  have k2 := kp.trans k1
  have k3 : Keep b c h0 h2 := by rw [eh2]; exact k2.set hR (by omega) (by omega)
  refine ⟨r.eraseIdx d.toNat, f ++ [gt r d.toNat], h2.set F (.lst ((f ++ [gt r d.toNat]).map .int)), ?_, k3.set hF (by omega) (by omega), ?_, List.getElem?_set_self (lt_of_get cF2), ?_, by simp⟩
  · generalize (f ++ [gt r d.toNat]).map D.int = u at *
    generalize gt r d.toNat = v at *
    have le : (r.map D.int).length = r.length := by simp
    generalize r.map D.int = w at *
    rw [← le] at e1
    simp -implicitDefEqProofs [WF, B1_law_wires, tyF, tyR, lkR, e1, po, ap]
  · rw [List.getElem?_set_ne (Ne.symm hRF), eh2, List.getElem?_set_self (lt_of_get cR1)]
  · have g : gt r d.toNat = r[d.toNat] := by simp [gt, hd]
    rw [g, List.append_assoc]
    refine List.Perm.append_left f ?_
    exact er_perm hd
theorem s_wires {h : VH} {b c : Nat} (q : Hb b c h) {n : Nat} (hn : n ≤ 1000) : ∃ Nm h', F_law_wires [.ref b, .int n] h = .ok (namesF Nm, h') ∧ NmI n Nm ∧ Keep b c h h' := by
  obtain ⟨h1, eh1⟩ : ∃ h1, h1 = h ++ [.lst ((idI n).map .int)] ++ [.lst []] := ⟨_, rfl⟩
  have rg := rgB_nat hn
  have idm := id_map n
  have c1 : h1[h.length]? = some (.lst ((idI n).map .int)) := by rw [eh1]; simp
  have c2 : h1[h.length + 1]? = some (.lst (([] : List Int).map .int)) := by rw [eh1]; simp
  have hit : (vRng1 (vCons (vVar 1) vNil)) [some (.ref b), some (.int (n : Int)), some (.ref h.length), some (.ref (h.length + 1)), none] h1 = .ok (fun _ => some (rangeD 0 1 (n : Int).toNat), h1) := vRng1_of (by simp) (inRng_small (by omega) (by omega))
  rw [Int.toNat_natCast] at hit
  obtain ⟨s', h2, eL, ⟨y, rfl⟩, r, f, k2, cR, cF, pm, lf⟩ := for_all (g := gP (pN 4)) (body := WF B1_law_wires) (fun k s h' => (∃ y, s = [some (.ref b), some (.int (n : Int)), some (.ref h.length), some (.ref (h.length + 1)), y]) ∧ ∃ r f : List Int, Keep b c h h' ∧ h'[h.length]? = some (.lst (r.map .int)) ∧ h'[h.length + 1]? = some (.lst (f.map .int)) ∧ (f ++ r).Perm (idI n) ∧ f.length = k) hit (fun _ _ _ _ => rfl) ⟨⟨_, rfl⟩, idI n, [], by rw [eh1]; exact (q.keep _).app _, c1, c2, by simp, rfl⟩ (by
    rintro k d s h' ed ⟨⟨y, rfl⟩, r, f, kp, cR, cF, pm, lf⟩
    obtain ⟨hk, rfl⟩ := rng_get ed
    have ln := pm.length_eq
    rw [List.length_append, id_len] at ln
    obtain ⟨r', f', h3, e, k3, cR3, cF3, p3, l3⟩ := wires_turn (n := n) q kp (Nat.le_refl _) (by omega) (by omega) cR cF (by
      intro z
      rw [z] at ln
      simp at ln
      omega) (by omega) (by omega) (some (.int ((0 : Int) + (k : Nat))))
    exact ⟨_, h3, .inl (by rw [turn_N]; exact e), ⟨_, rfl⟩, r', f', k3, cR3, cF3, p3.trans pm, by omega⟩)
  have eL : WF L1_law_wires [some (.ref b), some (.int (n : Int)), some (.ref h.length), some (.ref (h.length + 1)), none] h1 = _ := eL
  rw [show (rangeD 0 1 n).length = n from rangeD_length ..] at lf
  have ln := pm.length_eq
  rw [List.length_append, id_len] at ln
  have r0 : r = [] := List.eq_nil_of_length_eq_zero (by omega)
  rw [r0, List.append_nil] at pm
  have lF := lk_of cF
  refine ⟨f, h2, mF_rt (s' := [some (.ref b), some (.int (n : Int)), some (.ref h.length), some (.ref (h.length + 1)), y]) ?_, ⟨pm⟩, k2⟩
  show WF m_law_wires [some (.ref b), some (.int (n : Int)), none, none, none] h = _
  simp only [WF] at *
  have fo : namesF f = .ftup (f.map .int) := rfl
  rw [fo]
  rw [idm] at eh1
  have eh1' := eh1.symm
  simp only [List.append_assoc, List.cons_append, List.nil_append] at eh1'
  generalize f.map D.int = u at *
  simp -implicitDefEqProofs [m_law_wires, vLR1, rg, eh1', eL, lF]
/-! ### drawn nets -/
abbrev NF {α : Type} (f : Fn → Fn → α) : α := f F_law_draw F_law_pair
theorem net_put {b c n : Nat} {h0 h : VH} (q0 : Hb b c h0) {h1 : VH} (kp : Keep b c h0 h) (k1 : Keep b c h h1) {F : Nat} (hF : h0.length ≤ F) {f : List (Int × Int)} (cF : h[F]? = some (.lst (f.map pD))) (hz : f.length ≤ 1000) (p : Int × Int) :
    mAppend (.ref F) [.tup [.int p.1, .int p.2]] h1 = some (.non, h1.set F (.lst ((f ++ [p]).map pD))) ∧ Keep b c h0 (h1.set F (.lst ((f ++ [p]).map pD))) ∧ (h1.set F (.lst ((f ++ [p]).map pD)))[F]? = some (.lst ((f ++ [p]).map pD)) := by
  have cF1 : h1[F]? = some (.lst (f.map pD)) := Keep.cell q0 hF k1 cF
  have ap := mAppend_of (d := .tup [.int p.1, .int p.2]) cF1 (by simp only [List.length_map]; omega)
  have e3 : f.map pD ++ [D.tup [.int p.1, .int p.2]] = (f ++ [p]).map pD := by simp [pD]
  rw [e3] at ap
  have bl := q0.b_lt
  have cl := q0.c_lt
  exact ⟨ap, (kp.trans k1).set hF (by omega) (by omega), List.getElem?_set_self (lt_of_get cF1)⟩
theorem net_turn {b c n : Nat} {h0 h : VH} (q0 : Hb b c h0) (kp : Keep b c h0 h) (hn : 2 ≤ n) (hn2 : n ≤ 1000) {F : Nat} (hF : h0.length ≤ F) {f : List (Int × Int)} (cF : h[F]? = some (.lst (f.map pD))) (hw : Wires n f) (hz : f.length ≤ 1000) (style : Int) (k t i j u : Option D) :
    ∃ (i' j' u' : Option D) (p : Int × Int) (h' : VH), NF B1_law_net [some (.ref b), some (.int (n : Int)), k, some (.int style), some (.ref F), t, i, j, u] h = .ok (.nx, [some (.ref b), some (.int (n : Int)), k, some (.int style), some (.ref F), t, i', j', u'], h') ∧ Keep b c h0 h' ∧ h'[F]? = some (.lst ((f ++ [p]).map pD)) ∧ OkP n p := by
  obtain ⟨x, y, h1, ep, x0, x1, y0, y1, xy, k1⟩ := s_pair kp.bag (n := (n : Int)) (by omega) (by omega)
  have mn := mn_is x y
  have mx := mx_is x y
  by_cases s1 : style = 1
  · have cF1 : h1[F]? = some (.lst (f.map pD)) := Keep.cell q0 hF k1 cF
    have ty := tyL_of (lk_of cF1)
    obtain ⟨ap, k3, c3⟩ := net_put (n := n) q0 kp k1 hF cF hz (max x y, min x y)
    refine ⟨some (.int x), some (.int y), some (.bl true), (max x y, min x y), _, ?_, k3, c3, by unfold OkP; simp only; omega⟩
    simp only at ap
    generalize (f ++ [(max x y, min x y)]).map pD = v at *
    simp -implicitDefEqProofs [NF, B1_law_net, ep, s1, mn, mx, ty, ap]
  · by_cases s2 : style = 2
    · obtain ⟨d, h2, ed, d0, d1, k2⟩ := s_draw k1.bag (n := 8) (by decide) (by decide)
      have cF1 : h2[F]? = some (.lst (f.map pD)) := Keep.cell q0 hF (k1.trans k2) cF
      have ty := tyL_of (lk_of cF1)
      by_cases hd : d = 0
      · obtain ⟨ap, k3, c3⟩ := net_put (n := n) q0 kp (k1.trans k2) hF cF hz (max x y, min x y)
        refine ⟨some (.int x), some (.int y), some (.bl true), (max x y, min x y), _, ?_, k3, c3, by unfold OkP; simp only; omega⟩
        simp only at ap
        generalize (f ++ [(max x y, min x y)]).map pD = v at *
        simp -implicitDefEqProofs [NF, B1_law_net, ep, s2, ed, hd, mn, mx, ty, ap]
      · obtain ⟨ap, k3, c3⟩ := net_put (n := n) q0 kp (k1.trans k2) hF cF hz (min x y, max x y)
        refine ⟨some (.int x), some (.int y), some (.bl false), (min x y, max x y), _, ?_, k3, c3, by unfold OkP; simp only; omega⟩
        simp only at ap
        generalize (f ++ [(min x y, max x y)]).map pD = v at *
        simp -implicitDefEqProofs [NF, B1_law_net, ep, s2, ed, hd, mn, mx, ty, ap]
    · have cF1 : h1[F]? = some (.lst (f.map pD)) := Keep.cell q0 hF k1 cF
      have ty := tyL_of (lk_of cF1)
      by_cases s3 : style < 3
      · obtain ⟨ap, k3, c3⟩ := net_put (n := n) q0 kp k1 hF cF hz (min x y, max x y)
        refine ⟨some (.int x), some (.int y), some (.bl false), (min x y, max x y), _, ?_, k3, c3, by unfold OkP; simp only; omega⟩
        simp only at ap
        generalize (f ++ [(min x y, max x y)]).map pD = v at *
        simp -implicitDefEqProofs [NF, B1_law_net, ep, s1, s2, s3, mn, mx, ty, ap]
      · obtain ⟨ap, k3, c3⟩ := net_put (n := n) q0 kp k1 hF cF hz (x, y)
        refine ⟨some (.int x), some (.int y), some (.bl false), (x, y), _, ?_, k3, c3, by unfold OkP; simp only; omega⟩
        simp only at ap
        generalize (f ++ [(x, y)]).map pD = v at *
        simp -implicitDefEqProofs [NF, B1_law_net, ep, s1, s2, s3, mn, mx, ty, ap]
theorem s_net {h : VH} {b c : Nat} (q : Hb b c h) {n k : Nat} (hn : n ≤ 1000) (hk : k ≤ 1000) (style : Int) : ∃ net h', F_law_net [.ref b, .int n, .int k, .int style] h = .ok (netD net, h') ∧ Wires n net ∧ net.length ≤ k ∧ Keep b c h h' := by
  obtain ⟨h1, eh1⟩ : ∃ h1, h1 = h ++ [.lst []] := ⟨_, rfl⟩
  have k1 : Keep b c h h1 := by rw [eh1]; exact q.keep _
  have c1 : h1[h.length]? = some (.lst (([] : List (Int × Int)).map pD)) := by rw [eh1]; simp
  have e2 : NF S2_law_net [some (.ref b), some (.int (n : Int)), some (.int (k : Int)), some (.int style), none, none, none, none, none] h = .ok (.nx, [some (.ref b), some (.int (n : Int)), some (.int (k : Int)), some (.int style), some (.ref h.length), none, none, none, none], h1) := by
    simp -implicitDefEqProofs [NF, S2_law_net, eh1]
  by_cases n2 : n < 2
  · have n2' : (n : Int) < 2 := by omega
    have e1 : NF S1_law_net [some (.ref b), some (.int (n : Int)), some (.int (k : Int)), some (.int style), some (.ref h.length), none, none, none, none] h1 = .ok (.rt (.tup []), [some (.ref b), some (.int (n : Int)), some (.int (k : Int)), some (.int style), some (.ref h.length), none, none, none, none], h1) := by
      simp -implicitDefEqProofs [NF, S1_law_net, n2']
    refine ⟨[], h1, mF_rt (s' := [some (.ref b), some (.int (n : Int)), some (.int (k : Int)), some (.int style), some (.ref h.length), none, none, none, none]) ?_, (fun p hp => by cases hp), Nat.zero_le _, k1⟩
    show NF m_law_net [some (.ref b), some (.int (n : Int)), some (.int (k : Int)), some (.int style), none, none, none, none, none] h = _
    simp only [NF] at *
    unfold m_law_net
    rw [seq_nx e2, seq_rt e1]
    rfl
  · have n2' : ¬ (n : Int) < 2 := by omega
    have e1 : NF S1_law_net [some (.ref b), some (.int (n : Int)), some (.int (k : Int)), some (.int style), some (.ref h.length), none, none, none, none] h1 = .ok (.nx, [some (.ref b), some (.int (n : Int)), some (.int (k : Int)), some (.int style), some (.ref h.length), none, none, none, none], h1) := by
      simp -implicitDefEqProofs [NF, S1_law_net, n2']
    have hit : (vRng1 (vCons (vVar 2) vNil)) [some (.ref b), some (.int (n : Int)), some (.int (k : Int)), some (.int style), some (.ref h.length), none, none, none, none] h1 = .ok (fun _ => some (rangeD 0 1 (k : Int).toNat), h1) := vRng1_of (by simp) (inRng_small (by omega) (by omega))
    rw [Int.toNat_natCast] at hit
    obtain ⟨s', h2, eL, ⟨t, i, j, u, rfl⟩, f, k2, cF, wF, lF⟩ := for_all (g := gP (pN 5)) (body := NF B1_law_net) (fun m s h' => (∃ t i j u, s = [some (.ref b), some (.int (n : Int)), some (.int (k : Int)), some (.int style), some (.ref h.length), t, i, j, u]) ∧ ∃ f : List (Int × Int), Keep b c h h' ∧ h'[h.length]? = some (.lst (f.map pD)) ∧ Wires n f ∧ f.length = m) hit (fun _ _ _ _ => rfl) ⟨⟨_, _, _, _, rfl⟩, [], k1, c1, (fun p hp => absurd hp List.not_mem_nil), rfl⟩ (by
      rintro m d s h' ed ⟨⟨t, i, j, u, rfl⟩, f, kp, cF, wF, lF⟩
      obtain ⟨hm, rfl⟩ := rng_get ed
      obtain ⟨i', j', u', p, h3, e, k3, c3, hp⟩ := net_turn q kp (by omega) hn (Nat.le_refl _) cF wF (by omega) style (some (.int (k : Int))) (some (.int ((0 : Int) + (m : Nat)))) i j u
      exact ⟨_, h3, .inl (by rw [turn_N]; exact e), ⟨_, _, _, _, rfl⟩, f ++ [p], k3, c3, wires_snoc wF hp, by rw [List.length_append, List.length_singleton, lF]⟩)
    have eL : NF L1_law_net [some (.ref b), some (.int (n : Int)), some (.int (k : Int)), some (.int style), some (.ref h.length), none, none, none, none] h1 = _ := eL
    rw [show (rangeD 0 1 k).length = k from rangeD_length ..] at lF
    have l2 := lk_of cF
    refine ⟨f, h2, mF_rt (s' := [some (.ref b), some (.int (n : Int)), some (.int (k : Int)), some (.int style), some (.ref h.length), t, i, j, u]) ?_, wF, by omega, k2⟩
    show NF m_law_net [some (.ref b), some (.int (n : Int)), some (.int (k : Int)), some (.int style), none, none, none, none, none] h = _
    simp only [NF] at *
    unfold m_law_net
    rw [seq_nx e2, seq_nx e1, seq_nx eL]
    simp -implicitDefEqProofs [l2, netD]
end K03

namespace K03
open PySem Vq
abbrev TF {α : Type} (f : Fn → Fn → α) : α := f F_law_draw F_law_wires
def stepsL (m : Nat) : List (Int × Int) := (List.range m).map fun (w : Nat) => ((w : Int), (w : Int) + 1)
theorem C1_sorting {m : Nat} (hm : m ≤ 1000) {s : VS} {h : VH} (g6 : s[6]? = some (some (.int (m : Int)))) (gl : s.length = 11) :
    TF C1_law_sorting s h = .ok (.ref h.length, h ++ [.lst ((stepsL m).map pD)]) := by
  simp only [TF]
  unfold C1_law_sorting
  rw [lc_rng1 (h1 := h) (n := (m : Int)) (fun k => pD ((k : Int), (k : Int) + 1)) (by simp [g6]) (by omega) (by omega) (by
    intro k hk acc
    refine ⟨_, rfl, ?_⟩
    have v10 : ((vwipe s [10]).set 10 (some (D.int (k : Int))))[10]? = some (some (.int (k : Int))) := List.getElem?_set_self (by simp [vwipe, gl])
    simp -implicitDefEqProofs [E1_law_sorting, v10, pD])]
  unfold stepsL
  rw [List.map_map, Int.toNat_natCast]
  rfl
theorem steps_wires {n m : Nat} (h : m < n) : Wires n (stepsL m) := fun p hp => by
  obtain ⟨w, hw, rfl⟩ := List.mem_map.mp hp
  rw [List.mem_range] at hw
  simp only
  omega
theorem get_at {h : VH} {n : Nat} {c d : Cell} (e : h[n]? = some c) : (h ++ [d])[n]? = some c := by
  rw [List.getElem?_append_left (lt_of_get e)]
  exact e
theorem plain_turn {b c n : Nat} {h0 h : VH} (q0 : Hb b c h0) (kp : Keep b c h0 h) {P : Nat} (hP : h0.length ≤ P) {f : List (Int × Int)} (cP : h[P]? = some (.lst (f.map pD))) {m : Nat} (hm : m ≤ 100) (hz : f.length ≤ 1000) (a1 a2 a4 a5 a7 a8 a9 a10 : Option D) :
    ∃ h', TF B2_law_sorting [some (.ref b), a1, a2, some (.ref P), a4, a5, some (.int (m : Int)), a7, a8, a9, a10] h = .ok (.nx, [some (.ref b), a1, a2, some (.ref P), a4, a5, some (.int (m : Int)), a7, a8, a9, a10], h') ∧ Keep b c h0 h' ∧ h'[P]? = some (.lst ((f ++ stepsL m).map pD)) ∧ ∀ i cl, i ≠ P → h[i]? = some cl → h'[i]? = some cl := by
  have c1 := C1_sorting (m := m) (by omega) (s := [some (.ref b), a1, a2, some (.ref P), a4, a5, some (.int (m : Int)), a7, a8, a9, a10]) (h := h) rfl rfl
  obtain ⟨h1, eh1⟩ : ∃ h1, h1 = h ++ [.lst ((stepsL m).map pD)] := ⟨_, rfl⟩
  rw [← eh1] at c1
  have cP1 : h1[P]? = some (.lst (f.map pD)) := by rw [eh1]; exact get_at cP
  have cS1 : h1[h.length]? = some (.lst ((stepsL m).map pD)) := by rw [eh1]; exact cell_at _ _
  have ex := mExt2_r cP1 cS1 (by simp only [List.length_map, stepsL, List.length_range]; omega)
  rw [← List.map_append] at ex
  have ty := tyL_of (lk_of cP)
  have bl := q0.b_lt
  have cl := q0.c_lt
  have k1 : Keep b c h0 h1 := by rw [eh1]; exact kp.app _
  refine ⟨h1.set P (.lst ((f ++ stepsL m).map pD)), ?_, k1.set hP (by omega) (by omega), List.getElem?_set_self (lt_of_get cP1), fun i cl hi e => ?_⟩
  · simp only [TF] at c1 ⊢
    unfold B2_law_sorting
    generalize (f ++ stepsL m).map pD = u at *
    simp -implicitDefEqProofs [ty, c1, ex]
  · rw [List.getElem?_set_ne (Ne.symm hi), eh1]
    exact get_at e
theorem rev_src {h : VH} {n : Nat} {l : List D} (e : lk h n = some l) : revOf h (.ref n) = some fun h' => (lk h' n).bind fun l1 => if l1.length = l.length then some l1.reverse else none := by
  unfold revOf
  simp only [e, Option.map_some]
theorem swap_perm {l : List Int} {i j : Nat} (hi : i < l.length) (hj : j < l.length) : ((l.set i (gt l j)).set j (gt l i)).Perm l := by
  have e1 : gt l i = l[i] := by simp [gt, hi]
  have e2 : gt l j = l[j] := by simp [gt, hj]
  rw [e1, e2]
  exact List.set_set_perm hi hj
theorem sort_turn {b c n : Nat} {h0 h : VH} (q0 : Hb b c h0) (kp : Keep b c h0 h) {F N : Nat} (hF : h0.length ≤ F) (hN : h0.length ≤ N) (hne : F ≠ N) {f : List (Int × Int)} {nm : List Int} (cF : h[F]? = some (.lst (f.map pD))) (cN : h[N]? = some (.lst (nm.map .int))) (P : NmI n nm) (hn : n ≤ 1000) (hz : f.length ≤ 1000) (mode : Int) {p : Int × Int} (hp : OkP n p) (a1 a3 a6 a9 a10 : Option D) :
    ∃ (a9' : Option D) (nm' : List Int) (h' : VH), TF B1_law_sorting [some (.ref b), a1, some (.int mode), a3, some (.ref F), some (.ref N), a6, some (.int p.1), some (.int p.2), a9, a10] h = .ok (.nx, [some (.ref b), a1, some (.int mode), a3, some (.ref F), some (.ref N), a6, some (.int p.1), some (.int p.2), a9', a10], h') ∧ Keep b c h0 h' ∧ h'[F]? = some (.lst ((f ++ [rn nm p]).map pD)) ∧ h'[N]? = some (.lst (nm'.map .int)) ∧ NmI n nm' ∧ ∀ i cl, h0.length ≤ i → i ≠ F → i ≠ N → h[i]? = some cl → h'[i]? = some cl := by
  have ln := P.len
  have bl := q0.b_lt
  have cl := q0.c_lt
  have hp' := hp
  obtain ⟨p1, p2, p3, p4, p5⟩ := hp
  have a1' := atR (row := nm) p1 (by omega)
  have a2' := atR (row := nm) p3 (by omega)
  have lkN := lk_of cN
  have tyF := tyL_of (lk_of cF)
  have ap := mAppend_of (d := .tup [.int (gt nm p.1.toNat), .int (gt nm p.2.toNat)]) cF (by simp only [List.length_map]; omega)
  have e3 : f.map pD ++ [D.tup [.int (gt nm p.1.toNat), .int (gt nm p.2.toNat)]] = (f ++ [rn nm p]).map pD := by simp [pD, rn]
  rw [e3] at ap
  obtain ⟨h1, eh1⟩ : ∃ h1, h1 = h.set F (.lst ((f ++ [rn nm p]).map pD)) := ⟨_, rfl⟩
  rw [← eh1] at ap
  have cF1 : h1[F]? = some (.lst ((f ++ [rn nm p]).map pD)) := by rw [eh1]; exact List.getElem?_set_self (lt_of_get cF)
  have cN1 : h1[N]? = some (.lst (nm.map .int)) := by rw [eh1, List.getElem?_set_ne hne]; exact cN
  have k1 : Keep b c h0 h1 := by rw [eh1]; exact kp.set hF (by omega) (by omega)
  have oth1 : ∀ i cl, i ≠ F → h[i]? = some cl → h1[i]? = some cl := fun i cl hi e => by rw [eh1, List.getElem?_set_ne (Ne.symm hi)]; exact e
  by_cases hm : 0 < mode
  · obtain ⟨d, h2, ed, d0, d1, k2⟩ := s_draw k1.bag (n := 3) (by decide) (by decide)
    have cF2 : h2[F]? = some (.lst ((f ++ [rn nm p]).map pD)) := Keep.cell q0 hF k2 cF1
    have cN2 : h2[N]? = some (.lst (nm.map .int)) := Keep.cell q0 hN k2 cN1
    have lkN2 := lk_of cN2
    by_cases hd : d = 0
    · have s1 := sLst_I cN2 p1 (by omega) (gt nm p.2.toNat)
      have c3 := set_get (l' := (nm.set p.1.toNat (gt nm p.2.toNat)).map .int) cN2
      have s2 := sLst_I c3 p3 (by simp; omega) (gt nm p.1.toNat)
      rw [List.set_set] at s2
      refine ⟨some (.int (gt nm p.1.toNat)), (nm.set p.1.toNat (gt nm p.2.toNat)).set p.2.toNat (gt nm p.1.toNat), h2.set N (.lst (((nm.set p.1.toNat (gt nm p.2.toNat)).set p.2.toNat (gt nm p.1.toNat)).map .int)), ?_, (k1.trans k2).set hN (by omega) (by omega), ?_, List.getElem?_set_self (lt_of_get cN2), ⟨(swap_perm (by omega) (by omega)).trans P.perm⟩, fun i cl hi h1' h2' e => ?_⟩
      · generalize (f ++ [rn nm p]).map pD = u at *
        generalize ((nm.set p.1.toNat (gt nm p.2.toNat)).set p.2.toNat (gt nm p.1.toNat)).map D.int = u2 at *
        generalize (nm.set p.1.toNat (gt nm p.2.toNat)).map D.int = u3 at *
        generalize gt nm p.1.toNat = v1 at *
        generalize gt nm p.2.toNat = v2 at *
        simp -implicitDefEqProofs [TF, B1_law_sorting, tyF, lkN, a1', a2', ap, hm, ed, hd, lkN2, s1, s2]
      · rw [List.getElem?_set_ne (Ne.symm hne)]
        exact cF2
      · rw [List.getElem?_set_ne (Ne.symm h2')]
        exact Keep.cell q0 hi k2 (oth1 i cl h1' e)
    · refine ⟨a9, nm, h2, ?_, k1.trans k2, cF2, cN2, P, fun i cl hi h1' h2' e => Keep.cell q0 hi k2 (oth1 i cl h1' e)⟩
      generalize (f ++ [rn nm p]).map pD = u at *
      generalize gt nm p.1.toNat = v1 at *
      generalize gt nm p.2.toNat = v2 at *
      simp -implicitDefEqProofs [TF, B1_law_sorting, tyF, lkN, a1', a2', ap, hm, ed, hd]
  · refine ⟨a9, nm, h1, ?_, k1, cF1, cN1, P, fun i cl hi h1' h2' e => oth1 i cl h1' e⟩
    generalize (f ++ [rn nm p]).map pD = u at *
    generalize gt nm p.1.toNat = v1 at *
    generalize gt nm p.2.toNat = v2 at *
    simp -implicitDefEqProofs [TF, B1_law_sorting, tyF, lkN, a1', a2', ap, hm]
end K03

namespace K03
open PySem Vq
theorem rgB_1n {n : Nat} (hn : n ≤ 1000) : rgB 1 n = true := by
  unfold rgB inRng
  rw [decide_eq_true (by omega), decide_eq_true (by omega), decide_eq_true (by omega)]
  rfl
theorem rev_rng {n k : Nat} {d : D} (e : (rangeD 1 1 ((n : Int) - 1).toNat).reverse[k]? = some d) : ∃ m : Nat, d = .int (m : Int) ∧ 1 ≤ m ∧ m < n := by
  have hm := List.mem_reverse.mp (List.mem_of_getElem? e)
  obtain ⟨i, hi⟩ := List.mem_iff_getElem?.mp hm
  obtain ⟨h1, rfl⟩ := rng_get hi
  exact ⟨1 + i, by rw [show ((1 + i : Nat) : Int) = 1 + (i : Int) by omega], by omega, by omega⟩
theorem s_sorting {h : VH} {b c : Nat} (q : Hb b c h) {n : Nat} (hn : n ≤ 10) (mode : Int) : ∃ net h', F_law_sorting [.ref b, .int n, .int mode] h = .ok (netD net, h') ∧ Wires n net ∧ net.length ≤ 100 ∧ Keep b c h h' := by
  have hn' : n ≤ 1000 := by omega
  have rg := rgB_nat hn'
  have idm := id_map n
  obtain ⟨P, hP⟩ : ∃ P, P = h.length := ⟨_, rfl⟩
  obtain ⟨h1, eh1⟩ : ∃ h1, h1 = h ++ [.lst []] ++ [.lst []] ++ [.lst ((idI n).map .int)] := ⟨_, rfl⟩
  have k1 : Keep b c h h1 := by rw [eh1]; exact ((q.keep _).app _).app _
  have cP1 : h1[P]? = some (.lst (([] : List (Int × Int)).map pD)) := by rw [eh1, hP]; simp
  have cF1 : h1[P + 1]? = some (.lst (([] : List (Int × Int)).map pD)) := by rw [eh1, hP]; simp
  have cN1 : h1[P + 2]? = some (.lst ((idI n).map .int)) := by rw [eh1, hP]; simp
  have eh1' := eh1.symm
  rw [idm] at eh1'
  simp only [List.append_assoc, List.cons_append, List.nil_append] at eh1'
  have e2 : TF S2_law_sorting [some (.ref b), some (.int (n : Int)), some (.int mode), none, none, none, none, none, none, none, none] h = .ok (.nx, [some (.ref b), some (.int (n : Int)), some (.int mode), some (.ref P), some (.ref (P + 1)), some (.ref (P + 2)), none, none, none, none, none], h1) := by
    rw [hP]
    simp -implicitDefEqProofs [TF, S2_law_sorting, vLR1, rg, eh1']
  -- the plain ones
  obtain ⟨Z, hZ⟩ : ∃ Z, Z = h1.length := ⟨_, rfl⟩
  obtain ⟨xs, hxs⟩ : ∃ xs, xs = rangeD 1 1 ((n : Int) - 1).toNat := ⟨_, rfl⟩
  obtain ⟨h2, eh2⟩ : ∃ h2, h2 = h1 ++ [.lst xs] := ⟨_, rfl⟩
  have cZ2 : h2[Z]? = some (.lst xs) := by rw [eh2, hZ]; exact cell_at _ _
  have PZ : P + 2 < Z := by
    rw [hZ]
    exact lt_of_get cN1
  have hit : (vRev (vLR2 (vC (.int 1)) (vVar 1))) [some (.ref b), some (.int (n : Int)), some (.int mode), some (.ref P), some (.ref (P + 1)), some (.ref (P + 2)), none, none, none, none, none] h1 = .ok (fun h' => (lk h' Z).bind fun l1 => if l1.length = xs.length then some l1.reverse else none, h2) := by
    have rs := rev_src (lk_of cZ2)
    have r1 := rgB_1n hn'
    have e : (vLR2 (vC (.int 1)) (vVar 1)) [some (.ref b), some (.int (n : Int)), some (.int mode), some (.ref P), some (.ref (P + 1)), some (.ref (P + 2)), none, none, none, none, none] h1 = .ok (.ref Z, h2) := by
      rw [eh2, hZ, hxs]
      simp -implicitDefEqProofs [vLR2, r1]
    unfold vRev
    rw [e]
    simp only [Res.ok_bind, rs]
  have lx : xs.reverse.length ≤ 9 := by
    rw [List.length_reverse, hxs, rangeD_length]
    omega
  obtain ⟨s', h3, eL2, ⟨m, rfl⟩, k3, f, cP3, cZ3, cF3, cN3, wf, lf⟩ := for_all (g := gP (pN 6)) (body := TF B2_law_sorting) (xs := xs.reverse) (fun k s h' => (∃ m, s = [some (.ref b), some (.int (n : Int)), some (.int mode), some (.ref P), some (.ref (P + 1)), some (.ref (P + 2)), m, none, none, none, none]) ∧ Keep b c h h' ∧ ∃ f : List (Int × Int), h'[P]? = some (.lst (f.map pD)) ∧ h'[Z]? = some (.lst xs) ∧ h'[P + 1]? = some (.lst (([] : List (Int × Int)).map pD)) ∧ h'[P + 2]? = some (.lst ((idI n).map .int)) ∧ Wires n f ∧ f.length ≤ 10 * k) hit (fun k s h' I => by
      obtain ⟨_, _, _, _, cz, _⟩ := I
      rw [lk_of cz]
      simp) ⟨⟨_, rfl⟩, by rw [eh2]; exact k1.app _, [], by rw [eh2]; exact get_at cP1, cZ2, by rw [eh2]; exact get_at cF1, by rw [eh2]; exact get_at cN1, fun p hp => absurd hp List.not_mem_nil, Nat.zero_le _⟩ (by
      rintro k d s h' ed ⟨⟨m, rfl⟩, kp, f, cP, cZ, cF, cN, wf, lf⟩
      have hk := (List.getElem?_eq_some_iff.mp ed).1
      rw [hxs] at ed
      obtain ⟨m', rfl, m1, m2⟩ := rev_rng ed
      obtain ⟨h4, e4, k4, cP4, oth⟩ := plain_turn (n := n) q kp (P := P) (by omega) cP (m := m') (by omega) (by omega) (some (.int (n : Int))) (some (.int mode)) (some (.ref (P + 1))) (some (.ref (P + 2))) none none none none
      refine ⟨_, h4, .inl (by rw [turn_N]; exact e4), ⟨_, rfl⟩, k4, f ++ stepsL m', cP4, oth _ _ (by omega) cZ, oth _ _ (by omega) cF, oth _ _ (by omega) cN, wf.app (steps_wires m2), ?_⟩
      rw [List.length_append, stepsL, List.length_map, List.length_range]
      omega)
  have eL2 : TF L2_law_sorting [some (.ref b), some (.int (n : Int)), some (.int mode), some (.ref P), some (.ref (P + 1)), some (.ref (P + 2)), none, none, none, none, none] h1 = _ := eL2
  have lf : f.length ≤ 90 := by omega
  -- names
  have st1 : ∃ (N : Nat) (nm : List Int) (h4 : VH), TF S1_law_sorting [some (.ref b), some (.int (n : Int)), some (.int mode), some (.ref P), some (.ref (P + 1)), some (.ref (P + 2)), m, none, none, none, none] h3 = .ok (.nx, [some (.ref b), some (.int (n : Int)), some (.int mode), some (.ref P), some (.ref (P + 1)), some (.ref N), m, none, none, none, none], h4) ∧ Keep b c h h4 ∧ h4[P]? = some (.lst (f.map pD)) ∧ h4[P + 1]? = some (.lst (([] : List (Int × Int)).map pD)) ∧ h4[N]? = some (.lst (nm.map .int)) ∧ P + 1 < N ∧ NmI n nm := by
    by_cases hm : mode = 2
    · obtain ⟨nm, h4, e4, PN, k4⟩ := s_wires k3.bag hn'
      have cP4 : h4[P]? = some (.lst (f.map pD)) := Keep.cell q (by omega) k4 cP3
      have cF4 : h4[P + 1]? = some (.lst (([] : List (Int × Int)).map pD)) := Keep.cell q (by omega) k4 cF3
      have sqN : ∀ h, seqOf h (namesF nm) = some (nm.map .int) := fun _ => rfl
      have l4 := lt_of_get cF4
      refine ⟨h4.length, nm, h4 ++ [.lst (nm.map .int)], ?_, (k3.trans k4).app _, get_at cP4, get_at cF4, cell_at _ _, l4, PN⟩
      generalize nm.map D.int = u at *
      simp -implicitDefEqProofs [TF, S1_law_sorting, hm, e4, sqN]
    · refine ⟨P + 2, idI n, h3, ?_, k3, cP3, cF3, cN3, by omega, ⟨List.Perm.refl _⟩⟩
      simp -implicitDefEqProofs [TF, S1_law_sorting, hm]
  obtain ⟨N, nm, h4, e1, k4, cP4, cF4, cN4, hN, PN⟩ := st1
  obtain ⟨Y, hY⟩ : ∃ Y, Y = h4.length := ⟨_, rfl⟩
  obtain ⟨h5, eh5⟩ : ∃ h5, h5 = h4 ++ [.lst (f.map pD)] := ⟨_, rfl⟩
  have cY5 : h5[Y]? = some (.lst (f.map pD)) := by rw [eh5, hY]; exact cell_at _ _
  have NY : N < Y := by rw [hY]; exact lt_of_get cN4
  have lkP := lk_of cP4
  have hit : (vRev (vBl bList (vCons (vVar 3) vNil))) [some (.ref b), some (.int (n : Int)), some (.int mode), some (.ref P), some (.ref (P + 1)), some (.ref N), m, none, none, none, none] h4 = .ok (fun h' => (lk h' Y).bind fun l1 => if l1.length = (f.map pD).length then some l1.reverse else none, h5) := by
    have rs := rev_src (lk_of cY5)
    have e : (vBl bList (vCons (vVar 3) vNil)) [some (.ref b), some (.int (n : Int)), some (.int mode), some (.ref P), some (.ref (P + 1)), some (.ref N), m, none, none, none, none] h4 = .ok (.ref Y, h5) := by
      rw [eh5, hY]
      generalize f.map pD = u at *
      simp -implicitDefEqProofs [lkP]
    unfold vRev
    rw [e]
    simp only [Res.ok_bind, rs]
  obtain ⟨s', h6, eL1, ⟨x, y, z, rfl⟩, k6, fd, nm', cY6, cF6, cN6, PN6, wd, ld⟩ := for_all (g := gP (pTup 2 (psCons (pN 7) (psCons (pN 8) psNil)))) (body := TF B1_law_sorting) (xs := f.reverse.map pD) (fun k s h' => (∃ x y z, s = [some (.ref b), some (.int (n : Int)), some (.int mode), some (.ref P), some (.ref (P + 1)), some (.ref N), m, x, y, z, none]) ∧ Keep b c h h' ∧ ∃ (fd : List (Int × Int)) (nm : List Int), h'[Y]? = some (.lst (f.map pD)) ∧ h'[P + 1]? = some (.lst (fd.map pD)) ∧ h'[N]? = some (.lst (nm.map .int)) ∧ NmI n nm ∧ Wires n fd ∧ fd.length = k) hit (fun k s h' I => by
      obtain ⟨_, _, _, _, cy, _⟩ := I
      rw [lk_of cy, Option.bind_some, if_pos rfl, List.map_reverse]) ⟨⟨_, _, _, rfl⟩, by rw [eh5]; exact k4.app _, [], nm, cY5, by rw [eh5]; exact get_at cF4, by rw [eh5]; exact get_at cN4, PN, fun p hp => absurd hp List.not_mem_nil, rfl⟩ (by
      rintro k d s h' ed ⟨⟨x, y, z, rfl⟩, kp, fd, nm, cY, cF, cN, PN, wd, ld⟩
      obtain ⟨hk, rfl⟩ := get_pD ed
      have hk' : k < f.length := by simpa using hk
      have hp : OkP n f.reverse[k] := wf _ (List.mem_reverse.mp (List.getElem_mem _))
      obtain ⟨z', nm', h7, e7, k7, cF7, cN7, PN7, oth⟩ := sort_turn q kp (F := P + 1) (N := N) (by omega) (by omega) (by omega) cF cN PN hn' (by omega) mode hp (some (.int (n : Int))) (some (.ref P)) m z none
      exact ⟨_, h7, .inl (by rw [turn_P]; exact e7), ⟨_, _, _, rfl⟩, k7, fd ++ [rn nm f.reverse[k]], nm', oth _ _ (by omega) (by omega) (by omega) cY, cF7, cN7, PN7, wires_snoc wd (rn_ok PN hp), by rw [List.length_append, List.length_singleton, ld]⟩)
  have eL1 : TF L1_law_sorting [some (.ref b), some (.int (n : Int)), some (.int mode), some (.ref P), some (.ref (P + 1)), some (.ref N), m, none, none, none, none] h4 = _ := eL1
  rw [List.length_map, List.length_reverse] at ld
  have lk6 := lk_of cF6
  obtain ⟨h7, eh7⟩ : ∃ h7, h7 = h6 ++ [.lst (fd.map pD)] := ⟨_, rfl⟩
  have l7 : lk h7 h6.length = some (fd.map pD) := by rw [eh7]; exact lk_at _ _ []
  refine ⟨fd.reverse, h7, mF_rt (s' := [some (.ref b), some (.int (n : Int)), some (.int mode), some (.ref P), some (.ref (P + 1)), some (.ref N), m, x, y, z, none]) ?_, fun p hp => wd p (List.mem_reverse.mp hp), by rw [List.length_reverse]; omega, by rw [eh7]; exact k6.app _⟩
  show TF m_law_sorting [some (.ref b), some (.int (n : Int)), some (.int mode), none, none, none, none, none, none, none, none] h = _
  simp only [TF] at *
  unfold m_law_sorting
  rw [seq_nx e2, seq_nx eL2, seq_nx e1, seq_nx eL1]
  have fo : netD fd.reverse = .tup (fd.map pD).reverse := by
    unfold netD
    rw [List.map_reverse]
  rw [fo]
  generalize fd.map pD = u at *
  simp -implicitDefEqProofs [lk6, ← eh7, l7]
end K03

namespace K03
open PySem Vq
abbrev QF {α : Type} (f : Fn → Fn → Fn → Fn → α) : α := f F_law_net F_law_draw F_law_pick F_law_sorting
theorem draw_nat {h : VH} {b c : Nat} (q : Hb b c h) {m : Int} (hm : 0 < m) (hd : m ≤ 1000000000) : ∃ (n : Nat) (h' : VH), F_law_draw [.ref b, .int m] h = .ok (.int n, h') ∧ (n : Int) < m ∧ Keep b c h h' := by
  obtain ⟨d, h1, e1, d0, d1, k1⟩ := s_draw q (n := m) hm hd
  obtain ⟨n, rfl⟩ := Int.eq_ofNat_of_zero_le d0
  exact ⟨n, h1, e1, d1, k1⟩
theorem s_some_net {h : VH} {b c : Nat} (q : Hb b c h) {n : Nat} (hn : n ≤ 10) : ∃ net h', F_law_some_net [.ref b, .int n] h = .ok (netD net, h') ∧ Wires n net ∧ net.length ≤ 200 ∧ Keep b c h h' := by
  have hn' : n ≤ 1000 := by omega
  obtain ⟨kind, h1, e1, d1, k1⟩ := draw_nat q (m := 8) (by decide) (by decide)
  have eS2 : QF S2_law_some_net [some (.ref b), some (.int (n : Int)), none] h = .ok (.nx, [some (.ref b), some (.int (n : Int)), some (.int (kind : Int))], h1) := by
    simp -implicitDefEqProofs [QF, S2_law_some_net, e1]
  by_cases hc : kind < 3 ∧ 0 < n
  · obtain ⟨m, h2, e2, d2, k2⟩ := draw_nat k1.bag (m := 16) (by decide) (by decide)
    obtain ⟨st, h3, e3, d3, k3⟩ := draw_nat k2.bag (m := 4) (by decide) (by decide)
    obtain ⟨a, h4, e4, w4, z4, k4⟩ := s_net k3.bag hn' (k := m) (by omega) (st : Int)
    obtain ⟨s, h5, e5, w5, z5, k5⟩ := s_sorting k4.bag hn (kind : Int)
    have ad := add_nets (a := a) (b := s) (by omega) h5
    have c1 : (kind : Int) < 3 := by omega
    have c2 : (0 : Int) < n := by omega
    have c3 : 0 < n := hc.2
    have c4 : kind < 3 := hc.1
    refine ⟨a ++ s, h5, mF_rt (s' := [some (.ref b), some (.int (n : Int)), some (.int (kind : Int))]) ?_, w4.app w5, by rw [List.length_append]; omega, (k1.trans k2).trans ((k3.trans k4).trans k5)⟩
    show QF m_law_some_net [some (.ref b), some (.int (n : Int)), none] h = _
    simp only [QF] at *
    unfold m_law_some_net
    rw [seq_nx eS2]
    simp -implicitDefEqProofs [S1_law_some_net, c1, c2, c3, c4, e2, e3, e4, e5, ad]
  · have eS1 : QF S1_law_some_net [some (.ref b), some (.int (n : Int)), some (.int (kind : Int))] h1 = .ok (.nx, [some (.ref b), some (.int (n : Int)), some (.int (kind : Int))], h1) := by
      by_cases c1 : (kind : Int) < 3
      · have c2 : ¬ (0 : Int) < n := by omega
        have c3 : ¬ 0 < n := by omega
        simp -implicitDefEqProofs [QF, S1_law_some_net, c1, c2, c3]
      · simp -implicitDefEqProofs [QF, S1_law_some_net, c1]
    obtain ⟨x, h2, e2, d2, k2⟩ := draw_nat k1.bag (m := 9) (by decide) (by decide)
    obtain ⟨y, h3, e3, d3, k3⟩ := draw_nat k2.bag (m := 61) (by decide) (by decide)
    obtain ⟨p, h4, e4, hp, k4⟩ := s_pickL k3.bag [.int 0, .int 1, .int x, .int y, .int 60] (by simp) (by simp)
    have hp : ∃ t : Nat, p = .int t ∧ t ≤ 60 := by
      simp only [List.mem_cons, List.not_mem_nil, or_false] at hp
      rcases hp with rfl | rfl | rfl | rfl | rfl
      · exact ⟨0, rfl, by decide⟩
      · exact ⟨1, rfl, by decide⟩
      · exact ⟨x, rfl, by omega⟩
      · exact ⟨y, rfl, by omega⟩
      · exact ⟨60, rfl, by decide⟩
    obtain ⟨t, rfl, ht⟩ := hp
    obtain ⟨st, h5, e5, d5, k5⟩ := draw_nat k4.bag (m := 5) (by decide) (by decide)
    obtain ⟨a, h6, e6, w6, z6, k6⟩ := s_net k5.bag hn' (k := t) (by omega) (st : Int)
    refine ⟨a, h6, mF_rt (s' := [some (.ref b), some (.int (n : Int)), some (.int (kind : Int))]) ?_, w6, by omega, ((k1.trans k2).trans (k3.trans k4)).trans (k5.trans k6)⟩
    show QF m_law_some_net [some (.ref b), some (.int (n : Int)), none] h = _
    simp only [QF] at *
    unfold m_law_some_net
    rw [seq_nx eS2, seq_nx eS1]
    simp -implicitDefEqProofs [e2, e3, e4, e5, e6]
abbrev AF {α : Type} (f : Fn → Fn → Fn → Fn → Fn → α) : α := f F_law_is_renamed_right F_law_is_mirror_right F_law_is_standard_right F_law_wires F_law_row
theorem s_all_right {h : VH} {b c : Nat} (q : Hb b c h) {n : Nat} (hn : n ≤ 10) {net : List (Int × Int)} (w : Wires n net) (z : net.length ≤ 500) : ∃ h', F_law_are_all_right [.ref b, .int n, netD net] h = .ok (.bl true, h') ∧ Keep b c h h' := by
  have hn' : n ≤ 1000 := by omega
  obtain ⟨row, h1, e1, lr, lim, k1⟩ := s_row q (n := n) hn'
  obtain ⟨nm, h2, e2, P, k2⟩ := s_wires k1.bag hn'
  obtain ⟨h3, e3, g3⟩ := s_standard_right hn w z lr lim h2
  obtain ⟨h4, e4, g4⟩ := s_mirror_right hn w z lr lim h3
  obtain ⟨h5, e5, g5⟩ := s_renamed_right hn w z P lr lim h4
  have k := k1.trans k2
  refine ⟨h5, mF_rt (s' := [some (.ref b), some (.int (n : Int)), some (netD net), some (tupI row), some (namesF nm)]) ?_, k.trans (k.bag.grow ((g3.trans g4).trans g5))⟩
  show AF m_law_are_all_right [some (.ref b), some (.int (n : Int)), some (netD net), none, none] h = _
  simp only [AF] at *
  simp -implicitDefEqProofs [m_law_are_all_right, S2_law_are_all_right, S1_law_are_all_right, e1, e2, e3, e4, e5]
abbrev GR {α : Type} (f : Fn → Fn → Fn → Fn → α) : α := f F_law_are_all_right F_joined_nets F_law_net F_law_draw
theorem s_great_right {h : VH} {b c : Nat} (q : Hb b c h) {n : Nat} (hn : n ≤ 10) : ∃ h', F_law_are_great_right [.ref b, .int n] h = .ok (.bl true, h') ∧ Keep b c h h' := by
  have hn' : n ≤ 1000 := by omega
  obtain ⟨st, h1, e1, d1, k1⟩ := draw_nat q (m := 5) (by decide) (by decide)
  obtain ⟨one, h2, e2, w2, z2, k2⟩ := s_net k1.bag hn' (k := 60) (by decide) (st : Int)
  obtain ⟨other, h3, e3, w3, z3, k3⟩ := s_net k2.bag hn' (k := 20) (by decide) 3
  have e2 : F_law_net [.ref b, .int n, .int 60, .int st] h1 = .ok (netD one, h2) := e2
  have e3 : F_law_net [.ref b, .int n, .int 20, .int 3] h2 = .ok (netD other, h3) := e3
  have eS3 : GR S3_law_are_great_right [some (.ref b), some (.int (n : Int)), none, none, none, none, none] h = .ok (.nx, [some (.ref b), some (.int (n : Int)), some (netD one), some (netD other), none, none, none], h3) := by
    simp -implicitDefEqProofs [GR, S3_law_are_great_right, e1, e2, e3]
  have eS2 : GR S2_law_are_great_right [some (.ref b), some (.int (n : Int)), some (netD one), some (netD other), none, none, none] h3 = .ok (.nx, [some (.ref b), some (.int (n : Int)), some (netD one), some (netD other), some (netD one), some (netD one), none], h3) := by
    simp -implicitDefEqProofs [GR, S2_law_are_great_right]
  have hit : (vRng1 (vCons (vC (.int 3)) vNil)) [some (.ref b), some (.int (n : Int)), some (netD one), some (netD other), some (netD one), some (netD one), none] h3 = .ok (fun _ => some (rangeD 0 1 (3 : Int).toNat), h3) := vRng1_of rfl (by decide)
  obtain ⟨s', h4, eL, ⟨g, x, rfl, wg, zg⟩, rfl⟩ := for_all (g := gP (pN 6)) (body := GR B1_law_are_great_right) (fun i s h' => (∃ g x, s = [some (.ref b), some (.int (n : Int)), some (netD one), some (netD other), some (netD g), some (netD g), x] ∧ Wires n g ∧ g.length ≤ 60 * 2 ^ i) ∧ h' = h3) hit (fun _ _ _ _ => rfl) ⟨⟨one, none, rfl, w2, by omega⟩, rfl⟩ (by
    rintro i d s h' ed ⟨⟨g, x, rfl, wg, zg⟩, rfl⟩
    have hi : i < 3 := by
      have := (List.getElem?_eq_some_iff.mp ed).1
      simpa using this
    have p2 : (2 : Nat) ^ i ≤ 4 := by
      have : i = 0 ∨ i = 1 ∨ i = 2 := by omega
      rcases this with rfl | rfl | rfl <;> decide
    have gz : g.length ≤ 240 := by omega
    have jn := x_joined (a := g) (b := g) (by omega)
    have ad := add_nets (a := g) (b := g) (by omega)
    refine ⟨[some (.ref b), some (.int (n : Int)), some (netD one), some (netD other), some (netD (g ++ g)), some (netD (g ++ g)), some d], h', .inl ?_, ⟨g ++ g, some d, rfl, wg.app wg, by rw [List.length_append, Nat.pow_succ]; omega⟩, rfl⟩
    rw [turn_N]
    simp -implicitDefEqProofs [GR, B1_law_are_great_right, jn, ad])
  have eL : GR L1_law_are_great_right [some (.ref b), some (.int (n : Int)), some (netD one), some (netD other), some (netD one), some (netD one), none] h4 = _ := eL
  have zg : g.length ≤ 480 := by
    have : (rangeD 0 1 (3 : Int).toNat).length = 3 := by simp
    rw [this] at zg
    omega
  have wf := wg.app w3
  have jn := x_joined (a := g) (b := other) (by omega)
  have ad := add_nets (a := g) (b := other) (by omega)
  have eS1 : GR S1_law_are_great_right [some (.ref b), some (.int (n : Int)), some (netD one), some (netD other), some (netD g), some (netD g), x] h4 = .ok (.nx, [some (.ref b), some (.int (n : Int)), some (netD one), some (netD other), some (netD (g ++ other)), some (netD (g ++ other)), x], h4) := by
    simp -implicitDefEqProofs [GR, S1_law_are_great_right, jn, ad]
  have rp := repr_D (pl_net hn' wf) (by decide) (by rw [sz_net hn' wf, List.length_append]; omega)
  have k := (k1.trans k2).trans k3
  obtain ⟨h5, e5, k5⟩ := s_all_right k.bag hn wf (by rw [List.length_append]; omega)
  refine ⟨h5, mF_rt (s' := [some (.ref b), some (.int (n : Int)), some (netD one), some (netD other), some (netD (g ++ other)), some (netD (g ++ other)), x]) ?_, k.trans k5⟩
  show GR m_law_are_great_right [some (.ref b), some (.int (n : Int)), none, none, none, none, none] h = _
  simp only [GR] at *
  unfold m_law_are_great_right
  rw [seq_nx eS3, seq_nx eS2, seq_nx eL, seq_nx eS1]
  simp -implicitDefEqProofs [rp, e5]
/-! ### the law -/
abbrev LW {α : Type} (f : Fn → Fn → Fn → Fn → Fn → Fn → Fn → α) : α := f F_law_are_great_right F_law_draw F_law_are_all_right F_law_sorting F_law_pick F_law_some_net F_law_own_bag
theorem law_l2 {h : VH} {b c : Nat} (q : Hb b c h) : ∃ n h', LW L2_law [some (.ref 0), some (.ref b), none, none] h = .ok (.nx, [some (.ref 0), some (.ref b), n, none], h') ∧ Hb b c h' := by
  obtain ⟨d, h1, e1, d1, k1⟩ := draw_nat q (m := 11) (by decide) (by decide)
  obtain ⟨e, h2, e2, d2, k2⟩ := draw_nat k1.bag (m := 9) (by decide) (by decide)
  obtain ⟨p, h3, e3, hp, k3⟩ := s_pickL k2.bag [.int 0, .int 1, .int 2, .int 3, .int 10] (by simp) (by simp)
  have hp : ∃ t : Nat, p = .int t ∧ t ≤ 10 := by
    simp only [List.mem_cons, List.not_mem_nil, or_false] at hp
    rcases hp with rfl | rfl | rfl | rfl | rfl
    · exact ⟨0, rfl, by decide⟩
    · exact ⟨1, rfl, by decide⟩
    · exact ⟨2, rfl, by decide⟩
    · exact ⟨3, rfl, by decide⟩
    · exact ⟨10, rfl, by decide⟩
  obtain ⟨t, rfl, ht⟩ := hp
  obtain ⟨f, hf⟩ : ∃ f : Nat, (2 : Int) + (e : Int) = (f : Int) := ⟨2 + e, by omega⟩
  obtain ⟨xs, hxs⟩ : ∃ xs : List D, xs = [.int d, .int f, .int t] := ⟨_, rfl⟩
  have hm : ∀ z, z ∈ xs → ∃ t : Nat, z = .int t ∧ t ≤ 10 := by
    intro z hz
    rw [hxs] at hz
    simp only [List.mem_cons, List.not_mem_nil, or_false] at hz
    rcases hz with rfl | rfl | rfl
    · exact ⟨_, rfl, by omega⟩
    · exact ⟨_, rfl, by omega⟩
    · exact ⟨_, rfl, by omega⟩
  have hit : (vIt (vLst (vCons (vCall 2 F_law_draw (vCons (vVar 1) (vCons (vC (.int 11)) vNil))) (vCons (vOp dAdd (vC (.int 2)) (vCall 2 F_law_draw (vCons (vVar 1) (vCons (vC (.int 9)) vNil)))) (vCons (vCall 2 F_law_pick (vCons (vVar 1) (vCons (vLst (vCons (vC (.int 0)) (vCons (vC (.int 1)) (vCons (vC (.int 2)) (vCons (vC (.int 3)) (vCons (vC (.int 10)) vNil)))))) vNil))) vNil))))) [some (.ref 0), some (.ref b), none, none] h = .ok (fun h => lk h h3.length, h3 ++ [.lst xs]) := by
    rw [hxs]
    simp -implicitDefEqProofs [e1, e2, e3, hf]
  have qb := k3.bag
  obtain ⟨s', h', eL, ⟨n, rfl⟩, _, q'⟩ := for_all (g := gP (pN 2)) (body := LW B2_law) (xs := xs) (fun _ s h => (∃ n, s = [some (.ref 0), some (.ref b), n, none]) ∧ h[h3.length]? = some (.lst xs) ∧ Hb b c h) hit (fun _ _ _ i => lk_of i.2.1) ⟨⟨_, rfl⟩, by simp, qb.app _⟩ (by
    rintro k z s h ed ⟨⟨n, rfl⟩, cell, q⟩
    obtain ⟨t, rfl, ht⟩ := hm _ (List.mem_of_getElem? ed)
    obtain ⟨net, h4, e4, w4, z4, k4⟩ := s_some_net q ht
    obtain ⟨h5, e5, k5⟩ := s_all_right k4.bag ht w4 (by omega)
    have kk := k4.trans k5
    refine ⟨[some (.ref 0), some (.ref b), some (.int t), none], h5, .inl ?_, ⟨_, rfl⟩, Keep.cell qb (Nat.le_refl _) kk cell, kk.bag⟩
    rw [turn_N]
    simp -implicitDefEqProofs [LW, B2_law, e4, e5])
  exact ⟨n, h', eL, q'⟩
theorem law_true (ns : List Int) (hn : ns.length ≤ 63) : ∃ h', F_law [.ref 0] (scriptH ns) = .ok (.bl true, h') := by
  obtain ⟨b, c, h0, e0, q⟩ := s_own_bag ns hn
  have e0 : F_law_own_bag [.ref 0] (scriptH ns) = .ok (.ref b, h0) := e0
  have f2 : LW S2_law [some (.ref 0), none, none, none] (scriptH ns) = .ok (.nx, [some (.ref 0), some (.ref b), none, none], h0) := by
    simp -implicitDefEqProofs [LW, S2_law, e0]
  obtain ⟨u, h1, eL2, q1⟩ := law_l2 q
  obtain ⟨k, h2, e2, n2, k2⟩ := draw_nat q1 (m := 9) (by decide) (by decide)
  obtain ⟨n, hn'⟩ : ∃ n : Nat, (2 : Int) + (k : Int) = (n : Int) := ⟨2 + k, by omega⟩
  have hn10 : n ≤ 10 := by omega
  have f1 : LW S1_law [some (.ref 0), some (.ref b), u, none] h1 = .ok (.nx, [some (.ref 0), some (.ref b), some (.int n), none], h2) := by
    simp -implicitDefEqProofs [LW, S1_law, e2, hn']
  have hit : (vRng1 (vCons (vC (.int 3)) vNil)) [some (.ref 0), some (.ref b), some (.int (n : Int)), none] h2 = .ok (fun _ => some (rangeD 0 1 (3 : Int).toNat), h2) := vRng1_of rfl (by decide)
  obtain ⟨s', h3, eL, ⟨m, rfl⟩, q3⟩ := for_all (g := gP (pN 3)) (body := LW B1_law) (fun _ s h' => (∃ m, s = [some (.ref 0), some (.ref b), some (.int (n : Int)), m]) ∧ Hb b c h') hit (fun _ _ _ _ => rfl) ⟨⟨_, rfl⟩, k2.bag⟩ (by
    rintro i d s h' ed ⟨⟨m, rfl⟩, q⟩
    obtain ⟨hi, rfl⟩ := rng_get ed
    obtain ⟨net, h4, e4, w4, z4, k4⟩ := s_sorting q hn10 ((0 : Int) + (i : Nat))
    obtain ⟨h5, e5, k5⟩ := s_all_right k4.bag hn10 w4 (by omega)
    refine ⟨[some (.ref 0), some (.ref b), some (.int (n : Int)), some (.int ((0 : Int) + (i : Nat)))], h5, .inl ?_, ⟨_, rfl⟩, k5.bag⟩
    rw [turn_N]
    generalize (0 : Int) + (i : Nat) = j at *
    simp -implicitDefEqProofs [LW, B1_law, e4, e5])
  have eL1 : LW L1_law [some (.ref 0), some (.ref b), some (.int (n : Int)), none] h2 = _ := eL
  obtain ⟨g, h8, e8, n8, k8⟩ := draw_nat q3 (m := 9) (by decide) (by decide)
  obtain ⟨g', hg'⟩ : ∃ g' : Nat, (2 : Int) + (g : Int) = (g' : Int) := ⟨2 + g, by omega⟩
  obtain ⟨h9, e9, k9⟩ := s_great_right k8.bag (n := g') (by omega)
  refine ⟨h9, ?_⟩
  unfold F_law
  refine mF_rt (s' := [some (.ref 0), some (.ref b), some (.int (n : Int)), m]) ?_
  show LW m_law [some (.ref 0), none, none, none] (scriptH ns) = _
  simp only [LW] at *
  unfold m_law
  rw [seq_nx f2, seq_nx eL2, seq_nx f1, seq_nx eL1]
  simp -implicitDefEqProofs [e8, hg', e9]
end K03

namespace K03
open PySem PySem.Spec PyProof.Rows L2 Vq
theorem all_mk {w : World} {K : PySem.W.Frag} {h : Heap} {mg : Str → Option Value} {fa : Addr} (X : K.In h) (G : h.Ns mainGlobals mg) (hfa : mg "law" = some (.ref fa))
    {f0 f1 f2 f3 f4 f5 f6 f7 f8 f9 f10 f11 f12 f13 f14 f15 f16 f17 f18 f19 f20 f21 f22 f23 f24 f25 f26 f27 : Addr} {od0 od1 od2 od3 od4 od5 od6 od7 od8 od9 od10 od11 od12 od13 od14 od15 od16 od17 od18 od19 od20 od21 od22 od23 od24 od25 od26 od27 an0 an1 an2 an3 an4 an5 an6 an7 an8 an9 an10 an11 an12 an13 an14 an15 an16 an17 an18 an19 an20 an21 an22 an23 an24 an25 an26 an27 : Option Addr} {sl0 sl1 sl2 sl3 sl4 sl5 sl6 sl7 sl8 sl9 sl10 sl11 sl12 sl13 sl14 sl15 sl16 sl17 sl18 sl19 sl20 sl21 sl22 sl23 sl24 sl25 sl26 sl27 : Array (Option Value)} {oc0 kV0 dc0 pm0 cd0 ct0 oc1 kV1 dc1 pm1 cd1 ct1 oc2 kV2 dc2 pm2 cd2 ct2 oc3 kV3 dc3 pm3 cd3 ct3 oc4 kV4 dc4 pm4 cd4 ct4 oc5 kV5 dc5 pm5 cd5 ct5 oc6 kV6 dc6 pm6 cd6 ct6 oc7 kV7 dc7 pm7 cd7 ct7 oc8 kV8 dc8 pm8 cd8 ct8 oc9 kV9 dc9 pm9 cd9 ct9 oc10 kV10 dc10 pm10 cd10 ct10 oc11 kV11 dc11 pm11 cd11 ct11 oc12 kV12 dc12 pm12 cd12 ct12 oc13 kV13 dc13 pm13 cd13 ct13 oc14 kV14 dc14 pm14 cd14 ct14 oc15 kV15 dc15 pm15 cd15 ct15 oc16 kV16 dc16 pm16 cd16 ct16 oc17 kV17 dc17 pm17 cd17 ct17 oc18 kV18 dc18 pm18 cd18 ct18 oc19 kV19 dc19 pm19 cd19 ct19 oc20 kV20 dc20 pm20 cd20 ct20 oc21 kV21 dc21 pm21 cd21 ct21 oc22 kV22 dc22 pm22 cd22 ct22 oc23 kV23 dc23 pm23 cd23 ct23 oc24 kV24 dc24 pm24 cd24 ct24 oc25 kV25 dc25 pm25 cd25 ct25 oc26 kV26 dc26 pm26 cd26 ct26 oc27 kV27 dc27 pm27 cd27 ct27 : Value}
    (a0 : PySem.W.nsIn K mainGlobals "joined_nets" = some (some (.ref f0)))
    (l0 : K.lookup f0 = some ⟨oc0, od0, .func (PySem.W.fnOf "joined_nets" "joined_nets" (defArgs s_joined_nets) (defBody s_joined_nets) (defScope s_joined_nets) .none kV0 dc0 pm0 an0 cd0 ct0), sl0⟩)
    (c0 : PySem.W.codeIn K cd0 "joined_nets" = true) (k0 : PySem.W.keepIn K (.ref f0) = true)
    (a1 : PySem.W.nsIn K mainGlobals "made_row" = some (some (.ref f1)))
    (l1 : K.lookup f1 = some ⟨oc1, od1, .func (PySem.W.fnOf "made_row" "made_row" (defArgs s_made_row) (defBody s_made_row) (defScope s_made_row) .none kV1 dc1 pm1 an1 cd1 ct1), sl1⟩)
    (c1 : PySem.W.codeIn K cd1 "made_row" = true) (k1 : PySem.W.keepIn K (.ref f1) = true)
    (a2 : PySem.W.nsIn K mainGlobals "is_ascending" = some (some (.ref f2)))
    (l2 : K.lookup f2 = some ⟨oc2, od2, .func (PySem.W.fnOf "is_ascending" "is_ascending" (defArgs s_is_ascending) (defBody s_is_ascending) (defScope s_is_ascending) .none kV2 dc2 pm2 an2 cd2 ct2), sl2⟩)
    (c2 : PySem.W.codeIn K cd2 "is_ascending" = true) (k2 : PySem.W.keepIn K (.ref f2) = true)
    (a3 : PySem.W.nsIn K mainGlobals "is_standard" = some (some (.ref f3)))
    (l3 : K.lookup f3 = some ⟨oc3, od3, .func (PySem.W.fnOf "is_standard" "is_standard" (defArgs s_is_standard) (defBody s_is_standard) (defScope s_is_standard) .none kV3 dc3 pm3 an3 cd3 ct3), sl3⟩)
    (c3 : PySem.W.codeIn K cd3 "is_standard" = true) (k3 : PySem.W.keepIn K (.ref f3) = true)
    (a4 : PySem.W.nsIn K mainGlobals "does_sort_row" = some (some (.ref f4)))
    (l4 : K.lookup f4 = some ⟨oc4, od4, .func (PySem.W.fnOf "does_sort_row" "does_sort_row" (defArgs s_does_sort_row) (defBody s_does_sort_row) (defScope s_does_sort_row) .none kV4 dc4 pm4 an4 cd4 ct4), sl4⟩)
    (c4 : PySem.W.codeIn K cd4 "does_sort_row" = true) (k4 : PySem.W.keepIn K (.ref f4) = true)
    (a5 : PySem.W.nsIn K mainGlobals "renamed_net" = some (some (.ref f5)))
    (l5 : K.lookup f5 = some ⟨oc5, od5, .func (PySem.W.fnOf "renamed_net" "renamed_net" (defArgs s_renamed_net) (defBody s_renamed_net) (defScope s_renamed_net) .none kV5 dc5 pm5 an5 cd5 ct5), sl5⟩)
    (c5 : PySem.W.codeIn K cd5 "renamed_net" = true) (k5 : PySem.W.keepIn K (.ref f5) = true)
    (a6 : PySem.W.nsIn K mainGlobals "mirrored_net" = some (some (.ref f6)))
    (l6 : K.lookup f6 = some ⟨oc6, od6, .func (PySem.W.fnOf "mirrored_net" "mirrored_net" (defArgs s_mirrored_net) (defBody s_mirrored_net) (defScope s_mirrored_net) .none kV6 dc6 pm6 an6 cd6 ct6), sl6⟩)
    (c6 : PySem.W.codeIn K cd6 "mirrored_net" = true) (k6 : PySem.W.keepIn K (.ref f6) = true)
    (a7 : PySem.W.nsIn K mainGlobals "standard_net" = some (some (.ref f7)))
    (l7 : K.lookup f7 = some ⟨oc7, od7, .func (PySem.W.fnOf "standard_net" "standard_net" (defArgs s_standard_net) (defBody s_standard_net) (defScope s_standard_net) .none kV7 dc7 pm7 an7 cd7 ct7), sl7⟩)
    (c7 : PySem.W.codeIn K cd7 "standard_net" = true) (k7 : PySem.W.keepIn K (.ref f7) = true)
    (a8 : PySem.W.nsIn K mainGlobals "_law_own_bag" = some (some (.ref f8)))
    (l8 : K.lookup f8 = some ⟨oc8, od8, .func (PySem.W.fnOf "_law_own_bag" "_law_own_bag" (defArgs s_law_own_bag) (defBody s_law_own_bag) (defScope s_law_own_bag) .none kV8 dc8 pm8 an8 cd8 ct8), sl8⟩)
    (c8 : PySem.W.codeIn K cd8 "_law_own_bag" = true) (k8 : PySem.W.keepIn K (.ref f8) = true)
    (a9 : PySem.W.nsIn K mainGlobals "_law_draw" = some (some (.ref f9)))
    (l9 : K.lookup f9 = some ⟨oc9, od9, .func (PySem.W.fnOf "_law_draw" "_law_draw" (defArgs s_law_draw) (defBody s_law_draw) (defScope s_law_draw) .none kV9 dc9 pm9 an9 cd9 ct9), sl9⟩)
    (c9 : PySem.W.codeIn K cd9 "_law_draw" = true) (k9 : PySem.W.keepIn K (.ref f9) = true)
    (a10 : PySem.W.nsIn K mainGlobals "_law_pick" = some (some (.ref f10)))
    (l10 : K.lookup f10 = some ⟨oc10, od10, .func (PySem.W.fnOf "_law_pick" "_law_pick" (defArgs s_law_pick) (defBody s_law_pick) (defScope s_law_pick) .none kV10 dc10 pm10 an10 cd10 ct10), sl10⟩)
    (c10 : PySem.W.codeIn K cd10 "_law_pick" = true) (k10 : PySem.W.keepIn K (.ref f10) = true)
    (a11 : PySem.W.nsIn K mainGlobals "_law_pair" = some (some (.ref f11)))
    (l11 : K.lookup f11 = some ⟨oc11, od11, .func (PySem.W.fnOf "_law_pair" "_law_pair" (defArgs s_law_pair) (defBody s_law_pair) (defScope s_law_pair) .none kV11 dc11 pm11 an11 cd11 ct11), sl11⟩)
    (c11 : PySem.W.codeIn K cd11 "_law_pair" = true) (k11 : PySem.W.keepIn K (.ref f11) = true)
    (a12 : PySem.W.nsIn K mainGlobals "_law_great" = some (some (.ref f12)))
    (l12 : K.lookup f12 = some ⟨oc12, od12, .func (PySem.W.fnOf "_law_great" "_law_great" (defArgs s_law_great) (defBody s_law_great) (defScope s_law_great) .none kV12 dc12 pm12 an12 cd12 ct12), sl12⟩)
    (c12 : PySem.W.codeIn K cd12 "_law_great" = true) (k12 : PySem.W.keepIn K (.ref f12) = true)
    (a13 : PySem.W.nsIn K mainGlobals "_law_row" = some (some (.ref f13)))
    (l13 : K.lookup f13 = some ⟨oc13, od13, .func (PySem.W.fnOf "_law_row" "_law_row" (defArgs s_law_row) (defBody s_law_row) (defScope s_law_row) .none kV13 dc13 pm13 an13 cd13 ct13), sl13⟩)
    (c13 : PySem.W.codeIn K cd13 "_law_row" = true) (k13 : PySem.W.keepIn K (.ref f13) = true)
    (a14 : PySem.W.nsIn K mainGlobals "_law_made" = some (some (.ref f14)))
    (l14 : K.lookup f14 = some ⟨oc14, od14, .func (PySem.W.fnOf "_law_made" "_law_made" (defArgs s_law_made) (defBody s_law_made) (defScope s_law_made) .none kV14 dc14 pm14 an14 cd14 ct14), sl14⟩)
    (c14 : PySem.W.codeIn K cd14 "_law_made" = true) (k14 : PySem.W.keepIn K (.ref f14) = true)
    (a15 : PySem.W.nsIn K mainGlobals "_law_wires" = some (some (.ref f15)))
    (l15 : K.lookup f15 = some ⟨oc15, od15, .func (PySem.W.fnOf "_law_wires" "_law_wires" (defArgs s_law_wires) (defBody s_law_wires) (defScope s_law_wires) .none kV15 dc15 pm15 an15 cd15 ct15), sl15⟩)
    (c15 : PySem.W.codeIn K cd15 "_law_wires" = true) (k15 : PySem.W.keepIn K (.ref f15) = true)
    (a16 : PySem.W.nsIn K mainGlobals "_law_sorting" = some (some (.ref f16)))
    (l16 : K.lookup f16 = some ⟨oc16, od16, .func (PySem.W.fnOf "_law_sorting" "_law_sorting" (defArgs s_law_sorting) (defBody s_law_sorting) (defScope s_law_sorting) .none kV16 dc16 pm16 an16 cd16 ct16), sl16⟩)
    (c16 : PySem.W.codeIn K cd16 "_law_sorting" = true) (k16 : PySem.W.keepIn K (.ref f16) = true)
    (a17 : PySem.W.nsIn K mainGlobals "_law_net" = some (some (.ref f17)))
    (l17 : K.lookup f17 = some ⟨oc17, od17, .func (PySem.W.fnOf "_law_net" "_law_net" (defArgs s_law_net) (defBody s_law_net) (defScope s_law_net) .none kV17 dc17 pm17 an17 cd17 ct17), sl17⟩)
    (c17 : PySem.W.codeIn K cd17 "_law_net" = true) (k17 : PySem.W.keepIn K (.ref f17) = true)
    (a18 : PySem.W.nsIn K mainGlobals "_law_some_net" = some (some (.ref f18)))
    (l18 : K.lookup f18 = some ⟨oc18, od18, .func (PySem.W.fnOf "_law_some_net" "_law_some_net" (defArgs s_law_some_net) (defBody s_law_some_net) (defScope s_law_some_net) .none kV18 dc18 pm18 an18 cd18 ct18), sl18⟩)
    (c18 : PySem.W.codeIn K cd18 "_law_some_net" = true) (k18 : PySem.W.keepIn K (.ref f18) = true)
    (a19 : PySem.W.nsIn K mainGlobals "_law_standard" = some (some (.ref f19)))
    (l19 : K.lookup f19 = some ⟨oc19, od19, .func (PySem.W.fnOf "_law_standard" "_law_standard" (defArgs s_law_standard) (defBody s_law_standard) (defScope s_law_standard) .none kV19 dc19 pm19 an19 cd19 ct19), sl19⟩)
    (c19 : PySem.W.codeIn K cd19 "_law_standard" = true) (k19 : PySem.W.keepIn K (.ref f19) = true)
    (a20 : PySem.W.nsIn K mainGlobals "_law_failing" = some (some (.ref f20)))
    (l20 : K.lookup f20 = some ⟨oc20, od20, .func (PySem.W.fnOf "_law_failing" "_law_failing" (defArgs s_law_failing) (defBody s_law_failing) (defScope s_law_failing) .none kV20 dc20 pm20 an20 cd20 ct20), sl20⟩)
    (c20 : PySem.W.codeIn K cd20 "_law_failing" = true) (k20 : PySem.W.keepIn K (.ref f20) = true)
    (a21 : PySem.W.nsIn K mainGlobals "_law_does_go" = some (some (.ref f21)))
    (l21 : K.lookup f21 = some ⟨oc21, od21, .func (PySem.W.fnOf "_law_does_go" "_law_does_go" (defArgs s_law_does_go) (defBody s_law_does_go) (defScope s_law_does_go) .none kV21 dc21 pm21 an21 cd21 ct21), sl21⟩)
    (c21 : PySem.W.codeIn K cd21 "_law_does_go" = true) (k21 : PySem.W.keepIn K (.ref f21) = true)
    (a22 : PySem.W.nsIn K mainGlobals "_law_is_standard_right" = some (some (.ref f22)))
    (l22 : K.lookup f22 = some ⟨oc22, od22, .func (PySem.W.fnOf "_law_is_standard_right" "_law_is_standard_right" (defArgs s_law_is_standard_right) (defBody s_law_is_standard_right) (defScope s_law_is_standard_right) .none kV22 dc22 pm22 an22 cd22 ct22), sl22⟩)
    (c22 : PySem.W.codeIn K cd22 "_law_is_standard_right" = true) (k22 : PySem.W.keepIn K (.ref f22) = true)
    (a23 : PySem.W.nsIn K mainGlobals "_law_is_mirror_right" = some (some (.ref f23)))
    (l23 : K.lookup f23 = some ⟨oc23, od23, .func (PySem.W.fnOf "_law_is_mirror_right" "_law_is_mirror_right" (defArgs s_law_is_mirror_right) (defBody s_law_is_mirror_right) (defScope s_law_is_mirror_right) .none kV23 dc23 pm23 an23 cd23 ct23), sl23⟩)
    (c23 : PySem.W.codeIn K cd23 "_law_is_mirror_right" = true) (k23 : PySem.W.keepIn K (.ref f23) = true)
    (a24 : PySem.W.nsIn K mainGlobals "_law_is_renamed_right" = some (some (.ref f24)))
    (l24 : K.lookup f24 = some ⟨oc24, od24, .func (PySem.W.fnOf "_law_is_renamed_right" "_law_is_renamed_right" (defArgs s_law_is_renamed_right) (defBody s_law_is_renamed_right) (defScope s_law_is_renamed_right) .none kV24 dc24 pm24 an24 cd24 ct24), sl24⟩)
    (c24 : PySem.W.codeIn K cd24 "_law_is_renamed_right" = true) (k24 : PySem.W.keepIn K (.ref f24) = true)
    (a25 : PySem.W.nsIn K mainGlobals "_law_are_all_right" = some (some (.ref f25)))
    (l25 : K.lookup f25 = some ⟨oc25, od25, .func (PySem.W.fnOf "_law_are_all_right" "_law_are_all_right" (defArgs s_law_are_all_right) (defBody s_law_are_all_right) (defScope s_law_are_all_right) .none kV25 dc25 pm25 an25 cd25 ct25), sl25⟩)
    (c25 : PySem.W.codeIn K cd25 "_law_are_all_right" = true) (k25 : PySem.W.keepIn K (.ref f25) = true)
    (a26 : PySem.W.nsIn K mainGlobals "_law_are_great_right" = some (some (.ref f26)))
    (l26 : K.lookup f26 = some ⟨oc26, od26, .func (PySem.W.fnOf "_law_are_great_right" "_law_are_great_right" (defArgs s_law_are_great_right) (defBody s_law_are_great_right) (defScope s_law_are_great_right) .none kV26 dc26 pm26 an26 cd26 ct26), sl26⟩)
    (c26 : PySem.W.codeIn K cd26 "_law_are_great_right" = true) (k26 : PySem.W.keepIn K (.ref f26) = true)
    (a27 : PySem.W.nsIn K mainGlobals "law" = some (some (.ref f27)))
    (l27 : K.lookup f27 = some ⟨oc27, od27, .func (PySem.W.fnOf "law" "law" (defArgs s_law) (defBody s_law) (defScope s_law) .none kV27 dc27 pm27 an27 cd27 ct27), sl27⟩)
    (c27 : PySem.W.codeIn K cd27 "law" = true) (k27 : PySem.W.keepIn K (.ref f27) = true)
    (z_all : PySem.W.nsIn K mainGlobals "all" = some none)
    (z_int : PySem.W.nsIn K mainGlobals "int" = some none)
    (z_len : PySem.W.nsIn K mainGlobals "len" = some none)
    (z_list : PySem.W.nsIn K mainGlobals "list" = some none)
    (z_max : PySem.W.nsIn K mainGlobals "max" = some none)
    (z_min : PySem.W.nsIn K mainGlobals "min" = some none)
    (z_range : PySem.W.nsIn K mainGlobals "range" = some none)
    (z_repr : PySem.W.nsIn K mainGlobals "repr" = some none)
    (z_reversed : PySem.W.nsIn K mainGlobals "reversed" = some none)
    (z_sorted : PySem.W.nsIn K mainGlobals "sorted" = some none)
    (z_tuple : PySem.W.nsIn K mainGlobals "tuple" = some none)
    (z_zip : PySem.W.nsIn K mainGlobals "zip" = some none)
    : ∃ fd : FuncData, (∀ u : Value, bindArgs fd ⟨[u], []⟩ = (pure [(("script" : Str), u)] : Sem _)) ∧ ∀ base : Heap, K.In base → base.Ns mainGlobals mg → FnG PySem.Challenge.pw_comparenets_k03_whole_standard_by_names w K mg base 7 fa fd ["script"] F_law := by
  have e := hfa.symm.trans (PySem.W.mg_of X G a27)
  cases e
  have h0 := fun_mk (st := s_joined_nets) l0 c0 k0
  have h1 := fun_mk (st := s_made_row) l1 c1 k1
  have h2 := fun_mk (st := s_is_ascending) l2 c2 k2
  have h3 := fun_mk (st := s_is_standard) l3 c3 k3
  have h4 := fun_mk (st := s_does_sort_row) l4 c4 k4
  have h5 := fun_mk (st := s_renamed_net) l5 c5 k5
  have h6 := fun_mk (st := s_mirrored_net) l6 c6 k6
  have h7 := fun_mk (st := s_standard_net) l7 c7 k7
  have h8 := fun_mk (st := s_law_own_bag) l8 c8 k8
  have h9 := fun_mk (st := s_law_draw) l9 c9 k9
  have h10 := fun_mk (st := s_law_pick) l10 c10 k10
  have h11 := fun_mk (st := s_law_pair) l11 c11 k11
  have h12 := fun_mk (st := s_law_great) l12 c12 k12
  have h13 := fun_mk (st := s_law_row) l13 c13 k13
  have h14 := fun_mk (st := s_law_made) l14 c14 k14
  have h15 := fun_mk (st := s_law_wires) l15 c15 k15
  have h16 := fun_mk (st := s_law_sorting) l16 c16 k16
  have h17 := fun_mk (st := s_law_net) l17 c17 k17
  have h18 := fun_mk (st := s_law_some_net) l18 c18 k18
  have h19 := fun_mk (st := s_law_standard) l19 c19 k19
  have h20 := fun_mk (st := s_law_failing) l20 c20 k20
  have h21 := fun_mk (st := s_law_does_go) l21 c21 k21
  have h22 := fun_mk (st := s_law_is_standard_right) l22 c22 k22
  have h23 := fun_mk (st := s_law_is_mirror_right) l23 c23 k23
  have h24 := fun_mk (st := s_law_is_renamed_right) l24 c24 k24
  have h25 := fun_mk (st := s_law_are_all_right) l25 c25 k25
  have h26 := fun_mk (st := s_law_are_great_right) l26 c26 k26
  have h27 := fun_mk (st := s_law) l27 c27 k27
  let T : Txt K mg := {
    a_joined_nets := f0
    d_joined_nets := _
    g_joined_nets := PySem.W.mg_of X G a0
    k_joined_nets := k0
    f_joined_nets := h0
    b_joined_nets := bindP_of h0 fun _ _ _ _ _ _ us hl => match us, hl with | [_, _], _ => rfl
    a_made_row := f1
    d_made_row := _
    g_made_row := PySem.W.mg_of X G a1
    k_made_row := k1
    f_made_row := h1
    b_made_row := bindP_of h1 fun _ _ _ _ _ _ us hl => match us, hl with | [_, _], _ => rfl
    a_is_ascending := f2
    d_is_ascending := _
    g_is_ascending := PySem.W.mg_of X G a2
    k_is_ascending := k2
    f_is_ascending := h2
    b_is_ascending := bindP_of h2 fun _ _ _ _ _ _ us hl => match us, hl with | [_], _ => rfl
    a_is_standard := f3
    d_is_standard := _
    g_is_standard := PySem.W.mg_of X G a3
    k_is_standard := k3
    f_is_standard := h3
    b_is_standard := bindP_of h3 fun _ _ _ _ _ _ us hl => match us, hl with | [_], _ => rfl
    a_does_sort_row := f4
    d_does_sort_row := _
    g_does_sort_row := PySem.W.mg_of X G a4
    k_does_sort_row := k4
    f_does_sort_row := h4
    b_does_sort_row := bindP_of h4 fun _ _ _ _ _ _ us hl => match us, hl with | [_, _], _ => rfl
    a_renamed_net := f5
    d_renamed_net := _
    g_renamed_net := PySem.W.mg_of X G a5
    k_renamed_net := k5
    f_renamed_net := h5
    b_renamed_net := bindP_of h5 fun _ _ _ _ _ _ us hl => match us, hl with | [_, _], _ => rfl
    a_mirrored_net := f6
    d_mirrored_net := _
    g_mirrored_net := PySem.W.mg_of X G a6
    k_mirrored_net := k6
    f_mirrored_net := h6
    b_mirrored_net := bindP_of h6 fun _ _ _ _ _ _ us hl => match us, hl with | [_, _], _ => rfl
    a_standard_net := f7
    d_standard_net := _
    g_standard_net := PySem.W.mg_of X G a7
    k_standard_net := k7
    f_standard_net := h7
    b_standard_net := bindP_of h7 fun _ _ _ _ _ _ us hl => match us, hl with | [_, _], _ => rfl
    a_law_own_bag := f8
    d_law_own_bag := _
    g_law_own_bag := PySem.W.mg_of X G a8
    k_law_own_bag := k8
    f_law_own_bag := h8
    b_law_own_bag := bindP_of h8 fun _ _ _ _ _ _ us hl => match us, hl with | [_], _ => rfl
    a_law_draw := f9
    d_law_draw := _
    g_law_draw := PySem.W.mg_of X G a9
    k_law_draw := k9
    f_law_draw := h9
    b_law_draw := bindP_of h9 fun _ _ _ _ _ _ us hl => match us, hl with | [_, _], _ => rfl
    a_law_pick := f10
    d_law_pick := _
    g_law_pick := PySem.W.mg_of X G a10
    k_law_pick := k10
    f_law_pick := h10
    b_law_pick := bindP_of h10 fun _ _ _ _ _ _ us hl => match us, hl with | [_, _], _ => rfl
    a_law_pair := f11
    d_law_pair := _
    g_law_pair := PySem.W.mg_of X G a11
    k_law_pair := k11
    f_law_pair := h11
    b_law_pair := bindP_of h11 fun _ _ _ _ _ _ us hl => match us, hl with | [_, _], _ => rfl
    a_law_great := f12
    d_law_great := _
    g_law_great := PySem.W.mg_of X G a12
    k_law_great := k12
    f_law_great := h12
    b_law_great := bindP_of h12 fun _ _ _ _ _ _ us hl => match us, hl with | [_], _ => rfl
    a_law_row := f13
    d_law_row := _
    g_law_row := PySem.W.mg_of X G a13
    k_law_row := k13
    f_law_row := h13
    b_law_row := bindP_of h13 fun _ _ _ _ _ _ us hl => match us, hl with | [_, _], _ => rfl
    a_law_made := f14
    d_law_made := _
    g_law_made := PySem.W.mg_of X G a14
    k_law_made := k14
    f_law_made := h14
    b_law_made := bindP_of h14 fun _ _ _ _ _ _ us hl => match us, hl with | [_, _], _ => rfl
    a_law_wires := f15
    d_law_wires := _
    g_law_wires := PySem.W.mg_of X G a15
    k_law_wires := k15
    f_law_wires := h15
    b_law_wires := bindP_of h15 fun _ _ _ _ _ _ us hl => match us, hl with | [_, _], _ => rfl
    a_law_sorting := f16
    d_law_sorting := _
    g_law_sorting := PySem.W.mg_of X G a16
    k_law_sorting := k16
    f_law_sorting := h16
    b_law_sorting := bindP_of h16 fun _ _ _ _ _ _ us hl => match us, hl with | [_, _, _], _ => rfl
    a_law_net := f17
    d_law_net := _
    g_law_net := PySem.W.mg_of X G a17
    k_law_net := k17
    f_law_net := h17
    b_law_net := bindP_of h17 fun _ _ _ _ _ _ us hl => match us, hl with | [_, _, _, _], _ => rfl
    a_law_some_net := f18
    d_law_some_net := _
    g_law_some_net := PySem.W.mg_of X G a18
    k_law_some_net := k18
    f_law_some_net := h18
    b_law_some_net := bindP_of h18 fun _ _ _ _ _ _ us hl => match us, hl with | [_, _], _ => rfl
    a_law_standard := f19
    d_law_standard := _
    g_law_standard := PySem.W.mg_of X G a19
    k_law_standard := k19
    f_law_standard := h19
    b_law_standard := bindP_of h19 fun _ _ _ _ _ _ us hl => match us, hl with | [_, _], _ => rfl
    a_law_failing := f20
    d_law_failing := _
    g_law_failing := PySem.W.mg_of X G a20
    k_law_failing := k20
    f_law_failing := h20
    b_law_failing := bindP_of h20 fun _ _ _ _ _ _ us hl => match us, hl with | [_, _], _ => rfl
    a_law_does_go := f21
    d_law_does_go := _
    g_law_does_go := PySem.W.mg_of X G a21
    k_law_does_go := k21
    f_law_does_go := h21
    b_law_does_go := bindP_of h21 fun _ _ _ _ _ _ us hl => match us, hl with | [_, _, _, _], _ => rfl
    a_law_is_standard_right := f22
    d_law_is_standard_right := _
    g_law_is_standard_right := PySem.W.mg_of X G a22
    k_law_is_standard_right := k22
    f_law_is_standard_right := h22
    b_law_is_standard_right := bindP_of h22 fun _ _ _ _ _ _ us hl => match us, hl with | [_, _, _], _ => rfl
    a_law_is_mirror_right := f23
    d_law_is_mirror_right := _
    g_law_is_mirror_right := PySem.W.mg_of X G a23
    k_law_is_mirror_right := k23
    f_law_is_mirror_right := h23
    b_law_is_mirror_right := bindP_of h23 fun _ _ _ _ _ _ us hl => match us, hl with | [_, _, _], _ => rfl
    a_law_is_renamed_right := f24
    d_law_is_renamed_right := _
    g_law_is_renamed_right := PySem.W.mg_of X G a24
    k_law_is_renamed_right := k24
    f_law_is_renamed_right := h24
    b_law_is_renamed_right := bindP_of h24 fun _ _ _ _ _ _ us hl => match us, hl with | [_, _, _, _], _ => rfl
    a_law_are_all_right := f25
    d_law_are_all_right := _
    g_law_are_all_right := PySem.W.mg_of X G a25
    k_law_are_all_right := k25
    f_law_are_all_right := h25
    b_law_are_all_right := bindP_of h25 fun _ _ _ _ _ _ us hl => match us, hl with | [_, _, _], _ => rfl
    a_law_are_great_right := f26
    d_law_are_great_right := _
    g_law_are_great_right := PySem.W.mg_of X G a26
    k_law_are_great_right := k26
    f_law_are_great_right := h26
    b_law_are_great_right := bindP_of h26 fun _ _ _ _ _ _ us hl => match us, hl with | [_, _], _ => rfl
    a_law := fa
    d_law := _
    g_law := PySem.W.mg_of X G a27
    k_law := k27
    f_law := h27
    b_law := bindP_of h27 fun _ _ _ _ _ _ us hl => match us, hl with | [_], _ => rfl
    n_all := PySem.W.mg_none_of X G z_all
    n_int := PySem.W.mg_none_of X G z_int
    n_len := PySem.W.mg_none_of X G z_len
    n_list := PySem.W.mg_none_of X G z_list
    n_max := PySem.W.mg_none_of X G z_max
    n_min := PySem.W.mg_none_of X G z_min
    n_range := PySem.W.mg_none_of X G z_range
    n_repr := PySem.W.mg_none_of X G z_repr
    n_reversed := PySem.W.mg_none_of X G z_reversed
    n_sorted := PySem.W.mg_none_of X G z_sorted
    n_tuple := PySem.W.mg_none_of X G z_tuple
    n_zip := PySem.W.mg_none_of X G z_zip
  }
  exact ⟨T.d_law, fun u => rfl, fun base _ _ => chain (base := base) T⟩
end K03
open PySem PySem.W PyProof.Rows
set_option maxHeartbeats 0 in
theorem PySem.Challenge.cw_comparenets_k03_whole_standard_by_names_holds : PySem.Challenge.rw_comparenets_k03_whole_standard_by_names.Holds := by
  w_on; o_law; k_head; (case hw => w_witness2)
  k_fill
  refine Vq.walkG (l := PySem.Challenge.rw_comparenets_k03_whole_standard_by_names) (n := 63) (k := 7) (x := "script") (F := K03.F_law) rfl (by decide) rfl ⟨rfl, by decide, by decide⟩ (fun w h Y => PySem.W.kIn_of Y) ?G (fun ns hl => K03.law_true ns hl)
  case G =>
    intro w mg fa h KX G hmg
    refine' K03.all_mk KX G hmg ?a0 ?l0 ?c0 ?k0 ?a1 ?l1 ?c1 ?k1 ?a2 ?l2 ?c2 ?k2 ?a3 ?l3 ?c3 ?k3 ?a4 ?l4 ?c4 ?k4 ?a5 ?l5 ?c5 ?k5 ?a6 ?l6 ?c6 ?k6 ?a7 ?l7 ?c7 ?k7 ?a8 ?l8 ?c8 ?k8 ?a9 ?l9 ?c9 ?k9 ?a10 ?l10 ?c10 ?k10 ?a11 ?l11 ?c11 ?k11 ?a12 ?l12 ?c12 ?k12 ?a13 ?l13 ?c13 ?k13 ?a14 ?l14 ?c14 ?k14 ?a15 ?l15 ?c15 ?k15 ?a16 ?l16 ?c16 ?k16 ?a17 ?l17 ?c17 ?k17 ?a18 ?l18 ?c18 ?k18 ?a19 ?l19 ?c19 ?k19 ?a20 ?l20 ?c20 ?k20 ?a21 ?l21 ?c21 ?k21 ?a22 ?l22 ?c22 ?k22 ?a23 ?l23 ?c23 ?k23 ?a24 ?l24 ?c24 ?k24 ?a25 ?l25 ?c25 ?k25 ?a26 ?l26 ?c26 ?k26 ?a27 ?l27 ?c27 ?k27 ?z_all ?z_int ?z_len ?z_list ?z_max ?z_min ?z_range ?z_repr ?z_reversed ?z_sorted ?z_tuple ?z_zip
    (case a0 => k_is)
    (case l0 => k_is)
    (case c0 => k_is)
    (case k0 => k_is)
    (case a1 => k_is)
    (case l1 => k_is)
    (case c1 => k_is)
    (case k1 => k_is)
    (case a2 => k_is)
    (case l2 => k_is)
    (case c2 => k_is)
    (case k2 => k_is)
    (case a3 => k_is)
    (case l3 => k_is)
    (case c3 => k_is)
    (case k3 => k_is)
    (case a4 => k_is)
    (case l4 => k_is)
    (case c4 => k_is)
    (case k4 => k_is)
    (case a5 => k_is)
    (case l5 => k_is)
    (case c5 => k_is)
    (case k5 => k_is)
    (case a6 => k_is)
    (case l6 => k_is)
    (case c6 => k_is)
    (case k6 => k_is)
    (case a7 => k_is)
    (case l7 => k_is)
    (case c7 => k_is)
    (case k7 => k_is)
    (case a8 => k_is)
    (case l8 => k_is)
    (case c8 => k_is)
    (case k8 => k_is)
    (case a9 => k_is)
    (case l9 => k_is)
    (case c9 => k_is)
    (case k9 => k_is)
    (case a10 => k_is)
    (case l10 => k_is)
    (case c10 => k_is)
    (case k10 => k_is)
    (case a11 => k_is)
    (case l11 => k_is)
    (case c11 => k_is)
    (case k11 => k_is)
    (case a12 => k_is)
    (case l12 => k_is)
    (case c12 => k_is)
    (case k12 => k_is)
    (case a13 => k_is)
    (case l13 => k_is)
    (case c13 => k_is)
    (case k13 => k_is)
    (case a14 => k_is)
    (case l14 => k_is)
    (case c14 => k_is)
    (case k14 => k_is)
    (case a15 => k_is)
    (case l15 => k_is)
    (case c15 => k_is)
    (case k15 => k_is)
    (case a16 => k_is)
    (case l16 => k_is)
    (case c16 => k_is)
    (case k16 => k_is)
    (case a17 => k_is)
    (case l17 => k_is)
    (case c17 => k_is)
    (case k17 => k_is)
    (case a18 => k_is)
    (case l18 => k_is)
    (case c18 => k_is)
    (case k18 => k_is)
    (case a19 => k_is)
    (case l19 => k_is)
    (case c19 => k_is)
    (case k19 => k_is)
    (case a20 => k_is)
    (case l20 => k_is)
    (case c20 => k_is)
    (case k20 => k_is)
    (case a21 => k_is)
    (case l21 => k_is)
    (case c21 => k_is)
    (case k21 => k_is)
    (case a22 => k_is)
    (case l22 => k_is)
    (case c22 => k_is)
    (case k22 => k_is)
    (case a23 => k_is)
    (case l23 => k_is)
    (case c23 => k_is)
    (case k23 => k_is)
    (case a24 => k_is)
    (case l24 => k_is)
    (case c24 => k_is)
    (case k24 => k_is)
    (case a25 => k_is)
    (case l25 => k_is)
    (case c25 => k_is)
    (case k25 => k_is)
    (case a26 => k_is)
    (case l26 => k_is)
    (case c26 => k_is)
    (case k26 => k_is)
    (case a27 => k_is)
    (case l27 => k_is)
    (case c27 => k_is)
    (case k27 => k_is)
    (case z_all => k_is)
    (case z_int => k_is)
    (case z_len => k_is)
    (case z_list => k_is)
    (case z_max => k_is)
    (case z_min => k_is)
    (case z_range => k_is)
    (case z_repr => k_is)
    (case z_reversed => k_is)
    (case z_sorted => k_is)
    (case z_tuple => k_is)
    (case z_zip => k_is)

