import PyProof.Rows.All
import Wide.All
import OpenK.AllK
import Wide.FinOn
import HandS.ForMost
import HandS.ForExc
import HandS.TupAny
import HandS.Wide
import HandS.WideBits
import HandS.Zip
import KE.GoesMore
import KE.GoesEnum
import KE.DataMinMax
import HandS.RevTup
import HandS.Rev
import HandS.TupMul
import HandS.Style
import HandS.Text
import HandS.SortInts
import HandS.SortRule
import HandS.Conv
import HandS.SetFor
import HandS.More
import PyProof.AutoSeq1
import HandS.IsInst
import HandS.Strs
import HandS.Dict
import HandS.Iter
import PySem.Challenge.RW_comparenets_k35_whole_gap_papers
set_option linter.all false
set_option autoImplicit false
set_option maxRecDepth 100000
set_option maxHeartbeats 4000000
set_option Elab.async false
/-! Part 1: values, results, denotations, and how they lie in the abstract heap. -/
namespace Vq
open PySem L2

inductive D where
  | non
  | bl (b : Bool)
  | int (i : Int)
  | str (s : Str)
  | tup (l : List D)
  | ref (n : Nat)
  | ftup (l : List D)
  | dic (ks : List Key) (l : List D)

inductive Cell where
  | lst (l : List D)
  | ro (l : List D)

abbrev VH := List Cell
abbrev VS := List (Option D)

structure Exn where
  cls : Str
  fs : List (Str × D)

inductive Res (α : Type) where
  | ok (a : α)
  | ex (x : Exn) (s : VS) (h : VH)
  | bad
instance {α : Type} : Inhabited (Res α) := ⟨.bad⟩

def Res.bind {α β : Type} (r : Res α) (f : α → Res β) : Res β :=
  match r with
  | .ok a => f a
  | .ex x s h => .ex x s h
  | .bad => .bad
@[simp] theorem Res.ok_bind {α β : Type} (a : α) (f : α → Res β) : (Res.ok a).bind f = f a := rfl
@[simp] theorem Res.ex_bind {α β : Type} (x : Exn) (s : VS) (h : VH) (f : α → Res β) : (Res.ex x s h : Res α).bind f = .ex x s h := rfl
@[simp] theorem Res.bad_bind {α β : Type} (f : α → Res β) : (Res.bad : Res α).bind f = .bad := rfl

inductive Out where
  | nx
  | rt (d : D)
  | bk
  | ct

abbrev VE := VS → VH → Res (D × VH)
abbrev VT := VS → VH → Res (Bool × VH)
abbrev VA := VS → VH → Res (List D × VH)
abbrev VSt := VS → VH → Res (Out × VS × VH)
abbrev VG := D → VS → VH → Res (VS × VH)
abbrev Fn := List D → VH → Res (D × VH)

/-! ### worlds -/
structure Wd where
  ι : Nat → Addr
  h : VH
  H : Hp

/-- a tuple whose object is known -/
def TpL (H : Hp) (a : Addr) (vs : List V) : Prop := ∃ ob, H a = some (.frz ob (.tup vs)) ∧ ob.cls = .type "tuple" ∧ ob.dict = none
theorem TpL.sq {K : PySem.W.Frag} {H : Hp} {a : Addr} {vs : List V} (h : TpL H a vs) : SqT K H a vs := h.elim fun ob h => .inl (.inr ⟨ob, h.1⟩)
/-- a dict that nobody writes to -/
def DkL (H : Hp) (a : Addr) (ks : List Key) (vs : List V) : Prop := ks.length = vs.length ∧ ∃ ob, H a = some (.frz ob (.dK (ks.zip vs)))
mutual
inductive RepV (K : PySem.W.Frag) (ι : Nat → Addr) (n : Nat) (H : Hp) : D → V → Prop where
  | non : RepV K ι n H .non .non
  | bl (b : Bool) : RepV K ι n H (.bl b) (.bl b)
  | int (i : Int) : RepV K ι n H (.int i) (.int i)
  | str (s : Str) : RepV K ι n H (.str s) (.str s)
  | tup {a : Addr} {vs : List V} {ds : List D} (h : SqT K H a vs) (r : RepL K ι n H ds vs) : RepV K ι n H (.tup ds) (.ref a)
  | ref {k : Nat} (h : k < n) : RepV K ι n H (.ref k) (.ref (ι k))
  | ftup {a : Addr} {vs : List V} {ds : List D} (h : TpL H a vs) (r : RepL K ι n H ds vs) : RepV K ι n H (.ftup ds) (.ref a)
  | dic {a : Addr} {ks : List Key} {vs : List V} {ds : List D} (h : DkL H a ks vs) (r : RepL K ι n H ds vs) : RepV K ι n H (.dic ks ds) (.ref a)
inductive RepL (K : PySem.W.Frag) (ι : Nat → Addr) (n : Nat) (H : Hp) : List D → List V → Prop where
  | nil : RepL K ι n H [] []
  | cons {d : D} {ds : List D} {v : V} {vs : List V} (h : RepV K ι n H d v) (r : RepL K ι n H ds vs) : RepL K ι n H (d :: ds) (v :: vs)
end

/-- a list that nobody writes to -/
def RoL (K : PySem.W.Frag) (H : Hp) (a : Addr) (vs : List V) : Prop :=
  (∃ ob, H a = some (.frz ob (.lst vs))) ∨
    ∃ (o : Obj) (its : Array Value) (n : Nat), K.lookup a = some o ∧ o.cls = .type "list" ∧ o.dict = none ∧ o.data = .seq its n ∧ its.size ≤ sizeLine ∧ Vals vs its.toList
theorem RoL.sq {K : PySem.W.Frag} {H : Hp} {a : Addr} {vs : List V} (h : RoL K H a vs) : SqL K H a vs := h.elim (fun q => .inl (.inr q)) .inr
def Cell.mut : Cell → Bool
  | .lst _ => true
  | .ro _ => false

def RepC (K : PySem.W.Frag) (ι : Nat → Addr) (n : Nat) (H : Hp) (c : Cell) (a : Addr) : Prop :=
  match c with
  | .lst ds => ∃ vs, H a = some (.lst vs) ∧ RepL K ι n H ds vs
  | .ro ds => ∃ vs, RoL K H a vs ∧ RepL K ι n H ds vs

abbrev Rp (K : PySem.W.Frag) (w : Wd) : D → V → Prop := RepV K w.ι w.h.length w.H
abbrev Rps (K : PySem.W.Frag) (w : Wd) : List D → List V → Prop := RepL K w.ι w.h.length w.H

structure Wd.Ok (K : PySem.W.Frag) (w : Wd) : Prop where
  cell : ∀ n c, w.h[n]? = some c → RepC K w.ι w.h.length w.H c (w.ι n)
  inj : ∀ n m c e, w.h[n]? = some c → w.h[m]? = some e → c.mut = true → e.mut = true → w.ι n = w.ι m → n = m

structure Wd.Ext (K : PySem.W.Frag) (w w' : Wd) : Prop where
  len : w.h.length ≤ w'.h.length
  ι : ∀ n, n < w.h.length → w'.ι n = w.ι n
  tup : ∀ a vs, SqT K w.H a vs → SqT K w'.H a vs
  tp : ∀ a vs, TpL w.H a vs → TpL w'.H a vs
  dk : ∀ a ks vs, DkL w.H a ks vs → DkL w'.H a ks vs
  dp : ∀ a kvs, w.H a = some (.dK kvs) → w'.H a = some (.dK kvs)

theorem Wd.Ext.refl {K : PySem.W.Frag} (w : Wd) : Wd.Ext K w w := ⟨Nat.le_refl _, fun _ _ => rfl, fun _ _ h => h, fun _ _ h => h, fun _ _ _ h => h, fun _ _ h => h⟩
theorem Wd.Ext.trans {K : PySem.W.Frag} {a b c : Wd} (x : Wd.Ext K a b) (y : Wd.Ext K b c) : Wd.Ext K a c :=
  ⟨Nat.le_trans x.len y.len, fun n h => (y.ι n (Nat.lt_of_lt_of_le h x.len)).trans (x.ι n h), fun q vs h => y.tup q vs (x.tup q vs h), fun q vs h => y.tp q vs (x.tp q vs h), fun q ks vs h => y.dk q ks vs (x.dk q ks vs h), fun q kvs h => y.dp q kvs (x.dp q kvs h)⟩

mutual
theorem RepV.ext {K : PySem.W.Frag} {ι ι' : Nat → Addr} {n n' : Nat} {H H' : Hp} (hn : n ≤ n') (hι : ∀ k, k < n → ι' k = ι k) (ht : ∀ a vs, SqT K H a vs → SqT K H' a vs) (hf : ∀ a vs, TpL H a vs → TpL H' a vs) (hd : ∀ a ks vs, DkL H a ks vs → DkL H' a ks vs) :
    ∀ {d : D} {v : V}, RepV K ι n H d v → RepV K ι' n' H' d v
  | _, _, .non => .non
  | _, _, .bl b => .bl b
  | _, _, .int i => .int i
  | _, _, .str s => .str s
  | _, _, .tup h r => .tup (ht _ _ h) (RepL.ext hn hι ht hf hd r)
  | _, _, .ftup h r => .ftup (hf _ _ h) (RepL.ext hn hι ht hf hd r)
  | _, _, .dic h r => .dic (hd _ _ _ h) (RepL.ext hn hι ht hf hd r)
  | _, _, .ref h => by
    rw [← hι _ h]
    exact .ref (Nat.lt_of_lt_of_le h hn)
theorem RepL.ext {K : PySem.W.Frag} {ι ι' : Nat → Addr} {n n' : Nat} {H H' : Hp} (hn : n ≤ n') (hι : ∀ k, k < n → ι' k = ι k) (ht : ∀ a vs, SqT K H a vs → SqT K H' a vs) (hf : ∀ a vs, TpL H a vs → TpL H' a vs) (hd : ∀ a ks vs, DkL H a ks vs → DkL H' a ks vs) :
    ∀ {d : List D} {v : List V}, RepL K ι n H d v → RepL K ι' n' H' d v
  | _, _, .nil => .nil
  | _, _, .cons h r => .cons (RepV.ext hn hι ht hf hd h) (RepL.ext hn hι ht hf hd r)
end
theorem Wd.Ext.rp {K : PySem.W.Frag} {w w' : Wd} (x : Wd.Ext K w w') {d : D} {v : V} (h : Rp K w d v) : Rp K w' d v := RepV.ext x.len x.ι x.tup x.tp x.dk h
theorem Wd.Ext.rps {K : PySem.W.Frag} {w w' : Wd} (x : Wd.Ext K w w') {d : List D} {v : List V} (h : Rps K w d v) : Rps K w' d v := RepL.ext x.len x.ι x.tup x.tp x.dk h

theorem RepL.length {K : PySem.W.Frag} {ι : Nat → Addr} {n : Nat} {H : Hp} : ∀ {ds : List D} {vs : List V}, RepL K ι n H ds vs → ds.length = vs.length
  | _, _, .nil => rfl
  | _, _, .cons _ r => congrArg (· + 1) r.length
theorem RepL.get {K : PySem.W.Frag} {ι : Nat → Addr} {n : Nat} {H : Hp} : ∀ {ds : List D} {vs : List V} {i : Nat} {d : D}, RepL K ι n H ds vs → ds[i]? = some d → ∃ v, vs[i]? = some v ∧ RepV K ι n H d v
  | _, _, i, _, .nil, h => by simp at h
  | _, _, 0, _, .cons r _, h => by
    simp at h
    subst h
    exact ⟨_, rfl, r⟩
  | _, _, i + 1, _, .cons _ r, h => by
    simp at h
    obtain ⟨v, e, q⟩ := r.get h
    exact ⟨v, by simpa using e, q⟩
theorem RepL.getv {K : PySem.W.Frag} {ι : Nat → Addr} {n : Nat} {H : Hp} : ∀ {ds : List D} {vs : List V} {i : Nat} {v : V}, RepL K ι n H ds vs → vs[i]? = some v → ∃ d, ds[i]? = some d ∧ RepV K ι n H d v
  | _, _, i, _, .nil, h => by simp at h
  | _, _, 0, _, .cons r _, h => by
    simp at h
    subst h
    exact ⟨_, rfl, r⟩
  | _, _, i + 1, _, .cons _ r, h => by
    simp at h
    obtain ⟨d, e, q⟩ := r.getv h
    exact ⟨d, by simpa using e, q⟩
theorem RepL.append {K : PySem.W.Frag} {ι : Nat → Addr} {n : Nat} {H : Hp} : ∀ {ds es : List D} {vs us : List V}, RepL K ι n H ds vs → RepL K ι n H es us → RepL K ι n H (ds ++ es) (vs ++ us)
  | _, _, _, _, .nil, r => r
  | _, _, _, _, .cons h t, r => .cons h (t.append r)
theorem RepL.set {K : PySem.W.Frag} {ι : Nat → Addr} {n : Nat} {H : Hp} {d : D} {v : V} (q : RepV K ι n H d v) : ∀ {ds : List D} {vs : List V} (i : Nat), RepL K ι n H ds vs → RepL K ι n H (ds.set i d) (vs.set i v)
  | _, _, _, .nil => .nil
  | _, _, 0, .cons _ t => .cons q t
  | _, _, i + 1, .cons h t => .cons h (t.set q i)
theorem RepL.take {K : PySem.W.Frag} {ι : Nat → Addr} {n : Nat} {H : Hp} : ∀ {ds : List D} {vs : List V} (i : Nat), RepL K ι n H ds vs → RepL K ι n H (ds.take i) (vs.take i)
  | _, _, _, .nil => by simp; exact .nil
  | _, _, 0, .cons _ t => .nil
  | _, _, i + 1, .cons h t => .cons h (t.take i)
theorem RepL.drop {K : PySem.W.Frag} {ι : Nat → Addr} {n : Nat} {H : Hp} : ∀ {ds : List D} {vs : List V} (i : Nat), RepL K ι n H ds vs → RepL K ι n H (ds.drop i) (vs.drop i)
  | _, _, _, .nil => by simp; exact .nil
  | _, _, 0, .cons h t => .cons h t
  | _, _, i + 1, .cons h t => t.drop i
theorem RepL.eraseIdx {K : PySem.W.Frag} {ι : Nat → Addr} {n : Nat} {H : Hp} : ∀ {ds : List D} {vs : List V} (i : Nat), RepL K ι n H ds vs → RepL K ι n H (ds.eraseIdx i) (vs.eraseIdx i)
  | _, _, _, .nil => .nil
  | _, _, 0, .cons h t => t
  | _, _, i + 1, .cons h t => .cons h (t.eraseIdx i)
theorem RepL.reverse {K : PySem.W.Frag} {ι : Nat → Addr} {n : Nat} {H : Hp} : ∀ {ds : List D} {vs : List V}, RepL K ι n H ds vs → RepL K ι n H ds.reverse vs.reverse
  | _, _, .nil => .nil
  | _, _, .cons h t => by
    simp only [List.reverse_cons]
    exact t.reverse.append (.cons h .nil)

/-! ### what a heap's step keeps -/
/-- a fresh object -/
theorem SqT.fresh {K : PySem.W.Frag} {H : Hp} {p a : Addr} {o : HO} {vs : List V} (hp : H p = none) (h : SqT K H a vs) : SqT K (upd H p o) a vs := by
  rcases h with h | h
  · refine .inl ?_
    have hne : a ≠ p := by
      rintro rfl
      rcases h with h | ⟨_, h⟩ <;> rw [hp] at h <;> cases h
    rcases h with h | ⟨ob, h⟩
    · exact .inl (by rw [upd_ne hne]; exact h)
    · exact .inr ⟨ob, by rw [upd_ne hne]; exact h⟩
  · exact .inr h
/-- a list's new items -/
theorem SqT.wrote {K : PySem.W.Frag} {H : Hp} {p a : Addr} {xs : List V} {o : HO} {vs : List V} (hp : H p = some (.lst xs)) (h : SqT K H a vs) : SqT K (upd H p o) a vs := by
  rcases h with h | h
  · refine .inl ?_
    have hne : a ≠ p := by
      rintro rfl
      rcases h with h | ⟨_, h⟩ <;> rw [hp] at h <;> cases h
    rcases h with h | ⟨ob, h⟩
    · exact .inl (by rw [upd_ne hne]; exact h)
    · exact .inr ⟨ob, by rw [upd_ne hne]; exact h⟩
  · exact .inr h
theorem RoL.fresh {K : PySem.W.Frag} {H : Hp} {p a : Addr} {o : HO} {vs : List V} (hp : H p = none) (h : RoL K H a vs) : RoL K (upd H p o) a vs := by
  rcases h with ⟨ob, h⟩ | h
  · have hne : a ≠ p := by
      rintro rfl
      rw [hp] at h
      cases h
    exact .inl ⟨ob, by rw [upd_ne hne]; exact h⟩
  · exact .inr h
theorem RoL.wrote {K : PySem.W.Frag} {H : Hp} {p a : Addr} {xs : List V} {o : HO} {vs : List V} (hp : H p = some (.lst xs)) (h : RoL K H a vs) : RoL K (upd H p o) a vs := by
  rcases h with ⟨ob, h⟩ | h
  · have hne : a ≠ p := by
      rintro rfl
      rw [hp] at h
      cases h
    exact .inl ⟨ob, by rw [upd_ne hne]; exact h⟩
  · exact .inr h

theorem TpL.fresh {H : Hp} {p a : Addr} {o : HO} {vs : List V} (hp : H p = none) (h : TpL H a vs) : TpL (upd H p o) a vs := by
  obtain ⟨ob, h, g⟩ := h
  have hne : a ≠ p := by
    rintro rfl
    rw [hp] at h
    cases h
  exact ⟨ob, by rw [upd_ne hne]; exact h, g⟩
theorem TpL.wrote {H : Hp} {p a : Addr} {xs : List V} {o : HO} {vs : List V} (hp : H p = some (.lst xs)) (h : TpL H a vs) : TpL (upd H p o) a vs := by
  obtain ⟨ob, h, g⟩ := h
  have hne : a ≠ p := by
    rintro rfl
    rw [hp] at h
    cases h
  exact ⟨ob, by rw [upd_ne hne]; exact h, g⟩

theorem DkL.fresh {H : Hp} {p a : Addr} {o : HO} {ks : List Key} {vs : List V} (hp : H p = none) (h : DkL H a ks vs) : DkL (upd H p o) a ks vs := by
  obtain ⟨hl, ob, h⟩ := h
  have hne : a ≠ p := by
    rintro rfl
    rw [hp] at h
    cases h
  exact ⟨hl, ob, by rw [upd_ne hne]; exact h⟩
theorem DkL.wrote {H : Hp} {p a : Addr} {xs : List V} {o : HO} {ks : List Key} {vs : List V} (hp : H p = some (.lst xs)) (h : DkL H a ks vs) : DkL (upd H p o) a ks vs := by
  obtain ⟨hl, ob, h⟩ := h
  have hne : a ≠ p := by
    rintro rfl
    rw [hp] at h
    cases h
  exact ⟨hl, ob, by rw [upd_ne hne]; exact h⟩

/-! ### worlds that step -/
/-- a new immutable object (a tuple) -/
def Wd.tupAt (w : Wd) (p : Addr) (o : HO) : Wd := ⟨w.ι, w.h, upd w.H p o⟩
theorem Wd.ext_tupAt {K : PySem.W.Frag} {w : Wd} {p : Addr} {o : HO} (hp : w.H p = none) : Wd.Ext K w (w.tupAt p o) :=
  ⟨Nat.le_refl _, fun _ _ => rfl, fun _ _ h => SqT.fresh hp h, fun _ _ h => TpL.fresh hp h, fun _ _ _ h => DkL.fresh hp h, fun a kvs h => (upd_ne (fun z => by rw [z, hp] at h; cases h)).trans h⟩
theorem Wd.Ok.tupAt {K : PySem.W.Frag} {w : Wd} (ok : w.Ok K) {p : Addr} {o : HO} (hp : w.H p = none) : (w.tupAt p o).Ok K := by
  refine ⟨fun n c e => ?_, ok.inj⟩
  have q := ok.cell n c e
  have x : Wd.Ext K w (w.tupAt p o) := Wd.ext_tupAt hp
  cases c with
  | lst ds =>
    obtain ⟨vs, h1, h2⟩ := q
    refine ⟨vs, ?_, x.rps h2⟩
    show upd w.H p o (w.ι n) = _
    rw [upd_ne (by intro z; rw [z, hp] at h1; cases h1)]
    exact h1
  | ro ds =>
    obtain ⟨vs, h1, h2⟩ := q
    exact ⟨vs, h1.fresh hp, x.rps h2⟩

/-- a new list -/
def Wd.newL (w : Wd) (p : Addr) (ds : List D) (vs : List V) : Wd := ⟨fun k => if k = w.h.length then p else w.ι k, w.h ++ [.lst ds], upd w.H p (.lst vs)⟩
theorem Wd.ext_newL {K : PySem.W.Frag} {w : Wd} {p : Addr} {ds : List D} {vs : List V} (hp : w.H p = none) : Wd.Ext K w (w.newL p ds vs) :=
  ⟨by simp [Wd.newL], fun n h => by
    show (if n = w.h.length then p else w.ι n) = w.ι n
    rw [if_neg (Nat.ne_of_lt h)], fun _ _ h => SqT.fresh hp h, fun _ _ h => TpL.fresh hp h, fun _ _ _ h => DkL.fresh hp h, fun a kvs h => (upd_ne (fun z => by rw [z, hp] at h; cases h)).trans h⟩
theorem Wd.Ok.newL {K : PySem.W.Frag} {w : Wd} (ok : w.Ok K) {p : Addr} {ds : List D} {vs : List V} (hp : w.H p = none) (r : Rps K w ds vs) : (w.newL p ds vs).Ok K := by
  have x : Wd.Ext K w (w.newL p ds vs) := Wd.ext_newL hp
  have at_ : ∀ n c, (w.newL p ds vs).h[n]? = some c → (n = w.h.length ∧ c = .lst ds) ∨ (n < w.h.length ∧ w.h[n]? = some c) := fun n c e => by
    have e' : (w.h ++ [Cell.lst ds])[n]? = some c := e
    by_cases hn : n < w.h.length
    · rw [List.getElem?_append_left hn] at e'
      exact .inr ⟨hn, e'⟩
    · rw [List.getElem?_append_right (by omega)] at e'
      have : n - w.h.length = 0 := by
        by_cases q : n - w.h.length = 0
        · exact q
        · rw [List.getElem?_eq_none (by simp; omega)] at e'
          cases e'
      rw [this] at e'
      exact .inl ⟨by omega, by simpa using e'.symm⟩
  have ι1 : ∀ n, n < w.h.length → (w.newL p ds vs).ι n = w.ι n := x.ι
  have ι2 : (w.newL p ds vs).ι w.h.length = p := if_pos rfl
  refine ⟨fun n c e => ?_, fun n m c e hn hm mc me q => ?_⟩
  · rcases at_ n c e with ⟨rfl, rfl⟩ | ⟨hn, e⟩
    · rw [ι2]
      exact ⟨vs, upd_same, x.rps r⟩
    · rw [ι1 n hn]
      have q := ok.cell n c e
      cases c with
      | lst es =>
        obtain ⟨us, h1, h2⟩ := q
        refine ⟨us, ?_, x.rps h2⟩
        show upd w.H p _ (w.ι n) = _
        rw [upd_ne (by intro z; rw [z, hp] at h1; cases h1)]
        exact h1
      | ro es =>
        obtain ⟨us, h1, h2⟩ := q
        exact ⟨us, h1.fresh hp, x.rps h2⟩
  · have there : ∀ n c, w.h[n]? = some c → c.mut = true → w.H (w.ι n) ≠ none := fun n c e mc => by
      have q := ok.cell n c e
      cases c with
      | lst es =>
        obtain ⟨us, h1, h2⟩ := q
        rw [h1]
        exact fun z => nomatch z
      | ro es => cases mc
    rcases at_ n c hn with ⟨rfl, rfl⟩ | ⟨hn', e1⟩
    · rcases at_ m e hm with ⟨rfl, rfl⟩ | ⟨hm', e2⟩
      · rfl
      · rw [ι2, ι1 m hm'] at q
        exact absurd (q ▸ hp) (there m e e2 me)
    · rcases at_ m e hm with ⟨rfl, rfl⟩ | ⟨hm', e2⟩
      · rw [ι2, ι1 n hn'] at q
        exact absurd (q ▸ hp) (there n c e1 mc)
      · rw [ι1 n hn', ι1 m hm'] at q
        exact ok.inj n m c e e1 e2 mc me q

/-- another thing in the place of a dict that nothing rests on -/
theorem dk_keep {K : PySem.W.Frag} {H : Hp} {p : Addr} {o : HO} {kvs : List (Key × V)} (hp : H p = some (.dK kvs)) :
    (∀ a vs, SqT K H a vs → SqT K (upd H p o) a vs) ∧ (∀ a vs, TpL H a vs → TpL (upd H p o) a vs) ∧ ∀ a ks vs, DkL H a ks vs → DkL (upd H p o) a ks vs := by
  refine ⟨fun a vs h => ?_, fun a vs h => ?_, fun a ks vs h => ?_⟩
  · rcases h with h | h
    · refine .inl ?_
      have hne : a ≠ p := by
        rintro rfl
        rcases h with h | ⟨_, h⟩ <;> rw [hp] at h <;> cases h
      rcases h with h | ⟨ob, h⟩
      · exact .inl (by rw [upd_ne hne]; exact h)
      · exact .inr ⟨ob, by rw [upd_ne hne]; exact h⟩
    · exact .inr h
  · obtain ⟨ob, h, g⟩ := h
    have hne : a ≠ p := by
      rintro rfl
      rw [hp] at h
      cases h
    exact ⟨ob, by rw [upd_ne hne]; exact h, g⟩
  · obtain ⟨hl, ob, h⟩ := h
    have hne : a ≠ p := by
      rintro rfl
      rw [hp] at h
      cases h
    exact ⟨hl, ob, by rw [upd_ne hne]; exact h⟩
theorem Wd.rp_dk {K : PySem.W.Frag} {w : Wd} {p : Addr} {o : HO} {kvs : List (Key × V)} (hp : w.H p = some (.dK kvs)) {d : D} {v : V} (r : Rp K w d v) : Rp K (w.tupAt p o) d v :=
  RepV.ext (Nat.le_refl _) (fun _ _ => rfl) (dk_keep hp).1 (dk_keep (K := K) hp).2.1 (dk_keep (K := K) hp).2.2 r
theorem Wd.rps_dk {K : PySem.W.Frag} {w : Wd} {p : Addr} {o : HO} {kvs : List (Key × V)} (hp : w.H p = some (.dK kvs)) {d : List D} {v : List V} (r : Rps K w d v) : Rps K (w.tupAt p o) d v :=
  RepL.ext (Nat.le_refl _) (fun _ _ => rfl) (dk_keep hp).1 (dk_keep (K := K) hp).2.1 (dk_keep (K := K) hp).2.2 r
theorem Wd.Ok.dkAt {K : PySem.W.Frag} {w : Wd} (ok : w.Ok K) {p : Addr} {o : HO} {kvs : List (Key × V)} (hp : w.H p = some (.dK kvs)) : (w.tupAt p o).Ok K := by
  refine ⟨fun n c e => ?_, ok.inj⟩
  have q := ok.cell n c e
  cases c with
  | lst ds =>
    obtain ⟨vs, h1, h2⟩ := q
    refine ⟨vs, ?_, Wd.rps_dk hp h2⟩
    show upd w.H p o (w.ι n) = _
    rw [upd_ne (by intro z; rw [z, hp] at h1; cases h1)]
    exact h1
  | ro ds =>
    obtain ⟨vs, h1, h2⟩ := q
    refine ⟨vs, ?_, Wd.rps_dk hp h2⟩
    rcases h1 with ⟨ob, h⟩ | h
    · refine .inl ⟨ob, ?_⟩
      show upd w.H p o (w.ι n) = _
      rw [upd_ne (by intro z; rw [z, hp] at h; cases h)]
      exact h
    · exact .inr h
/-- from before the dict was: as if nothing had been -/
theorem Wd.Ext.dkAt {K : PySem.W.Frag} {w w' : Wd} (x : Wd.Ext K w w') {p : Addr} {o : HO} {kvs : List (Key × V)} (h0 : w.H p = none) (hp : w'.H p = some (.dK kvs)) : Wd.Ext K w (w'.tupAt p o) :=
  ⟨x.len, x.ι, fun a vs h => (dk_keep hp).1 a vs (x.tup a vs h), fun a vs h => (dk_keep (K := K) hp).2.1 a vs (x.tp a vs h), fun a ks vs h => (dk_keep (K := K) hp).2.2 a ks vs (x.dk a ks vs h),
    fun a kvs h => (upd_ne (fun z => by rw [z, h0] at h; cases h)).trans (x.dp a kvs h)⟩
/-- a list's new items -/
def Wd.putL (w : Wd) (n : Nat) (ds : List D) (vs : List V) : Wd := ⟨w.ι, w.h.set n (.lst ds), upd w.H (w.ι n) (.lst vs)⟩
theorem Wd.ext_putL {K : PySem.W.Frag} {w : Wd} {n : Nat} {xs : List V} {ds : List D} {vs : List V} (hp : w.H (w.ι n) = some (.lst xs)) : Wd.Ext K w (w.putL n ds vs) :=
  ⟨by simp [Wd.putL], fun _ _ => rfl, fun _ _ h => SqT.wrote hp h, fun _ _ h => TpL.wrote hp h, fun _ _ _ h => DkL.wrote hp h, fun a kvs h => (upd_ne (fun z => by rw [z, hp] at h; cases h)).trans h⟩
theorem Wd.Ok.putL {K : PySem.W.Frag} {w : Wd} (ok : w.Ok K) {n : Nat} {es ds : List D} {vs : List V} (hn : w.h[n]? = some (.lst es)) (r : Rps K w ds vs) : (w.putL n ds vs).Ok K ∧ Wd.Ext K w (w.putL n ds vs) := by
  obtain ⟨xs, hp, _⟩ := ok.cell n _ hn
  have x : Wd.Ext K w (w.putL n ds vs) := Wd.ext_putL hp
  have hl : n < w.h.length := (List.getElem?_eq_some_iff.mp hn).1
  have at_ : ∀ m c, (w.putL n ds vs).h[m]? = some c → (m = n ∧ c = .lst ds) ∨ (m ≠ n ∧ w.h[m]? = some c) := fun m c e => by
    have e' : (w.h.set n (.lst ds))[m]? = some c := e
    by_cases hm : m = n
    · subst hm
      rw [List.getElem?_set_self hl] at e'
      exact .inl ⟨rfl, by simpa using e'.symm⟩
    · rw [List.getElem?_set_ne (fun z => hm z.symm)] at e'
      exact .inr ⟨hm, e'⟩
  refine ⟨⟨fun m c e => ?_, fun m k c e hm hk mc me q => ?_⟩, x⟩
  · rcases at_ m c e with ⟨rfl, rfl⟩ | ⟨hm, e⟩
    · exact ⟨vs, upd_same, x.rps r⟩
    · have q := ok.cell m c e
      cases c with
      | lst fs =>
        obtain ⟨us, h1, h2⟩ := q
        refine ⟨us, ?_, x.rps h2⟩
        show upd w.H (w.ι n) _ (w.ι m) = _
        rw [upd_ne (fun z => hm (ok.inj m n _ _ e hn rfl rfl z))]
        exact h1
      | ro fs =>
        obtain ⟨us, h1, h2⟩ := q
        exact ⟨us, h1.wrote hp, x.rps h2⟩
  · have old : ∀ m (c : Cell), (w.putL n ds vs).h[m]? = some c → c.mut = true → ∃ c' : Cell, w.h[m]? = some c' ∧ c'.mut = true := fun m c e mc => by
      rcases at_ m c e with ⟨rfl, rfl⟩ | ⟨hm, e⟩
      · exact ⟨_, hn, rfl⟩
      · exact ⟨c, e, mc⟩
    obtain ⟨c1, a1, b1⟩ := old m c hm mc
    obtain ⟨c2, a2, b2⟩ := old k e hk me
    exact ok.inj m k c1 c2 a1 a2 b1 b2 q
end Vq

/-! Part 2: the readings of denotations; rules for expressions. -/
namespace Vq
open PySem PySem.Spec PyProof.Rows L2

def Slots (K : PySem.W.Frag) (w : Wd) (s : VS) (σ : L2.St) : Prop :=
  s.length = σ.length ∧ ∀ (i : Nat) (d : D), s[i]? = some (some d) → ∃ v, σ[i]? = some (some v) ∧ Rp K w d v
theorem Slots.ext {K : PySem.W.Frag} {w w' : Wd} {s : VS} {σ : L2.St} (h : Slots K w s σ) (x : Wd.Ext K w w') : Slots K w' s σ :=
  ⟨h.1, fun i d e => let ⟨v, a, b⟩ := h.2 i d e; ⟨v, a, x.rp b⟩⟩
theorem Slots.set {K : PySem.W.Frag} {w : Wd} {s : VS} {σ : L2.St} (h : Slots K w s σ) (i : Nat) {d : D} {v : V} (r : Rp K w d v) : Slots K w (s.set i (some d)) (σ.set i (some v)) := by
  refine ⟨by simp [h.1], fun j e q => ?_⟩
  by_cases hj : i = j
  · subst hj
    by_cases hl : i < s.length
    · rw [List.getElem?_set_self hl] at q
      cases q
      exact ⟨v, List.getElem?_set_self (h.1 ▸ hl), r⟩
    · rw [List.getElem?_eq_none (by simp; omega)] at q
      cases q
  · rw [List.getElem?_set_ne hj] at q
    obtain ⟨u, a, b⟩ := h.2 j e q
    exact ⟨u, by rw [List.getElem?_set_ne hj]; exact a, b⟩

def RepX (K : PySem.W.Frag) (mg : Str → Option Value) (w : Wd) (x : Exn) (cls : Value) (d : Option Addr) : Prop :=
  mg x.cls = some cls ∧ ((x.fs = [] ∧ d = none) ∨
    ∃ a fs, d = some a ∧ x.fs ≠ [] ∧ w.H a = some (.xd fs) ∧ fs.map (·.1) = x.fs.map (·.1) ∧ Rps K w (x.fs.map (·.2)) (fs.map (·.2)))

section
variable (X : Cx) (W : WX)
def PstX (w0 : Wd) (x : Exn) (s : VS) (h : VH) : Prop := ∀ (w : Wd) (cls : Value) (d : Option Addr) (σ : L2.St), w.Ok X.K → w.h = h → Wd.Ext X.K w0 w → Slots X.K w s σ → RepX X.K X.mg w x cls d → W cls d σ w.H
def PstE (w : Wd) (r : Res (D × VH)) (Q : VK) : Prop :=
  match r with
  | .ok p => ∀ w' v, w'.Ok X.K → w'.h = p.2 → Wd.Ext X.K w w' → Rp X.K w' p.1 v → Q v w'.H
  | .ex x s h => PstX X W w x s h
  | .bad => False
def PstT (w : Wd) (r : Res (Bool × VH)) (Q : Bool → Hp → Prop) : Prop :=
  match r with
  | .ok p => ∀ w', w'.Ok X.K → w'.h = p.2 → Wd.Ext X.K w w' → Q p.1 w'.H
  | .ex x s h => PstX X W w x s h
  | .bad => False
def PstA (w : Wd) (r : Res (List D × VH)) (Q : List V → Hp → Prop) : Prop :=
  match r with
  | .ok p => ∀ w' vs, w'.Ok X.K → w'.h = p.2 → Wd.Ext X.K w w' → Rps X.K w' p.1 vs → Q vs w'.H
  | .ex x s h => PstX X W w x s h
  | .bad => False
def PstS (w : Wd) (r : Res (Out × VS × VH)) (E : Ends) : Prop :=
  match r with
  | .ok (.nx, s, h) => ∀ w' σ, w'.Ok X.K → w'.h = h → Wd.Ext X.K w w' → Slots X.K w' s σ → E.nx σ w'.H
  | .ok (.rt d, s, h) => ∀ w' v, w'.Ok X.K → w'.h = h → Wd.Ext X.K w w' → Rp X.K w' d v → E.rt v w'.H
  | .ok (.bk, s, h) => ∀ w' σ, w'.Ok X.K → w'.h = h → Wd.Ext X.K w w' → Slots X.K w' s σ → E.bk σ w'.H
  | .ok (.ct, s, h) => ∀ w' σ, w'.Ok X.K → w'.h = h → Wd.Ext X.K w w' → Slots X.K w' s σ → E.ct σ w'.H
  | .ex x s h => PstX X W w x s h
  | .bad => False
def PstG (w : Wd) (r : Res (VS × VH)) (Q : L2.St → Hp → Prop) : Prop :=
  match r with
  | .ok p => ∀ w' σ, w'.Ok X.K → w'.h = p.2 → Wd.Ext X.K w w' → Slots X.K w' p.1 σ → Q σ w'.H
  | .ex x s h => PstX X W w x s h
  | .bad => False

def gE (f : VE) : TE := fun σ H Q => ∃ w s, w.H = H ∧ w.Ok X.K ∧ Slots X.K w s σ ∧ PstE X W w (f s w.h) Q
def gT (f : VT) : TT := fun σ H Q => ∃ w s, w.H = H ∧ w.Ok X.K ∧ Slots X.K w s σ ∧ PstT X W w (f s w.h) Q
def gA (f : VA) : TA := fun σ H Q => ∃ w s, w.H = H ∧ w.Ok X.K ∧ Slots X.K w s σ ∧ PstA X W w (f s w.h) Q
def gS (f : VSt) : TS := fun E σ H => ∃ w s, w.H = H ∧ w.Ok X.K ∧ Slots X.K w s σ ∧ PstS X W w (f s w.h) E
def gG (f : VG) : TG := fun v σ H Q => ∃ w s d, w.H = H ∧ w.Ok X.K ∧ Slots X.K w s σ ∧ Rp X.K w d v ∧ PstG X W w (f d s w.h) Q

/-- a rule that has nothing to do with exceptions -/
def PstO (K : PySem.W.Frag) (w : Wd) (r : Option (D × VH)) (Q : VK) : Prop :=
  match r with
  | some p => ∀ w' v, w'.Ok K → w'.h = p.2 → Wd.Ext K w w' → Rp K w' p.1 v → Q v w'.H
  | none => False
end
def lift {α : Type} : Option α → Res α
  | some a => .ok a
  | none => .bad
@[simp] theorem lift_some {α : Type} (a : α) : lift (some a) = .ok a := rfl
@[simp] theorem lift_none {α : Type} : lift (none : Option α) = .bad := rfl

section
variable {X : Cx} {W : WX}
theorem PstE.lift {w : Wd} {r : Option (D × VH)} {Q : VK} (h : PstE X W w (lift r) Q) : PstO X.K w r Q := by
  cases r with
  | none => exact h
  | some p => exact h
theorem PstX.mono {w w1 : Wd} {x : Exn} {s : VS} {h : VH} (e : Wd.Ext X.K w w1) (p : PstX X W w x s h) : PstX X W w1 x s h :=
  fun w' cls d σ ok eh x' sl rx => p w' cls d σ ok eh (e.trans x') sl rx
theorem PstE.mono {w w1 : Wd} {r : Res (D × VH)} {Q : VK} (x : Wd.Ext X.K w w1) (h : PstE X W w r Q) : PstE X W w1 r Q := by
  cases r with
  | ok p => exact fun w' v ok e x' rp => h w' v ok e (x.trans x') rp
  | ex _ _ _ => exact PstX.mono x h
  | bad => exact h
theorem PstT.mono {w w1 : Wd} {r : Res (Bool × VH)} {Q : Bool → Hp → Prop} (x : Wd.Ext X.K w w1) (h : PstT X W w r Q) : PstT X W w1 r Q := by
  cases r with
  | ok p => exact fun w' ok e x' => h w' ok e (x.trans x')
  | ex _ _ _ => exact PstX.mono x h
  | bad => exact h
theorem PstA.mono {w w1 : Wd} {r : Res (List D × VH)} {Q : List V → Hp → Prop} (x : Wd.Ext X.K w w1) (h : PstA X W w r Q) : PstA X W w1 r Q := by
  cases r with
  | ok p => exact fun w' v ok e x' rp => h w' v ok e (x.trans x') rp
  | ex _ _ _ => exact PstX.mono x h
  | bad => exact h
theorem PstS.mono {w w1 : Wd} {r : Res (Out × VS × VH)} {Q : Ends} (x : Wd.Ext X.K w w1) (h : PstS X W w r Q) : PstS X W w1 r Q := by
  cases r with
  | ok p =>
    obtain ⟨o, s, hp⟩ := p
    cases o <;> exact fun w' v ok e x' rp => h w' v ok e (x.trans x') rp
  | ex _ _ _ => exact PstX.mono x h
  | bad => exact h
theorem PstG.mono {w w1 : Wd} {r : Res (VS × VH)} {Q : L2.St → Hp → Prop} (x : Wd.Ext X.K w w1) (h : PstG X W w r Q) : PstG X W w1 r Q := by
  cases r with
  | ok p => exact fun w' v ok e x' rp => h w' v ok e (x.trans x') rp
  | ex _ _ _ => exact PstX.mono x h
  | bad => exact h
theorem PstO.mono {K : PySem.W.Frag} {w w1 : Wd} {r : Option (D × VH)} {Q : VK} (x : Wd.Ext K w w1) (h : PstO K w r Q) : PstO K w1 r Q := by
  cases r with
  | some p => exact fun w' v ok e x' rp => h w' v ok e (x.trans x') rp
  | none => exact h

/-- what a continuation wants, whatever kind it is -/
structure Wants (X : Cx) (W : WX) (w : Wd) {β : Type} (P : Res β → Prop) : Prop where
  bad : ¬ P .bad
  ex : ∀ x s h, P (.ex x s h) → PstX X W w x s h
theorem Wants.mono {w w1 : Wd} {β : Type} {P : Res β → Prop} (a : Wants X W w P) (x : Wd.Ext X.K w w1) : Wants X W w1 P := ⟨a.bad, fun e s h q => (a.ex e s h q).mono x⟩
theorem wE (w : Wd) (Q : VK) : Wants X W w (fun r => PstE X W w r Q) := ⟨id, fun _ _ _ h => h⟩
theorem wT (w : Wd) (Q : Bool → Hp → Prop) : Wants X W w (fun r => PstT X W w r Q) := ⟨id, fun _ _ _ h => h⟩
theorem wA (w : Wd) (Q : List V → Hp → Prop) : Wants X W w (fun r => PstA X W w r Q) := ⟨id, fun _ _ _ h => h⟩
theorem wS (w : Wd) (Q : Ends) : Wants X W w (fun r => PstS X W w r Q) := ⟨id, fun _ _ _ h => h⟩
theorem wG (w : Wd) (Q : L2.St → Hp → Prop) : Wants X W w (fun r => PstG X W w r Q) := ⟨id, fun _ _ _ h => h⟩

theorem gE.seq {f : VE} {β : Type} {k : D × VH → Res β} {P : Res β → Prop} {w : Wd} {s : VS} {σ : L2.St} {Q : VK} (ok : w.Ok X.K) (sl : Slots X.K w s σ) (hP : Wants X W w P) (hp : P ((f s w.h).bind k))
    (hq : ∀ d w1 v, w1.Ok X.K → Wd.Ext X.K w w1 → Slots X.K w1 s σ → Rp X.K w1 d v → P (k (d, w1.h)) → Q v w1.H) : gE X W f σ w.H Q := by
  refine ⟨w, s, rfl, ok, sl, ?_⟩
  cases e : f s w.h with
  | ok p =>
    rw [e] at hp
    obtain ⟨p1, p2⟩ := p
    intro w' v ok' q x r
    refine hq p1 w' v ok' x (sl.ext x) r ?_
    rw [show w'.h = p2 from q]
    exact hp
  | ex x s h => rw [e] at hp; exact hP.ex _ _ _ hp
  | bad => rw [e] at hp; exact (hP.bad hp).elim
theorem gT.seq {f : VT} {β : Type} {k : Bool × VH → Res β} {P : Res β → Prop} {w : Wd} {s : VS} {σ : L2.St} {Q : Bool → Hp → Prop} (ok : w.Ok X.K) (sl : Slots X.K w s σ) (hP : Wants X W w P) (hp : P ((f s w.h).bind k))
    (hq : ∀ d w1, w1.Ok X.K → Wd.Ext X.K w w1 → Slots X.K w1 s σ → P (k (d, w1.h)) → Q d w1.H) : gT X W f σ w.H Q := by
  refine ⟨w, s, rfl, ok, sl, ?_⟩
  cases e : f s w.h with
  | ok p =>
    rw [e] at hp
    obtain ⟨p1, p2⟩ := p
    intro w' ok' q x
    refine hq p1 w' ok' x (sl.ext x) ?_
    rw [show w'.h = p2 from q]
    exact hp
  | ex x s h => rw [e] at hp; exact hP.ex _ _ _ hp
  | bad => rw [e] at hp; exact (hP.bad hp).elim
theorem gA.seq {f : VA} {β : Type} {k : List D × VH → Res β} {P : Res β → Prop} {w : Wd} {s : VS} {σ : L2.St} {Q : List V → Hp → Prop} (ok : w.Ok X.K) (sl : Slots X.K w s σ) (hP : Wants X W w P) (hp : P ((f s w.h).bind k))
    (hq : ∀ d w1 v, w1.Ok X.K → Wd.Ext X.K w w1 → Slots X.K w1 s σ → Rps X.K w1 d v → P (k (d, w1.h)) → Q v w1.H) : gA X W f σ w.H Q := by
  refine ⟨w, s, rfl, ok, sl, ?_⟩
  cases e : f s w.h with
  | ok p =>
    rw [e] at hp
    obtain ⟨p1, p2⟩ := p
    intro w' v ok' q x r
    refine hq p1 w' v ok' x (sl.ext x) r ?_
    rw [show w'.h = p2 from q]
    exact hp
  | ex x s h => rw [e] at hp; exact hP.ex _ _ _ hp
  | bad => rw [e] at hp; exact (hP.bad hp).elim

theorem PEw {e : Expr} {t t' : TE} (h : PE X e t) (i : ∀ σ H Q, t' σ H Q → t σ H Q) : PE X e t' := ⟨fun pins s σ H Q I q => h.run pins s σ H Q I (i σ H Q q)⟩
theorem PTw {e : Expr} {t t' : TT} (h : PT X e t) (i : ∀ σ H Q, t' σ H Q → t σ H Q) : PT X e t' := ⟨fun pins s σ H Q I q => h.run pins s σ H Q I (i σ H Q q)⟩
theorem PWw {e : Expr} {t t' : TT} (h : PW X e t) (i : ∀ σ H Q, t' σ H Q → t σ H Q) : PW X e t' := ⟨fun wh pins s σ H Q I q => h.run wh pins s σ H Q I (i σ H Q q)⟩
theorem PAw {e : List Expr} {t t' : TA} (h : PA X e t) (i : ∀ σ H Q, t' σ H Q → t σ H Q) : PA X e t' := ⟨fun pos pins s σ H Q I q => h.run pos pins s σ H Q I (i σ H Q q)⟩
theorem PSw {e : Stmt} {t t' : TS} (h : PS X e t) (i : ∀ D σ H, t' D σ H → t D σ H) : PS X e t' := ⟨fun pins s σ H D I q => h.run pins s σ H D I (i D σ H q)⟩
theorem PSsw {e : List Stmt} {t t' : TS} (h : PSs X e t) (i : ∀ D σ H, t' D σ H → t D σ H) : PSs X e t' := ⟨fun pins s σ H D I q => h.run pins s σ H D I (i D σ H q)⟩
theorem PGw {e : Expr} {t t' : TG} (h : PG X e t) (i : ∀ v σ H Q, t' v σ H Q → t v σ H Q) : PG X e t' := ⟨fun pins s σ H v u Q I r q => h.run pins s σ H v u Q I r (i v σ H Q q)⟩

/-! ### names and constants -/
def vVar (i : Nat) : VE := fun s h => match s[i]? with
  | some (some d) => .ok (d, h)
  | _ => .bad
def vC (d : D) : VE := fun _ h => .ok (d, h)
theorem qV {x : Str} {pos : Pos} {i : Nat} (hN : X.N[i]? = some x := by rfl) (hv : Vis X.env.scope x := by first | exact Or.inl rfl | exact Or.inr (Or.inl rfl) | exact Or.inr (Or.inr rfl))
    (hd : (x == ("__debug__" : Str)) = false := by decide) (hcd : (x == ("__classdict__" : Str)) = false := by decide) : PE X (.Name x pos) (gE X W (vVar i)) :=
  PEw (pe_var (i := i) hN hv hd hcd) fun σ H Q ⟨w, s, hH, ok, sl, hp⟩ => by
    subst hH
    unfold vVar at hp
    split at hp
    · rename_i d e
      obtain ⟨v, e', r⟩ := sl.2 i d e
      exact ⟨v, e', hp w v ok rfl (.refl w) r⟩
    · exact hp.elim
theorem qC {e : Expr} {d : D} {v : V} (h : PE X e (tC v)) (r : ∀ w : Wd, Rp X.K w d v) : PE X e (gE X W (vC d)) :=
  PEw h fun σ H Q ⟨w, s, hH, ok, sl, hp⟩ => by
    subst hH
    exact hp w v ok rfl (.refl w) (r w)
theorem qI {i : Int} {j} {pos : Pos} : PE X (.Constant (.int i) j pos) (gE X W (vC (.int i))) := qC pe_int fun _ => .int i
theorem qB {b : Bool} {j} {pos : Pos} : PE X (.Constant (.bool b) j pos) (gE X W (vC (.bl b))) := qC pe_bl fun _ => .bl b
theorem qN {j} {pos : Pos} : PE X (.Constant .none j pos) (gE X W (vC .non)) := qC pe_non fun _ => .non
theorem qS {x : Str} {j} {pos : Pos} : PE X (.Constant (.str x) j pos) (gE X W (vC (.str x))) := qC pe_str fun _ => .str x

/-! ### argument lists, displays -/
def vNil : VA := fun _ h => .ok ([], h)
def vCons (f : VE) (g : VA) : VA := fun s h => (f s h).bind fun p => (g s p.2).bind fun q => .ok (p.1 :: q.1, q.2)
theorem qa0 : PA X [] (gA X W vNil) := PAw pa_nil fun σ H Q ⟨w, s, hH, ok, sl, hp⟩ => by
  subst hH
  exact hp w [] ok rfl (.refl w) .nil
theorem qa {e : Expr} {es : List Expr} {f : VE} {g : VA} (ha : PE X e (gE X W f)) (hr : PA X es (gA X W g)) (hs : starEach (e :: es) X.env = (false, eval e X.env) :: starEach es X.env := by rfl) : PA X (e :: es) (gA X W (vCons f g)) :=
  PAw (pa_cons ha hr hs) fun σ H Q ⟨w, s, hH, ok, sl, hp⟩ => by
    subst hH
    refine gE.seq ok sl (wA w Q) hp fun d w1 v ok1 x1 sl1 r1 hp1 => ?_
    refine gA.seq ok1 sl1 ((wA w Q).mono x1) hp1 fun d2 w2 v2 ok2 x2 sl2 r2 hp2 => ?_
    exact hp2 w2 (v :: v2) ok2 rfl (x1.trans x2) (.cons (x2.rp r1) r2)
def vTup (g : VA) : VE := fun s h => (g s h).bind fun p => if p.1.length ≤ sizeLine then .ok (.tup p.1, p.2) else .bad
def vLst (g : VA) : VE := fun s h => (g s h).bind fun p => if p.1.length ≤ sizeLine then .ok (.ref p.2.length, p.2 ++ [.lst p.1]) else .bad
theorem at_newL {K : PySem.W.Frag} {w : Wd} {p : Addr} {ds : List D} {vs : List V} : Rp K (w.newL p ds vs) (.ref w.h.length) (.ref p) := by
  have q : RepV K (w.newL p ds vs).ι (w.newL p ds vs).h.length (w.newL p ds vs).H (.ref w.h.length) (.ref ((w.newL p ds vs).ι w.h.length)) := .ref (by simp [Wd.newL])
  have e : (w.newL p ds vs).ι w.h.length = p := if_pos rfl
  rw [e] at q
  exact q
theorem qTup {es : List Expr} {g : VA} {pos : Pos} {x1} (ha : PA X es (gA X W g)) : PE X (.Tuple es x1 pos) (gE X W (vTup g)) :=
  PEw (pe_tup ha) fun σ H Q ⟨w, s, hH, ok, sl, hp⟩ => by
    subst hH
    refine gA.seq ok sl (wE w Q) hp fun ds w1 vs ok1 x1 sl1 r1 hp1 => ?_
    simp only at hp1
    by_cases hl : ds.length ≤ sizeLine
    · rw [if_pos hl] at hp1
      refine ⟨by rw [← r1.length]; exact hl, fun p hn => ?_⟩
      exact hp1 (w1.tupAt p (.tup vs)) (.ref p) (ok1.tupAt hn) rfl (x1.trans (Wd.ext_tupAt hn)) (.tup (SqT.of upd_same) ((Wd.ext_tupAt hn).rps r1))
    · rw [if_neg hl] at hp1
      exact hp1.elim
theorem qLst {es : List Expr} {g : VA} {pos : Pos} (ha : PA X es (gA X W g)) : PE X (.List es pos) (gE X W (vLst g)) :=
  PEw (pe_lst ha) fun σ H Q ⟨w, s, hH, ok, sl, hp⟩ => by
    subst hH
    refine gA.seq ok sl (wE w Q) hp fun ds w1 vs ok1 x1 sl1 r1 hp1 => ?_
    simp only at hp1
    by_cases hl : ds.length ≤ sizeLine
    · rw [if_pos hl] at hp1
      refine ⟨by rw [← r1.length]; exact hl, fun p hn => ?_⟩
      exact hp1 (w1.newL p ds vs) (.ref p) (ok1.newL hn r1) rfl (x1.trans (Wd.ext_newL hn)) at_newL
    · rw [if_neg hl] at hp1
      exact hp1.elim

/-! ### operators by values -/
/-- what a two-place operation does upon values -/
def OpD (K : PySem.W.Frag) (r : R2) (f : D → D → VH → Option (D × VH)) : Prop :=
  ∀ (w : Wd) (x y : D) (vx vy : V) (Q : VK), w.Ok K → Rp K w x vx → Rp K w y vy → PstO K w (f x y w.h) Q → r vx vy w.H Q
def vOp (f : D → D → VH → Option (D × VH)) (a b : VE) : VE := fun s h => (a s h).bind fun p => (b s p.2).bind fun q => lift (f p.1 q.1 q.2)
theorem vop_red {r : R2} {f : D → D → VH → Option (D × VH)} {a b : VE} (hf : OpD X.K r f) {σ : L2.St} {H : Hp} {Q : VK} (h : gE X W (vOp f a b) σ H Q) : tOp r (gE X W a) (gE X W b) σ H Q := by
  obtain ⟨w, s, hH, ok, sl, hp⟩ := h
  subst hH
  refine gE.seq ok sl (wE w Q) hp fun d w1 v ok1 x1 sl1 r1 hp1 => ?_
  refine gE.seq ok1 sl1 ((wE w Q).mono x1) hp1 fun d2 w2 v2 ok2 x2 sl2 r2 hp2 => ?_
  exact hf w2 d d2 v v2 Q ok2 (x2.rp r1) r2 (hp2.lift.mono (x1.trans x2))
theorem qOp {op : Operator} {r : R2} {f : D → D → VH → Option (D × VH)} {a b : Expr} {fa fb : VE} {pos : Pos} (ho : OpR X (binaryOp op) r) (hf : OpD X.K r f) (ha : PE X a (gE X W fa)) (hb : PE X b (gE X W fb)) : PE X (.BinOp a op b pos) (gE X W (vOp f fa fb)) :=
  PEw (pe_op ho ha hb) fun _ _ _ h => vop_red hf h
theorem qCm {op : CmpOp} {r : R2} {f : D → D → VH → Option (D × VH)} {a b : Expr} {fa fb : VE} {pos : Pos} (ho : OpR X (compareOp op) r) (hf : OpD X.K r f) (ha : PE X a (gE X W fa)) (hb : PE X b (gE X W fb))
    (hm : behindInMarks op b = false := by first | exact nomark _ | rfl) : PE X (.Compare a [op] [b] pos) (gE X W (vOp f fa fb)) :=
  PEw (pe_cmpR ho ha hb hm) fun _ _ _ h => vop_red hf h
/-- tests: the truth of a value -/
def vTr (f : VE) : VT := fun s h => (f s h).bind fun p => match p.1 with
  | .bl b => .ok (b, p.2)
  | _ => .bad
theorem vtr_red {a : VE} {σ : L2.St} {H : Hp} {Q : Bool → Hp → Prop} (h : gT X W (vTr a) σ H Q) : tB (gE X W a) σ H Q := by
  obtain ⟨w, s, hH, ok, sl, hp⟩ := h
  subst hH
  refine gE.seq ok sl (wT w Q) hp fun d w1 v ok1 x1 sl1 r1 hp1 => ?_
  cases r1 with
  | bl b => exact ⟨b, rfl, hp1 w1 ok1 rfl x1⟩
  | _ => exact hp1.elim
theorem qCmT {op : CmpOp} {r : R2} {f : D → D → VH → Option (D × VH)} {a b : Expr} {fa fb : VE} {pos : Pos} (ho : OpR X (compareOp op) r) (hf : OpD X.K r f) (ha : PE X a (gE X W fa)) (hb : PE X b (gE X W fb))
    (hm : behindInMarks op b = false := by first | exact nomark _ | rfl) : PT X (.Compare a [op] [b] pos) (gT X W (vTr (vOp f fa fb))) :=
  PTw (pt_cmpR ho ha hb hm) fun _ _ _ h => by
    have q := vtr_red h
    obtain ⟨w, s, hH, ok, sl, hp⟩ := q
    exact vop_red hf ⟨w, s, hH, ok, sl, hp⟩
/-- a value as a test -/
theorem qT {e : Expr} {f : VE} (h : PE X e (gE X W f)) (he : ∀ whole, isTrue e X.env whole = (do let v ← whole; standAt e.pos; holding [v] (truthy v)) := by intro _; rfl) : PT X e (gT X W (vTr f)) :=
  PTw (pt_val h he) fun _ _ _ h => vtr_red h

/-! ### and, or, not, if else -/
def vNotT (f : VT) : VT := fun s h => (f s h).bind fun p => .ok (!p.1, p.2)
def vAndT (f g : VT) : VT := fun s h => (f s h).bind fun p => if p.1 = true then g s p.2 else .ok (false, p.2)
def vOrT (f g : VT) : VT := fun s h => (f s h).bind fun p => if p.1 = true then .ok (true, p.2) else g s p.2
theorem qNotT {a : Expr} {f : VT} {pos : Pos} (ha : PT X a (gT X W f)) : PT X (.UnaryOp .Not a pos) (gT X W (vNotT f)) :=
  PTw (pt_not ha) fun σ H Q ⟨w, s, hH, ok, sl, hp⟩ => by
    subst hH
    exact gT.seq ok sl (wT w Q) hp fun d w1 ok1 x1 sl1 hp1 => hp1 w1 ok1 rfl x1
theorem qAnd1 {a : Expr} {f : VT} {pos : Pos} (ha : PT X a (gT X W f)) : PW X (.BoolOp .And [a] pos) (gT X W f) := pw_and1 ha
theorem qOr1 {a : Expr} {f : VT} {pos : Pos} (ha : PT X a (gT X W f)) : PW X (.BoolOp .Or [a] pos) (gT X W f) := pw_or1 ha
theorem qAndT {a b : Expr} {rest : List Expr} {f g : VT} {pos : Pos} (ha : PT X a (gT X W f)) (hb : PW X (.BoolOp .And (b :: rest) pos) (gT X W g)) : PW X (.BoolOp .And (a :: b :: rest) pos) (gT X W (vAndT f g)) :=
  PWw (pw_and ha hb) fun σ H Q ⟨w, s, hH, ok, sl, hp⟩ => by
    subst hH
    refine gT.seq ok sl (wT w Q) hp fun d w1 ok1 x1 sl1 hp1 => ?_
    cases d with
    | true =>
      simp only [if_true] at hp1 ⊢
      exact ⟨w1, s, rfl, ok1, sl1, hp1.mono x1⟩
    | false =>
      simp only [Bool.false_eq_true, if_false] at hp1 ⊢
      exact hp1 w1 ok1 rfl x1
theorem qOrT {a b : Expr} {rest : List Expr} {f g : VT} {pos : Pos} (ha : PT X a (gT X W f)) (hb : PW X (.BoolOp .Or (b :: rest) pos) (gT X W g)) : PW X (.BoolOp .Or (a :: b :: rest) pos) (gT X W (vOrT f g)) :=
  PWw (pw_or ha hb) fun σ H Q ⟨w, s, hH, ok, sl, hp⟩ => by
    subst hH
    refine gT.seq ok sl (wT w Q) hp fun d w1 ok1 x1 sl1 hp1 => ?_
    cases d with
    | true =>
      simp only [if_true] at hp1 ⊢
      exact hp1 w1 ok1 rfl x1
    | false =>
      simp only [Bool.false_eq_true, if_false] at hp1 ⊢
      exact ⟨w1, s, rfl, ok1, sl1, hp1.mono x1⟩
/-- as values: all but the last True or False -/
def vAnd (f g : VE) : VE := fun s h => (f s h).bind fun p => match p.1 with
  | .bl true => g s p.2
  | .bl false => .ok (.bl false, p.2)
  | _ => .bad
def vOr (f g : VE) : VE := fun s h => (f s h).bind fun p => match p.1 with
  | .bl true => .ok (.bl true, p.2)
  | .bl false => g s p.2
  | _ => .bad
def vNot (f : VE) : VE := fun s h => (f s h).bind fun p => match p.1 with
  | .bl b => .ok (.bl (!b), p.2)
  | _ => .bad
theorem qOne {op : PySem.BoolOp} {a : Expr} {f : VE} {pos : Pos} (h : PE X a (gE X W f)) : PE X (.BoolOp op [a] pos) (gE X W f) := pe_one h
theorem qAnd {a b : Expr} {rest : List Expr} {f g : VE} {pos : Pos} (ha : PE X a (gE X W f)) (hb : PE X (.BoolOp .And (b :: rest) pos) (gE X W g)) : PE X (.BoolOp .And (a :: b :: rest) pos) (gE X W (vAnd f g)) :=
  PEw (pe_and ha hb) fun σ H Q ⟨w, s, hH, ok, sl, hp⟩ => by
    subst hH
    refine gE.seq ok sl (wE w Q) hp fun d w1 v ok1 x1 sl1 r1 hp1 => ?_
    cases r1 with
    | bl b =>
      refine ⟨b, rfl, ?_⟩
      cases b with
      | true =>
        simp only [if_true] at hp1 ⊢
        exact ⟨w1, s, rfl, ok1, sl1, hp1.mono x1⟩
      | false =>
        simp only [Bool.false_eq_true, if_false] at hp1 ⊢
        exact hp1 w1 _ ok1 rfl x1 (.bl _)
    | _ => exact hp1.elim
theorem qOr {a b : Expr} {rest : List Expr} {f g : VE} {pos : Pos} (ha : PE X a (gE X W f)) (hb : PE X (.BoolOp .Or (b :: rest) pos) (gE X W g)) : PE X (.BoolOp .Or (a :: b :: rest) pos) (gE X W (vOr f g)) :=
  PEw (pe_or ha hb) fun σ H Q ⟨w, s, hH, ok, sl, hp⟩ => by
    subst hH
    refine gE.seq ok sl (wE w Q) hp fun d w1 v ok1 x1 sl1 r1 hp1 => ?_
    cases r1 with
    | bl b =>
      refine ⟨b, rfl, ?_⟩
      cases b with
      | false =>
        simp only [Bool.false_eq_true, if_false] at hp1 ⊢
        exact ⟨w1, s, rfl, ok1, sl1, hp1.mono x1⟩
      | true =>
        simp only [if_true] at hp1 ⊢
        exact hp1 w1 _ ok1 rfl x1 (.bl _)
    | _ => exact hp1.elim
theorem qNot {a : Expr} {f : VE} {pos : Pos} (ha : PE X a (gE X W f)) : PE X (.UnaryOp .Not a pos) (gE X W (vNot f)) :=
  PEw (pe_not ha) fun σ H Q ⟨w, s, hH, ok, sl, hp⟩ => by
    subst hH
    refine gE.seq ok sl (wE w Q) hp fun d w1 v ok1 x1 sl1 r1 hp1 => ?_
    cases r1 with
    | bl b => exact ⟨b, rfl, hp1 w1 _ ok1 rfl x1 (.bl _)⟩
    | _ => exact hp1.elim
def vIf (c : VT) (f g : VE) : VE := fun s h => (c s h).bind fun p => if p.1 = true then f s p.2 else g s p.2
theorem qIf {c a b : Expr} {t : VT} {f g : VE} {pos : Pos} (hc : PT X c (gT X W t)) (ha : PE X a (gE X W f)) (hb : PE X b (gE X W g)) : PE X (.IfExp c a b pos) (gE X W (vIf t f g)) :=
  PEw (pe_ifExp hc ha hb) fun σ H Q ⟨w, s, hH, ok, sl, hp⟩ => by
    subst hH
    refine gT.seq ok sl (wE w Q) hp fun d w1 ok1 x1 sl1 hp1 => ?_
    cases d with
    | true =>
      simp only [if_true] at hp1 ⊢
      exact ⟨w1, s, rfl, ok1, sl1, hp1.mono x1⟩
    | false =>
      simp only [Bool.false_eq_true, if_false] at hp1 ⊢
      exact ⟨w1, s, rfl, ok1, sl1, hp1.mono x1⟩

/-! ### one-place operations; calls of built-ins by values -/
def UnD (K : PySem.W.Frag) (r : V → Hp → VK → Prop) (f : D → VH → Option (D × VH)) : Prop :=
  ∀ (w : Wd) (x : D) (vx : V) (Q : VK), w.Ok K → Rp K w x vx → PstO K w (f x w.h) Q → r vx w.H Q
def vUn (f : D → VH → Option (D × VH)) (a : VE) : VE := fun s h => (a s h).bind fun p => lift (f p.1 p.2)
theorem qUn {op : UnaryOp} {r : V → Hp → VK → Prop} {f : D → VH → Option (D × VH)} {a : Expr} {fa : VE} {pos : Pos} (ho : UnR X (unaryOp op) r) (hf : UnD X.K r f) (ha : PE X a (gE X W fa)) : PE X (.UnaryOp op a pos) (gE X W (vUn f fa)) :=
  PEw (pe_un ho ha) fun σ H Q ⟨w, s, hH, ok, sl, hp⟩ => by
    subst hH
    refine gE.seq ok sl (wE w Q) hp fun d w1 v ok1 x1 sl1 r1 hp1 => ?_
    exact hf w1 d v Q ok1 r1 (hp1.lift.mono x1)
def CallD (K : PySem.W.Frag) (r : List V → Hp → VK → Prop) (f : List D → VH → Option (D × VH)) : Prop :=
  ∀ (w : Wd) (xs : List D) (vs : List V) (Q : VK), w.Ok K → Rps K w xs vs → PstO K w (f xs w.h) Q → r vs w.H Q
def vBl (f : List D → VH → Option (D × VH)) (a : VA) : VE := fun s h => (a s h).bind fun p => lift (f p.1 p.2)
theorem vbl_red {r : List V → Hp → VK → Prop} {f : List D → VH → Option (D × VH)} {a : VA} (hf : CallD X.K r f) {σ : L2.St} {H : Hp} {Q : VK} (h : gE X W (vBl f a) σ H Q) : tCB r (gA X W a) σ H Q := by
  obtain ⟨w, s, hH, ok, sl, hp⟩ := h
  subst hH
  refine gA.seq ok sl (wE w Q) hp fun d w1 v ok1 x1 sl1 r1 hp1 => ?_
  exact hf w1 d v Q ok1 r1 (hp1.lift.mono x1)
theorem qBl {x : Str} {id : String} {p pos : Pos} {e : Expr} {es : List Expr} {g : VA} {r : List V → Hp → VK → Prop} {f : List D → VH → Option (D × VH)} (hc : CallR X (.builtin id) r) (hf : CallD X.K r f) (hm : X.mg x = none) (ha : PA X (e :: es) (gA X W g))
    (hg : Gl X x := by rfl) (hv : bootBuiltins x = some (.builtin id) := by decide +kernel) (hn : x ≠ "__name__" := by decide) (hdb : (x == ("__debug__" : Str)) = false := by decide)
    (he : starEach (e :: es) X.env = (false, eval e X.env) :: starEach es X.env := by rfl) (hpl : (backTo pos (starEach es X.env)).any (·.1) = false := by rfl) : PE X (.Call (.Name x p) (e :: es) [] pos) (gE X W (vBl f g)) :=
  PEw (pe_callB hc hg hm hv ha hn hdb he hpl) fun _ _ _ h => vbl_red hf h
theorem qTy {x : Str} {T : String} {p pos : Pos} {e : Expr} {es : List Expr} {g : VA} {r : List V → Hp → VK → Prop} {f : List D → VH → Option (D × VH)} (hc : CallR X (.type T) r) (hf : CallD X.K r f) (hm : X.mg x = none) (ha : PA X (e :: es) (gA X W g))
    (hg : Gl X x := by rfl) (hv : bootBuiltins x = some (.type T) := by decide +kernel) (hn : x ≠ "__name__" := by decide) (hdb : (x == ("__debug__" : Str)) = false := by decide)
    (he : starEach (e :: es) X.env = (false, eval e X.env) :: starEach es X.env := by rfl) (hpl : (backTo pos (starEach es X.env)).any (·.1) = false := by rfl) : PE X (.Call (.Name x p) (e :: es) [] pos) (gE X W (vBl f g)) :=
  PEw (pe_callTy hc hg hm hv ha hn hdb he hpl) fun _ _ _ h => vbl_red hf h

/-! ### subscripts and slices -/
theorem qIx {r : R2} {f : D → D → VH → Option (D × VH)} {a b : Expr} {fa fb : VE} {pos : Pos} (ho : IxR X r) (hf : OpD X.K r f) (ha : PE X a (gE X W fa)) (hb : PE X b (gE X W fb)) (hs : PlainIx b := by exact fun _ _ => rfl) : PE X (.Subscript a b pos) (gE X W (vOp f fa fb)) :=
  PEw (pe_ix ho ha hb hs) fun _ _ _ h => vop_red hf h
end
end Vq

/-! Part 3: statements, targets, loops, comprehensions. -/
namespace Vq
open PySem PySem.Spec PyProof.Rows L2

/-! ### blocks -/
def vSeq (f g : VSt) : VSt := fun s h => (f s h).bind fun p => match p with
  | (.nx, s', h') => g s' h'
  | q => .ok q
def vPass : VSt := fun s h => .ok (.nx, s, h)
def vBreak : VSt := fun s h => .ok (.bk, s, h)
def vCont : VSt := fun s h => .ok (.ct, s, h)
def vRet (f : VE) : VSt := fun s h => (f s h).bind fun p => .ok (.rt p.1, s, p.2)
def vRetN : VSt := fun s h => .ok (.rt .non, s, h)
def vDrop (f : VE) : VSt := fun s h => (f s h).bind fun p => .ok (.nx, s, p.2)
def vIfS (c : VT) (f g : VSt) : VSt := fun s h => (c s h).bind fun p => if p.1 = true then f s p.2 else g s p.2
def vAsg (f : VE) (g : VG) : VSt := fun s h => (f s h).bind fun p => (g p.1 s p.2).bind fun q => .ok (.nx, q.1, q.2)
def gName (i : Nat) : VG := fun d s h => .ok (s.set i (some d), h)
abbrev VGs := List D → VS → VH → Res (VS × VH)
def gsNil : VGs := fun l s h => match l with
  | [] => .ok (s, h)
  | _ => .bad
def gsCons (g : VG) (k : VGs) : VGs := fun l s h => match l with
  | d :: r => (g d s h).bind fun p => k r p.1 p.2
  | [] => .bad
def gTupl (n : Nat) (k : VGs) : VG := fun d s h => match d with
  | .tup l => if l.length = n then k l s h else .bad
  | _ => .bad
/-- a store at o[i] by values: new heap -/
def SetD (K : PySem.W.Frag) (t : TSet) (f : D → D → D → VH → Option VH) : Prop :=
  ∀ (w : Wd) (o i d : D) (vo vi vd : V) (Q : Hp → Prop), w.Ok K → Rp K w o vo → Rp K w i vi → Rp K w d vd → (match f o i d w.h with
    | some h => ∀ w', w'.Ok K → w'.h = h → Wd.Ext K w w' → Q w'.H
    | none => False) → t vo vi vd w.H Q
def gSubs (f : D → D → D → VH → Option VH) (o i : VE) : VG := fun d s h => (o s h).bind fun p => (i s p.2).bind fun q => (lift (f p.1 q.1 d q.2)).bind fun h' => .ok (s, h')

section
variable {X : Cx} {W : WX}
theorem qsNil : PSs X [] (gS X W vPass) := PSsw pss_nil fun D σ H ⟨w, s, hH, ok, sl, hp⟩ => by
  subst hH
  exact hp w σ ok rfl (.refl w) sl
theorem vseq_red {f g : VSt} {D : Ends} {σ : L2.St} {H : Hp} (h : gS X W (vSeq f g) D σ H) : gS X W f { D with nx := gS X W g D } σ H := by
  obtain ⟨w, s, hH, ok, sl, hp⟩ := h
  refine ⟨w, s, hH, ok, sl, ?_⟩
  unfold vSeq at hp
  cases e : f s w.h with
  | bad => rw [e] at hp; exact hp
  | ex x s' h' => rw [e] at hp; exact hp
  | ok p =>
    rw [e] at hp
    obtain ⟨o, s', h'⟩ := p
    cases o with
    | nx =>
      intro w' σ' ok' e' x' sl'
      refine ⟨w', s', rfl, ok', sl', ?_⟩
      rw [e']
      exact PstS.mono x' hp
    | rt d => exact hp
    | bk => exact hp
    | ct => exact hp
theorem qsCons {st : Stmt} {rest : List Stmt} {f g : VSt} (h1 : PS X st (gS X W f)) (h2 : PSs X rest (gS X W g)) : PSs X (st :: rest) (gS X W (vSeq f g)) :=
  PSsw (pss_cons h1 h2) fun _ _ _ h => vseq_red h
theorem qsOne {st : Stmt} {f : VSt} (h1 : PS X st (gS X W f)) : PSs X [st] (gS X W f) := pss_one h1
theorem qPass {pos : Pos} : PS X (.Pass pos) (gS X W vPass) := PSw ps_pass fun D σ H ⟨w, s, hH, ok, sl, hp⟩ => by
  subst hH
  exact hp w σ ok rfl (.refl w) sl
theorem qBreak {pos : Pos} : PS X (.Break pos) (gS X W vBreak) := PSw ps_break fun D σ H ⟨w, s, hH, ok, sl, hp⟩ => by
  subst hH
  exact hp w σ ok rfl (.refl w) sl
theorem qCont {pos : Pos} : PS X (.Continue pos) (gS X W vCont) := PSw ps_continue fun D σ H ⟨w, s, hH, ok, sl, hp⟩ => by
  subst hH
  exact hp w σ ok rfl (.refl w) sl
theorem qRet {e : Expr} {f : VE} {pos : Pos} (h : PE X e (gE X W f)) : PS X (.Return (some e) pos) (gS X W (vRet f)) := PSw (ps_ret h) fun D σ H ⟨w, s, hH, ok, sl, hp⟩ => by
  subst hH
  exact gE.seq ok sl (wS w D) hp fun d w1 v ok1 x1 sl1 r1 hp1 => hp1 w1 v ok1 rfl x1 r1
theorem qRetN {pos : Pos} : PS X (.Return none pos) (gS X W vRetN) := PSw ps_retN fun D σ H ⟨w, s, hH, ok, sl, hp⟩ => by
  subst hH
  exact hp w .non ok rfl (.refl w) .non
theorem qDrop {e : Expr} {f : VE} {pos : Pos} (h : PE X e (gE X W f)) (hs : swapsWith e none pos.line X.env = pure false := by rfl) : PS X (.Expr e pos) (gS X W (vDrop f)) := PSw (ps_expr h hs) fun D σ H ⟨w, s, hH, ok, sl, hp⟩ => by
  subst hH
  exact gE.seq ok sl (wS w D) hp fun d w1 v ok1 x1 sl1 r1 hp1 => hp1 w1 σ ok1 rfl x1 sl1
theorem qIfS {c : Expr} {a b : List Stmt} {t : VT} {f g : VSt} {pos : Pos} (hc : PT X c (gT X W t)) (ha : PSs X a (gS X W f)) (hb : PSs X b (gS X W g)) : PS X (.If c a b pos) (gS X W (vIfS t f g)) := PSw (ps_if hc ha hb) fun D σ H ⟨w, s, hH, ok, sl, hp⟩ => by
  subst hH
  refine gT.seq ok sl (wS w D) hp fun d w1 ok1 x1 sl1 hp1 => ?_
  cases d with
  | true =>
    simp only [if_true] at hp1 ⊢
    exact ⟨w1, s, rfl, ok1, sl1, hp1.mono x1⟩
  | false =>
    simp only [Bool.false_eq_true, if_false] at hp1 ⊢
    exact ⟨w1, s, rfl, ok1, sl1, hp1.mono x1⟩

/-! ### targets -/
theorem qgN {i : Nat} {x : Str} {pos : Pos} (hN : X.N.Nodup) (hi : X.N[i]? = some x := by rfl) (hx : Loc X.env.scope x := by first | exact Or.inl rfl | exact Or.inr rfl) (hf : X.fn x = true ∨ X.env.scope.names.lookup x = some .local := by first | exact .inl rfl | exact .inr rfl | assumption) :
    PG X (.Name x pos) (gG X W (gName i)) := PGw (pg_name hN hi hx hf) fun v σ H Q ⟨w, s, d, hH, ok, sl, r, hp⟩ => by
  subst hH
  exact hp w _ ok rfl (.refl w) (sl.set i r)
def gGs (X : Cx) (W : WX) (f : VGs) : TGs := fun vs σ H Q => ∃ w s ds, w.H = H ∧ w.Ok X.K ∧ Slots X.K w s σ ∧ Rps X.K w ds vs ∧ PstG X W w (f ds s w.h) Q
theorem PGsw {e : List Expr} {t t' : TGs} (h : PGs X e t) (i : ∀ v σ H Q, t' v σ H Q → t v σ H Q) : PGs X e t' := ⟨fun pins s σ H v u Q I r q => h.run pins s σ H v u Q I r (i v σ H Q q)⟩
theorem qgs0 : PGs X [] (gGs X W gsNil) := PGsw pgs_nil fun v σ H Q ⟨w, s, ds, hH, ok, sl, r, hp⟩ => by
  subst hH
  cases r with
  | nil => exact ⟨rfl, hp w σ ok rfl (.refl w) sl⟩
  | cons _ _ => exact hp.elim
theorem qgs {e : Expr} {es : List Expr} {g : VG} {k : VGs} (h1 : PG X e (gG X W g)) (h2 : PGs X es (gGs X W k)) (hs : (assignEach (e :: es) X.env).map (·.2) = assign e X.env :: (assignEach es X.env).map (·.2) := by rfl) : PGs X (e :: es) (gGs X W (gsCons g k)) :=
  PGsw (pgs_cons h1 h2 hs) fun v σ H Q ⟨w, s, ds, hH, ok, sl, r, hp⟩ => by
    subst hH
    cases r with
    | nil => exact hp.elim
    | @cons d ds v vs r rr =>
      refine ⟨_, _, rfl, w, s, _, rfl, ok, sl, r, ?_⟩
      unfold gsCons at hp
      cases e' : g d s w.h with
      | bad => simp only [e'] at hp; exact hp
      | ex _ _ _ => simp only [e'] at hp; exact hp
      | ok p =>
        simp only [e'] at hp
        intro w' σ' ok' eh x' sl'
        refine ⟨w', p.1, ds, rfl, ok', sl', x'.rps rr, ?_⟩
        rw [eh]
        exact PstG.mono x' hp
theorem qgT {es : List Expr} {k : VGs} {n m : Nat} {pos : Pos} (hc : X.calm = true) (h : PGs X es (gGs X W k)) (hn : (assignEach es X.env).length = n := by rfl) (hst : (assignEach es X.env).findIdx? (·.1) = none := by rfl) : PG X (.Tuple es m pos) (gG X W (gTupl n k)) :=
  PGw (pg_tup hc h hn hst) fun v σ H Q ⟨w, s, d, hH, ok, sl, r, hp⟩ => by
    subst hH
    cases r with
    | @tup a vs ds hq rr =>
      refine ⟨_, _, rfl, hq, ?_⟩
      unfold gTupl at hp
      simp only at hp
      by_cases hl : ds.length = n
      · rw [if_pos hl] at hp
        exact ⟨by rw [← rr.length]; exact hl, w, s, ds, rfl, ok, sl, rr, hp⟩
      · rw [if_neg hl] at hp
        exact hp.elim
    | _ => exact hp.elim
theorem qgS {o i : Expr} {fo fi : VE} {t : TSet} {f : D → D → D → VH → Option VH} {pos : Pos} (hs : PSet X t) (hf : SetD X.K t f) (ho : PE X o (gE X W fo)) (hi : PE X i (gE X W fi))
    (ha : ∀ v, assign (.Subscript o i pos) X.env v = (do
      let ov ← holding [v] (eval o X.env)
      let iv ← holding [v, ov] (eval i X.env)
      standAt pos
      holding [v, ov, iv] (setItem ov iv v)
      release [v, ov, iv] []) := by intro _; rfl) : PG X (.Subscript o i pos) (gG X W (gSubs f fo fi)) :=
  PGw (pg_sub ho hi hs ha) fun v σ H Q ⟨w, s, d, hH, ok, sl, r, hp⟩ => by
    subst hH
    refine gE.seq ok sl (wG w Q) hp fun d1 w1 v1 ok1 x1 sl1 r1 hp1 => ?_
    refine gE.seq ok1 sl1 ((wG w Q).mono x1) hp1 fun d2 w2 v2 ok2 x2 sl2 r2 hp2 => ?_
    refine hf w2 d1 d2 d v1 v2 v _ ok2 (x2.rp r1) r2 ((x1.trans x2).rp r) ?_
    revert hp2
    simp only
    cases f d1 d2 d w2.h with
    | none => exact fun z => z
    | some h' => exact fun z w' ok' e x' => z w' σ ok' e ((x1.trans x2).trans x') (sl2.ext x')
theorem qAsg {tg e : Expr} {f : VE} {g : VG} {pos : Pos} (he : PE X e (gE X W f)) (hg : PG X tg (gG X W g)) (hs : swapsWithSole [tg] e pos.line X.env = pure false := by rfl) (hw : swappedStores [tg] e X.env = pure none := by rfl)
    (h1 : (assignEach [tg] X.env).map (·.2) = [assign tg X.env] := by rfl) : PS X (.Assign [tg] e pos) (gS X W (vAsg f g)) :=
  PSw (ps_asg he hg hs hw h1) fun D σ H ⟨w, s, hH, ok, sl, hp⟩ => by
    subst hH
    refine gE.seq ok sl (wS w D) hp fun d w1 v ok1 x1 sl1 r1 hp1 => ?_
    refine ⟨w1, s, d, rfl, ok1, sl1, r1, ?_⟩
    revert hp1
    simp only
    cases g d s w1.h with
    | bad => exact fun z => z
    | ex _ _ _ => exact fun z => PstX.mono x1 z
    | ok p => exact fun z w' σ' ok' e x' sl' => z w' σ' ok' e (x1.trans x') sl'
theorem qSet {i : Nat} {x : Str} {e : Expr} {f : VE} {pos pos' : Pos} (hN : X.N.Nodup) (he : PE X e (gE X W f)) (hi : X.N[i]? = some x := by rfl) (hx : Loc X.env.scope x := by first | exact Or.inl rfl | exact Or.inr rfl) (hs : swapsWith e (some (.Name x pos')) pos.line X.env = pure false := by rfl)
    (hf : X.fn x = true ∨ X.env.scope.names.lookup x = some .local := by first | exact .inl rfl | exact .inr rfl | assumption) : PS X (.Assign [.Name x pos'] e pos) (gS X W (vAsg f (gName i))) :=
  PSw (ps_set hN hi hx he hs hf) fun D σ H ⟨w, s, hH, ok, sl, hp⟩ => by
    subst hH
    exact gE.seq ok sl (wS w D) hp fun d w1 v ok1 x1 sl1 r1 hp1 => hp1 w1 _ ok1 rfl x1 (sl1.set i r1)
/-- a, b = x, y with two plain names -/
def vPar (i j : Nat) (a : VA) : VSt := fun s h => (a s h).bind fun p => match p.1 with
  | [x, y] => .ok (.nx, (s.set i (some x)).set j (some y), p.2)
  | _ => .bad
theorem qPar {i j : Nat} {x y : Str} {a b : Expr} {f : VA} {px py pt : Pos} {kt k2 pt2} {pos : Pos} (hc : X.calm = true) (hN : X.N.Nodup) (hi : X.N[i]? = some x) (hj : X.N[j]? = some y) (hij : i ≠ j) (ha : PA X [a, b] (gA X W f))
    (h : ∀ t, PA X [a, b] t → PS X (.Assign [.Tuple [.Name x px, .Name y py] kt pt] (.Tuple [a, b] k2 pt2) pos) (tPar i j t)) : PS X (.Assign [.Tuple [.Name x px, .Name y py] kt pt] (.Tuple [a, b] k2 pt2) pos) (gS X W (vPar i j f)) :=
  PSw (h _ ha) fun D σ H ⟨w, s, hH, ok, sl, hp⟩ => by
    subst hH
    refine gA.seq ok sl (wS w D) hp fun d w1 v ok1 x1 sl1 r1 hp1 => ?_
    cases r1 with
    | nil => exact hp1.elim
    | cons r1 rr =>
      cases rr with
      | nil => exact hp1.elim
      | cons r2 rr =>
        cases rr with
        | cons _ _ => exact hp1.elim
        | nil => exact ⟨_, _, rfl, hp1 w1 _ ok1 rfl x1 ((sl1.set i r1).set j r2)⟩

/-! ### what is walked -/
/-- how the turns of J follow the items of src -/
def Walks (K : PySem.W.Frag) (w0 : Wd) (J : It) (src : VH → Option (List D)) : Prop :=
  ∀ (w : Wd) (i : Nat) (ys : List D), Wd.Ext K w0 w → w.Ok K → src w.h = some ys →
    (ys[i]? = none → J.stop i w.H) ∧ ∀ d, ys[i]? = some d → J.go i w.H ∧ ∀ x H', J.yld i w.H x H' → ∃ w', w'.H = H' ∧ w'.h = w.h ∧ w'.Ok K ∧ Wd.Ext K w w' ∧ Rp K w' d x
abbrev VI := VS → VH → Res ((VH → Option (List D)) × VH)
def PstI (X : Cx) (W : WX) (w : Wd) (r : Res ((VH → Option (List D)) × VH)) (R : It → Hp → Prop) : Prop :=
  match r with
  | .ok p => ∀ w' J, w'.Ok X.K → w'.h = p.2 → Wd.Ext X.K w w' → Walks X.K w' J p.1 → R J w'.H
  | .ex x s h => PstX X W w x s h
  | .bad => False
def gI (X : Cx) (W : WX) (f : VI) : TI := fun σ H R => ∃ w s, w.H = H ∧ w.Ok X.K ∧ Slots X.K w s σ ∧ PstI X W w (f s w.h) R
theorem wI (w : Wd) (R : It → Hp → Prop) : Wants X W w (fun r => PstI X W w r R) := ⟨id, fun _ _ _ h => h⟩
theorem PIw {tg e : Expr} {t t' : TI} (h : PI X tg e t) (i : ∀ σ H Q, t' σ H Q → t σ H Q) : PI X tg e t' := ⟨fun pins s σ H Q I q => h.run pins s σ H Q I (i σ H Q q)⟩

/-! ### for -/
def loopF (src : VH → Option (List D)) (g : VG) (body : VSt) : Nat → Nat → VS → VH → Res (Out × VS × VH)
  | 0, i, s, h => match src h with
    | some ys => if ys.length ≤ i then .ok (.nx, s, h) else .bad
    | none => .bad
  | n + 1, i, s, h => match src h with
    | none => .bad
    | some ys => match ys[i]? with
      | none => .ok (.nx, s, h)
      | some d => (g d s h).bind fun q => (body q.1 q.2).bind fun r => match r with
        | (.nx, s', h') => loopF src g body n (i + 1) s' h'
        | (.ct, s', h') => loopF src g body n (i + 1) s' h'
        | (.bk, s', h') => .ok (.nx, s', h')
        | (.rt d, s', h') => .ok (.rt d, s', h')
def vFor (it : VI) (g : VG) (body : VSt) : VSt := fun s h => (it s h).bind fun p => match p.1 p.2 with
  | some ys => loopF p.1 g body ys.length 0 s p.2
  | none => .bad
theorem qFor {tg iter : Expr} {body : List Stmt} {it : VI} {g : VG} {b : VSt} {pos : Pos} (hp : PassesOwn (model X.prog X.w) X.A X.env X.xe) (hc : X.calm = true) (hi : PI X tg iter (gI X W it)) (hg : PG X tg (gG X W g)) (hb : PSs X body (gS X W b))
    (hs : ∀ x, foldedSetIterable iter X.env x = pure x := by intro _; rfl) : PS X (.For tg iter body [] pos) (gS X W (vFor it g b)) :=
  PSw (ps_for hp hc hi hg hb hs) fun E σ H ⟨w, s, hH, ok, sl, hq⟩ => by
    subst hH
    refine ⟨w, s, rfl, ok, sl, ?_⟩
    unfold vFor at hq
    cases e : it s w.h with
    | bad => rw [e] at hq; exact hq
    | ex _ _ _ => rw [e] at hq; exact hq
    | ok p =>
      rw [e] at hq
      obtain ⟨src, h0⟩ := p
      intro w0 J ok0 eh x0 wk
      simp only [Res.ok_bind] at hq
      cases e0 : src h0 with
      | none => rw [e0] at hq; exact hq.elim
      | some ys =>
        rw [e0] at hq
        simp only at hq
        have eh : w0.h = h0 := eh
        subst eh
        refine ⟨fun i m σ H => ∃ w s, w.H = H ∧ w.Ok X.K ∧ Wd.Ext X.K w0 w ∧ Slots X.K w s σ ∧ PstS X W w (loopF src g b m i s w.h) E, ⟨ys.length, w0, s, rfl, ok0, .refl w0, sl.ext x0, hq.mono x0⟩, ?_⟩
        rintro i m σ H ⟨w, s, rfl, ok, x, sl, hq⟩
        cases es : src w.h with
        | none => cases m <;> (unfold loopF at hq; rw [es] at hq; exact hq.elim)
        | some zs =>
          obtain ⟨k1, k2⟩ := wk w i zs x ok es
          cases ei : zs[i]? with
          | none =>
            refine .inl ⟨k1 ei, ?_⟩
            cases m with
            | zero =>
              unfold loopF at hq
              rw [es] at hq
              simp only at hq
              rw [if_pos (List.getElem?_eq_none_iff.mp ei)] at hq
              exact hq w σ ok rfl (.refl w) sl
            | succ m =>
              unfold loopF at hq
              simp only [es, ei] at hq
              exact hq w σ ok rfl (.refl w) sl
          | some d =>
            obtain ⟨go, yl⟩ := k2 d ei
            cases m with
            | zero =>
              unfold loopF at hq
              rw [es] at hq
              simp only at hq
              rw [if_neg (by have := (List.getElem?_eq_some_iff.mp ei).1; omega)] at hq
              exact hq.elim
            | succ m =>
              unfold loopF at hq
              simp only [es, ei] at hq
              refine .inr ⟨go, fun σ' H' => ∃ w s, w.H = H' ∧ w.Ok X.K ∧ Wd.Ext X.K w0 w ∧ Slots X.K w s σ' ∧ PstS X W w (loopF src g b m (i + 1) s w.h) E, fun σ' H' z => ⟨m, Nat.lt_succ_self m, z⟩, fun v H' y => ?_⟩
              obtain ⟨w', rfl, eh', ok', x', r'⟩ := yl v H' y
              refine ⟨w', s, d, rfl, ok', sl.ext x', r', ?_⟩
              rw [eh']
              cases eg : g d s w.h with
              | bad => rw [eg] at hq; exact hq.elim
              | ex _ _ _ => rw [eg] at hq; exact PstX.mono x' hq
              | ok q =>
                rw [eg] at hq
                obtain ⟨s2, h2⟩ := q
                intro w2 σ2 ok2 eh2 x2 sl2
                refine ⟨w2, s2, rfl, ok2, sl2, ?_⟩
                rw [show w2.h = h2 from eh2]
                simp only [Res.ok_bind] at hq
                have X2 : Wd.Ext X.K w w2 := x'.trans x2
                cases eb : b s2 h2 with
                | bad => rw [eb] at hq; exact hq.elim
                | ex _ _ _ => rw [eb] at hq; exact PstX.mono X2 hq
                | ok r =>
                  rw [eb] at hq
                  obtain ⟨o, s3, h3⟩ := r
                  cases o with
                  | nx => exact fun w3 σ3 ok3 e3 x3 sl3 => ⟨w3, s3, rfl, ok3, (x.trans X2).trans x3, sl3, by rw [e3]; exact PstS.mono (X2.trans x3) hq⟩
                  | ct => exact fun w3 σ3 ok3 e3 x3 sl3 => ⟨w3, s3, rfl, ok3, (x.trans X2).trans x3, sl3, by rw [e3]; exact PstS.mono (X2.trans x3) hq⟩
                  | bk => exact fun w3 σ3 ok3 e3 x3 sl3 => hq w3 σ3 ok3 e3 (X2.trans x3) sl3
                  | rt d => exact fun w3 v3 ok3 e3 x3 r3 => hq w3 v3 ok3 e3 (X2.trans x3) r3

/-! ### while -/
def whileF (c : VT) (body : VSt) : Nat → VS → VH → Res (Out × VS × VH)
  | 0, _, _ => .bad
  | n + 1, s, h => (c s h).bind fun p => if p.1 = true then (body s p.2).bind fun r => match r with
      | (.nx, s', h') => whileF c body n s' h'
      | (.ct, s', h') => whileF c body n s' h'
      | (.bk, s', h') => .ok (.nx, s', h')
      | (.rt d, s', h') => .ok (.rt d, s', h')
    else .ok (.nx, s, p.2)
/-- so many turns are let -/
def vWhile (n : Nat) (c : VT) (body : VSt) : VSt := fun s h => whileF c body n s h
theorem qWhile {c : Expr} {body : List Stmt} {t : VT} {b : VSt} {pos : Pos} (n : Nat) (hp : PassesOwn (model X.prog X.w) X.A X.env X.xe) (hc : PT X c (gT X W t)) (hb : PSs X body (gS X W b)) : PS X (.While c body [] pos) (gS X W (vWhile n t b)) :=
  PSw (ps_while hp hc hb) fun E σ H ⟨w, s, hH, ok, sl, hq⟩ => by
    refine ⟨fun m σ H => ∃ w s, w.H = H ∧ w.Ok X.K ∧ Slots X.K w s σ ∧ PstS X W w (whileF t b m s w.h) E, ⟨n, w, s, hH, ok, sl, hq⟩, ?_⟩
    rintro m σ H ⟨w, s, rfl, ok, sl, hq⟩
    cases m with
    | zero => exact hq.elim
    | succ m =>
      unfold whileF at hq
      refine gT.seq ok sl (wS w E) hq fun d w1 ok1 x1 sl1 hq1 => ?_
      cases d with
      | false =>
        simp only [Bool.false_eq_true, if_false] at hq1 ⊢
        exact hq1 w1 σ ok1 rfl x1 sl1
      | true =>
        simp only [if_true] at hq1 ⊢
        refine ⟨fun σ' H' => ∃ w s, w.H = H' ∧ w.Ok X.K ∧ Slots X.K w s σ' ∧ PstS X W w (whileF t b m s w.h) E, fun σ' H' z => ⟨m, Nat.lt_succ_self m, z⟩, w1, s, rfl, ok1, sl1, ?_⟩
        cases eb : b s w1.h with
        | bad => rw [eb] at hq1; exact hq1.elim
        | ex _ _ _ => rw [eb] at hq1; exact PstX.mono x1 hq1
        | ok r =>
          rw [eb] at hq1
          obtain ⟨o, s3, h3⟩ := r
          cases o with
          | nx => exact fun w3 σ3 ok3 e3 x3 sl3 => ⟨w3, s3, rfl, ok3, sl3, by rw [e3]; exact PstS.mono (x1.trans x3) hq1⟩
          | ct => exact fun w3 σ3 ok3 e3 x3 sl3 => ⟨w3, s3, rfl, ok3, sl3, by rw [e3]; exact PstS.mono (x1.trans x3) hq1⟩
          | bk => exact fun w3 σ3 ok3 e3 x3 sl3 => hq1 w3 σ3 ok3 e3 (x1.trans x3) sl3
          | rt d => exact fun w3 v3 ok3 e3 x3 r3 => hq1 w3 v3 ok3 e3 (x1.trans x3) r3

/-! ### comprehensions -/
def vwipe (s : VS) : List Nat → VS
  | [] => s
  | v :: vs => (vwipe s vs).set v none
theorem Slots.wipe {K : PySem.W.Frag} {w : Wd} {s : VS} {σ : L2.St} (h : Slots K w s σ) : ∀ vs : List Nat, Slots K w (vwipe s vs) (wipe σ vs)
  | [] => h
  | v :: vs => by
    have q := Slots.wipe h vs
    refine ⟨by show (List.set _ _ _).length = (List.set _ _ _).length; rw [List.length_set, List.length_set]; exact q.1, fun j e z => ?_⟩
    have z : ((vwipe s vs).set v none)[j]? = some (some e) := z
    by_cases hj : v = j
    · subst hj
      by_cases hl : v < (vwipe s vs).length
      · rw [List.getElem?_set_self hl] at z
        cases z
      · rw [List.getElem?_eq_none (by rw [List.length_set]; omega)] at z
        cases z
    · rw [List.getElem?_set_ne hj] at z
      obtain ⟨u, a, b⟩ := q.2 j e z
      exact ⟨u, by show ((L2.wipe σ vs).set v none)[j]? = _; rw [List.getElem?_set_ne hj]; exact a, b⟩
/-- a comprehension's target: names of its own -/
abbrev VP := D → VS → Option VS
abbrev VPs := List D → VS → Option VS
def pN (i : Nat) : VP := fun d s => some (s.set i (some d))
def psNil : VPs := fun l s => match l with
  | [] => some s
  | _ => none
def psCons (g : VP) (k : VPs) : VPs := fun l s => match l with
  | d :: r => (g d s).bind fun s' => k r s'
  | [] => none
def pTup (n : Nat) (k : VPs) : VP := fun d s => match d with
  | .tup l => if l.length = n then k l s else none
  | _ => none
def TgD (K : PySem.W.Frag) (vs : List Nat) (g : TG) (f : VP) : Prop :=
  ∀ (w : Wd) (s s' : VS) (σ : L2.St) (d : D) (v : V) (Q : L2.St → Hp → Prop), w.Ok K → Slots K w s σ → Rp K w d v → f d s = some s' →
    (∀ σ2, Slots K w s' σ2 → wipe σ2 vs = wipe σ vs → Q σ2 w.H) → g v σ w.H Q
def TgsD (K : PySem.W.Frag) (vs : List Nat) (g : TGs) (f : VPs) : Prop :=
  ∀ (w : Wd) (s s' : VS) (σ : L2.St) (d : List D) (v : List V) (Q : L2.St → Hp → Prop), w.Ok K → Slots K w s σ → Rps K w d v → f d s = some s' →
    (∀ σ2, Slots K w s' σ2 → wipe σ2 vs = wipe σ vs → Q σ2 w.H) → g v σ w.H Q
theorem wipe_set {vs : List Nat} {i : Nat} (h : i ∈ vs) (σ : L2.St) (x : Option V) : wipe (σ.set i x) vs = wipe σ vs := by
  have comm : ∀ (vs : List Nat) (σ : L2.St) (i : Nat) (x : Option V), i ∉ vs → wipe (σ.set i x) vs = (wipe σ vs).set i x := by
    intro vs
    induction vs with
    | nil => intros; rfl
    | cons v vs ih =>
      intro σ i x hi
      have h1 : i ≠ v := fun z => hi (by rw [z]; exact List.mem_cons_self)
      have h2 : i ∉ vs := fun z => hi (List.mem_cons_of_mem _ z)
      show (wipe (σ.set i x) vs).set v none = ((wipe σ vs).set v none).set i x
      rw [ih σ i x h2, List.set_comm _ _ h1]
  induction vs with
  | nil => cases h
  | cons v vs ih =>
    show (wipe (σ.set i x) vs).set v none = (wipe σ vs).set v none
    by_cases hi : i ∈ vs
    · rw [ih hi]
    · have e : i = v := by
        rcases List.mem_cons.mp h with q | q
        · exact q
        · exact absurd q hi
      subst e
      rw [comm vs σ i x hi, List.set_set]
theorem wipe_wipe (vs : List Nat) (σ : L2.St) : wipe (wipe σ vs) vs = wipe σ vs := by
  have gen : ∀ us : List Nat, (∀ u ∈ us, u ∈ vs) → wipe (wipe σ us) vs = wipe σ vs := by
    intro us
    induction us with
    | nil => intro _; rfl
    | cons u us ih =>
      intro h
      show wipe ((wipe σ us).set u none) vs = _
      rw [wipe_set (h u List.mem_cons_self)]
      exact ih fun v hv => h v (List.mem_cons_of_mem _ hv)
  exact gen vs fun _ h => h
theorem tgd_name {K : PySem.W.Frag} {vs : List Nat} {i : Nat} (hi : i ∈ vs) : TgD K vs (L2.gName i) (pN i) := fun w s s' σ d v Q ok sl r e h => by
  cases e
  exact h _ (sl.set i r) (wipe_set hi σ _)
theorem tgsd_nil {K : PySem.W.Frag} {vs : List Nat} : TgsD K vs gNil psNil := fun w s s' σ d v Q ok sl r e h => by
  cases r with
  | nil => cases e; exact ⟨rfl, h σ sl rfl⟩
  | cons _ _ => cases e
theorem tgsd_cons {K : PySem.W.Frag} {vs : List Nat} {g : TG} {f : VP} {k : TGs} {m : VPs} (a : TgD K vs g f) (b : TgsD K vs k m) : TgsD K vs (gCons g k) (psCons f m) := fun w s s' σ d v Q ok sl r e h => by
  cases r with
  | nil => cases e
  | @cons d ds v vs' r rr =>
    unfold psCons at e
    simp only at e
    cases e1 : f d s with
    | none => rw [e1] at e; cases e
    | some s1 =>
      rw [e1] at e
      exact ⟨_, _, rfl, a w s s1 σ d v _ ok sl r e1 fun σ2 sl2 w2 => b w s1 s' σ2 ds vs' _ ok sl2 rr e fun σ3 sl3 w3 => h σ3 sl3 (w3.trans w2)⟩
theorem tgd_tup {K : PySem.W.Frag} {vs : List Nat} {n : Nat} {k : TGs} {m : VPs} (a : TgsD K vs k m) : TgD K vs (L2.gTup K n k) (pTup n m) := fun w s s' σ d v Q ok sl r e h => by
  cases r with
  | @tup a' us ds hq rr =>
    unfold pTup at e
    simp only at e
    by_cases hl : ds.length = n
    · rw [if_pos hl] at e
      exact ⟨_, _, rfl, hq, by rw [← rr.length]; exact hl, a w s s' σ ds us Q ok sl rr e h⟩
    · rw [if_neg hl] at e
      cases e
  | _ => cases e
/-- the same as the target of a for -/
def gP (p : VP) : VG := fun d s h => match p d s with
  | some s' => .ok (s', h)
  | none => .bad
theorem qgP {vs : List Nat} {tg : Expr} {g : TG} {p : VP} (h : PG X tg g) (hp : TgD X.K vs g p) : PG X tg (gG X W (gP p)) :=
  PGw h fun v σ H Q ⟨w, s, d, hH, ok, sl, r, q⟩ => by
    subst hH
    unfold gP at q
    cases e : p d s with
    | none => rw [e] at q; exact q.elim
    | some s' =>
      rw [e] at q
      exact hp w s s' σ d v Q ok sl r e fun σ2 sl2 _ => q w σ2 ok rfl (.refl w) sl2

/-- what cannot be said within a comprehension: an error that leaves it -/
def noex {α : Type} : Res α → Res α
  | .ok a => .ok a
  | _ => .bad
@[simp] theorem noex_ok {α : Type} (a : α) : noex (.ok a) = .ok a := rfl
@[simp] theorem noex_bad {α : Type} : noex (.bad : Res α) = .bad := rfl
@[simp] theorem noex_ex {α : Type} (x : Exn) (s : VS) (h : VH) : noex (.ex x s h : Res α) = .bad := rfl
abbrev W0 : WX := fun _ _ _ _ => False
def putAt (n : Nat) (d : D) (h : VH) : Res VH := match h[n]? with
  | some (.lst acc) => if acc.length < sizeLine then .ok (h.set n (.lst (acc ++ [d]))) else .bad
  | _ => .bad
def lcF (src : VH → Option (List D)) (vs : List Nat) (g : VP) (t : VT) (e : VE) (n : Nat) (s : VS) : Nat → Nat → VH → Res VH
  | 0, i, h => match src h with
    | some ys => if ys.length ≤ i then .ok h else .bad
    | none => .bad
  | k + 1, i, h => match src h with
    | none => .bad
    | some ys => match ys[i]? with
      | none => .ok h
      | some d => match g d (vwipe s vs) with
        | none => .bad
        | some s' => (noex (t s' h)).bind fun c => if c.1 = true then (noex (e s' c.2)).bind fun y => (putAt n y.1 y.2).bind fun h' => lcF src vs g t e n s k (i + 1) h'
          else lcF src vs g t e n s k (i + 1) c.2
def vLc (it : VI) (vs : List Nat) (g : VP) (t : VT) (e : VE) : VE := fun s h => (it s h).bind fun p => match p.1 (p.2 ++ [.lst []]) with
  | some ys => (lcF p.1 vs g t e p.2.length s ys.length 0 (p.2 ++ [.lst []])).bind fun h' => .ok (.ref p.2.length, h')
  | none => .bad
def vYes : VT := fun _ h => .ok (true, h)
theorem qYes (X : Cx) (W : WX) : PTs X [] (gT X W vYes) := ⟨fun pins s σ H Q I h => pts_nil.run pins s σ H Q I (by
  obtain ⟨w, s', hH, ok, sl, hp⟩ := h
  subst hH
  exact hp w ok rfl (.refl w))⟩
theorem lc_red {wi : VI} {g : TG} {p : VP} {t : VT} {e : VE} {vs : List Nat} (hg : TgD X.K vs g p) {σ : L2.St} {H : Hp} {Q : VK} (h : gE X W (vLc wi vs p t e) σ H Q) : tLc (gI X W wi) g (gT X W0 t) (gE X W0 e) vs σ H Q := by
  obtain ⟨w, s, hH, ok, sl, hq⟩ := h
  subst hH
  refine ⟨w, s, rfl, ok, sl, ?_⟩
  unfold vLc at hq
  cases ew : wi s w.h with
  | bad => rw [ew] at hq; exact hq
  | ex _ _ _ => rw [ew] at hq; exact hq
  | ok pr =>
    rw [ew] at hq
    obtain ⟨src, h0⟩ := pr
    intro w0 J ok0 eh x0 wk D hD
    have eh : w0.h = h0 := eh
    subst eh
    simp only [Res.ok_bind] at hq
    cases e0 : src (w0.h ++ [.lst []]) with
    | none => rw [e0] at hq; exact hq.elim
    | some ys =>
      rw [e0] at hq
      simp only at hq
      have x1 : Wd.Ext X.K w0 (w0.newL D [] []) := Wd.ext_newL hD
      have ok1 : (w0.newL D [] []).Ok X.K := ok0.newL hD .nil
      have ιD : (w0.newL D [] []).ι w0.h.length = D := if_pos rfl
      refine ⟨fun i m H => ∃ w, w.H = H ∧ w.Ok X.K ∧ Wd.Ext X.K (w0.newL D [] []) w ∧ PstE X W w ((lcF src vs p t e w0.h.length s m i w.h).bind fun h' => .ok (.ref w0.h.length, h')) Q,
        ⟨ys.length, w0.newL D [] [], rfl, ok1, .refl _, hq.mono (x0.trans x1)⟩, ?_⟩
      rintro i m H ⟨w, rfl, ok, x, hq⟩
      have lenD : w0.h.length < w.h.length := by
        have := x.len
        simp [Wd.newL] at this
        omega
      have ιw : w.ι w0.h.length = D := (x.ι _ (by simp [Wd.newL])).trans ιD
      have refD : ∀ w' : Wd, Wd.Ext X.K w w' → Rp X.K w' (.ref w0.h.length) (.ref D) := fun w' x' => by
        have q : Rp X.K w' (.ref w0.h.length) (.ref (w'.ι w0.h.length)) := .ref (Nat.lt_of_lt_of_le lenD x'.len)
        rw [x'.ι _ lenD, ιw] at q
        exact q
      cases es : src w.h with
      | none => cases m <;> (unfold lcF at hq; rw [es] at hq; exact hq.elim)
      | some zs =>
        obtain ⟨k1, k2⟩ := wk w i zs (x1.trans x) ok es
        cases ei : zs[i]? with
        | none =>
          refine .inl ⟨k1 ei, ?_⟩
          cases m with
          | zero =>
            unfold lcF at hq
            rw [es] at hq
            simp only at hq
            rw [if_pos (List.getElem?_eq_none_iff.mp ei)] at hq
            exact hq w _ ok rfl (.refl w) (refD w (.refl w))
          | succ m =>
            unfold lcF at hq
            simp only [es, ei] at hq
            exact hq w _ ok rfl (.refl w) (refD w (.refl w))
        | some d =>
          obtain ⟨go, yl⟩ := k2 d ei
          cases m with
          | zero =>
            unfold lcF at hq
            rw [es] at hq
            simp only at hq
            rw [if_neg (by have := (List.getElem?_eq_some_iff.mp ei).1; omega)] at hq
            exact hq.elim
          | succ m =>
            unfold lcF at hq
            simp only [es, ei] at hq
            refine .inr ⟨go, fun H' => ∃ w, w.H = H' ∧ w.Ok X.K ∧ Wd.Ext X.K (w0.newL D [] []) w ∧ PstE X W w ((lcF src vs p t e w0.h.length s m (i + 1) w.h).bind fun h' => .ok (.ref w0.h.length, h')) Q, fun H' z => ⟨m, Nat.lt_succ_self m, z⟩, fun v H' y => ?_⟩
            obtain ⟨w', rfl, eh', ok', x', r'⟩ := yl v H' y
            cases eg : p d (vwipe s vs) with
            | none => rw [eg] at hq; exact hq.elim
            | some s2 =>
              rw [eg] at hq
              simp only at hq
              have X0 : Wd.Ext X.K w (w') := x'
              have sl' : Slots X.K w' s σ := sl.ext (((x0.trans x1).trans x).trans x')
              refine hg w' (vwipe s vs) s2 (wipe σ vs) d v _ ok' (sl'.wipe vs) r' eg fun σ2 sl2 hw2 => ⟨hw2.trans (wipe_wipe vs σ), w', s2, rfl, ok', sl2, ?_⟩
              rw [eh']
              cases et : t s2 w.h with
              | bad => rw [et] at hq; exact hq.elim
              | ex _ _ _ => rw [et] at hq; exact hq.elim
              | ok c =>
                obtain ⟨b, hc⟩ := c
                rw [et] at hq
                simp only [noex_ok, Res.ok_bind] at hq
                intro w2 ok2 eh2 x2
                have eh2 : w2.h = hc := eh2
                subst eh2
                have X2 : Wd.Ext X.K w w2 := x'.trans x2
                cases b with
                | false =>
                  simp only [Bool.false_eq_true, if_false] at hq ⊢
                  exact ⟨w2, rfl, ok2, x.trans X2, hq.mono X2⟩
                | true =>
                  simp only [if_true] at hq ⊢
                  refine ⟨w2, s2, rfl, ok2, sl2.ext x2, ?_⟩
                  cases ee : e s2 w2.h with
                  | bad => rw [ee] at hq; exact hq.elim
                  | ex _ _ _ => rw [ee] at hq; exact hq.elim
                  | ok yv =>
                    obtain ⟨y1, y2⟩ := yv
                    rw [ee] at hq
                    simp only [noex_ok, Res.ok_bind] at hq
                    intro w3 v3 ok3 eh3 x3 r3
                    have eh3 : w3.h = y2 := eh3
                    subst eh3
                    have X3 : Wd.Ext X.K w w3 := X2.trans x3
                    unfold putAt at hq
                    cases en : w3.h[w0.h.length]? with
                    | none => rw [en] at hq; exact hq.elim
                    | some c =>
                      rw [en] at hq
                      cases c with
                      | ro _ => exact hq.elim
                      | lst acc =>
                        simp only at hq
                        by_cases hl : acc.length < sizeLine
                        · rw [if_pos hl] at hq
                          obtain ⟨us, hu, ru⟩ := ok3.cell _ _ en
                          have ι3 : w3.ι w0.h.length = D := (X3.ι _ lenD).trans ιw
                          rw [ι3] at hu
                          obtain ⟨ok4, x4⟩ := ok3.putL (ds := acc ++ [y1]) (vs := us ++ [v3]) en (ru.append (.cons r3 .nil))
                          refine ⟨us, hu, by rw [← ru.length]; exact hl, w3.putL w0.h.length (acc ++ [y1]) (us ++ [v3]), ?_, ok4, (x.trans X3).trans x4, ?_⟩
                          · show upd w3.H (w3.ι w0.h.length) _ = _
                            rw [ι3]
                          · exact PstE.mono (X3.trans x4) hq
                        · rw [if_neg hl] at hq
                          exact hq.elim
theorem qLc {elt tg iter : Expr} {ifs : List Expr} {scope : Scope} {own : List (Str × Nat)} {pos : Pos} {it : VI} {g : TG} {p : VP} {t : VT} {e : VE} (hc : X.calm = true) (hN : X.N.Nodup) (hi : PI X tg iter (gI X W it)) (ok : BlkOk X.N X.env.scope scope own)
    (hgd : TgD X.K (own.map (·.2)) g p)
    (hg : ∀ (s : Shared) (H : Hp) (C : Addr) (cl : List (Str × Addr)) (fp : List Addr), PG (X.blk s H scope (compEnvC scope cl C X.env) fp) tg g) (ht : ∀ (s : Shared) (H : Hp) (C : Addr) (cl : List (Str × Addr)) (fp : List Addr), PTs (X.blk s H scope (compEnvC scope cl C X.env) fp) ifs (gT (X.blk s H scope (compEnvC scope cl C X.env) fp) W0 t))
    (he : ∀ (s : Shared) (H : Hp) (C : Addr) (cl : List (Str × Addr)) (fp : List Addr), PE (X.blk s H scope (compEnvC scope cl C X.env) fp) elt (gE (X.blk s H scope (compEnvC scope cl C X.env) fp) W0 e)) (hs : ∀ x, foldedSetIterable iter X.env x = pure x := by intro _; rfl) :
    PE X (.ListComp elt [⟨tg, iter, ifs, 0⟩] scope pos) (gE X W (vLc it (own.map (·.2)) p t e)) :=
  PEw (pe_lc (tt := gT X W0 t) (te := gE X W0 e) hc hN hi ok hg (fun a b c d f => ht a b c d f) (fun a b c d f => he a b c d f) hs) fun _ _ _ h => lc_red hgd h
theorem qSetLc {i : Nat} {y : Str} {py : Pos} {elt tg iter : Expr} {ifs : List Expr} {scope : Scope} {own : List (Str × Nat)} {pos spos : Pos} {it : VI} {g : TG} {p : VP} {t : VT} {e : VE} (hc : X.calm = true) (hN : X.N.Nodup) (hy : X.N[i]? = some y) (hyl : X.env.scope.names.lookup y = some .local)
    (hsw : swapsWith (.ListComp elt [⟨tg, iter, ifs, 0⟩] scope pos) (some (.Name y py)) spos.line X.env = pure true) (hi : PI X tg iter (gI X W it)) (ok : BlkOk X.N X.env.scope scope own)
    (hgd : TgD X.K (own.map (·.2)) g p)
    (hg : ∀ (s : Shared) (H : Hp) (C : Addr) (cl : List (Str × Addr)) (fp : List Addr), PG (X.blk s H scope (compEnvC scope cl C X.env) fp) tg g) (ht : ∀ (s : Shared) (H : Hp) (C : Addr) (cl : List (Str × Addr)) (fp : List Addr), PTs (X.blk s H scope (compEnvC scope cl C X.env) fp) ifs (gT (X.blk s H scope (compEnvC scope cl C X.env) fp) W0 t))
    (he : ∀ (s : Shared) (H : Hp) (C : Addr) (cl : List (Str × Addr)) (fp : List Addr), PE (X.blk s H scope (compEnvC scope cl C X.env) fp) elt (gE (X.blk s H scope (compEnvC scope cl C X.env) fp) W0 e)) (hs : ∀ x, foldedSetIterable iter X.env x = pure x := by intro _; rfl) :
    PS X (.Assign [.Name y py] (.ListComp elt [⟨tg, iter, ifs, 0⟩] scope pos) spos) (gS X W (vAsg (vLc it (own.map (·.2)) p t e) (gName i))) :=
  PSw (ps_setLc (tt := gT X W0 t) (te := gE X W0 e) hc hN hy hyl hsw hi ok hg (fun a b c d f => ht a b c d f) (fun a b c d f => he a b c d f) hs) fun D σ H ⟨w, s, hH, ok, sl, hp⟩ => by
    subst hH
    show tLc _ _ _ _ _ σ w.H fun x H1 => L2.gName i x σ H1 D.nx
    refine lc_red (W := W) hgd ?_
    exact gE.seq ok sl (wS w D) hp fun d w1 v ok1 x1 sl1 r1 hp1 => hp1 w1 _ ok1 rfl x1 (sl1.set i r1)
end
end Vq

/-! Part 4: defs: what they are worth, how they are called, where the law begins. No repr is under way (guards). -/
namespace Vq
open PySem PySem.Spec PyProof.Rows L2

/-- a body as a function of arguments and heap; N: how many names -/
def mF (N : Nat) (f : VSt) : Fn := fun ds h => match f (ds.map some ++ List.replicate (N - ds.length) none) h with
  | .ok (.rt d, _, h') => .ok (d, h')
  | .ok (.nx, _, h') => .ok (.non, h')
  | .ok (.bk, _, _) => .bad
  | .ok (.ct, _, _) => .bad
  | .ex x _ h' => .ex x [] h'
  | .bad => .bad

def PstF (K : PySem.W.Frag) (mg : Str → Option Value) (w : Wd) (r : Res (D × VH)) (Q : VK) (E : XK) : Prop :=
  match r with
  | .ok p => ∀ w' v, w'.Ok K → w'.h = p.2 → Wd.Ext K w w' → Rp K w' p.1 v → Q v w'.H
  | .ex x _ h => ∀ (w' : Wd) (cls : Value) (d : Option Addr), w'.Ok K → w'.h = h → Wd.Ext K w w' → RepX K mg w' x cls d → E cls d w'.H
  | .bad => False

/-- the def at f is worth F, at level k -/
structure FnG (P : Program) (w : World) (K : PySem.W.Frag) (mg : Str → Option Value) (base : Heap) (k : Nat) (f : Addr) (fd : FuncData) (ps : List Str) (F : Fn) : Prop where
  run : ∀ (A : Around) (outer : List Env) (s : Shared) (args : Args) (us : List Value) (vs : List V) (ds : List D) (wd : Wd) (Q : VK) (E : XK),
    A.guards = some [] → Room k A → Env0 P w K mg base A outer s wd.H → ds.length = ps.length → BindsTo s fd args (ps.zip us) → Vals vs us → wd.Ok K → Rps K wd ds vs →
      PstF K mg wd (F ds wd.h) Q E → codeAny (model P w) A (.call (.ref f) args) (CR (L2.CX P w) outer P w wd.H s Q E) s
theorem FnG.mono {P : Program} {w : World} {K : PySem.W.Frag} {mg : Str → Option Value} {base : Heap} {j k : Nat} {f : Addr} {fd : FuncData} {ps : List Str} {F : Fn} (x : FnG P w K mg base j f fd ps F) (h : j ≤ k) : FnG P w K mg base k f fd ps F :=
  ⟨fun A outer s args us vs ds wd Q E hg hr => x.run A outer s args us vs ds wd Q E hg (hr.mono h)⟩

/-- all a step needs of where it stands -/
structure At (X : Cx) (W : WX) (k : Nat) : Prop where
  room : Room k X.A
  gd : X.A.guards = some []
  tk : Takes X W
  ps : PassesOwn (model X.prog X.w) X.A X.env X.xe
theorem At.mono {X : Cx} {W : WX} {j k : Nat} (a : At X W k) (h : j ≤ k) : At X W j := ⟨a.room.mono h, a.gd, a.tk, a.ps⟩

/-- X, the context of a def's body -/
abbrev cxG (P : Program) (w : World) (K : PySem.W.Frag) (mg : Str → Option Value) (base : Heap) (N : List Str) (qual : Str) (sc : Scope) (f : Addr) (cdv : Value) (A : Around) (outer : List Env) (s : Shared) (H : Hp) (E : XK) : Cx :=
  cxOf (L2.CX P w) P w K mg base N qual sc f cdv A outer s H E

theorem slots_start {K : PySem.W.Frag} {wd : Wd} {ds : List D} {vs : List V} (N : List Str) (r : Rps K wd ds vs) : Slots K wd (ds.map some ++ List.replicate (N.length - ds.length) none) (L2.start N vs) := by
  refine ⟨by simp [L2.start, r.length], fun i d e => ?_⟩
  by_cases hi : i < ds.length
  · rw [List.getElem?_append_left (by simpa using hi), List.getElem?_map] at e
    cases ed : ds[i]? with
    | none => rw [ed] at e; cases e
    | some d' =>
      rw [ed] at e
      cases e
      obtain ⟨v, ev, rv⟩ := r.get ed
      refine ⟨v, ?_, rv⟩
      unfold L2.start
      rw [List.getElem?_append_left (by rw [List.length_map, ← r.length]; exact hi), List.getElem?_map, ev]
      rfl
  · rw [List.getElem?_append_right (by simpa using Nat.le_of_not_lt hi), List.getElem?_replicate] at e
    split at e <;> cases e

theorem guards_deeper (A : Around) (env : Env) : (A.deeper env).guards = A.guards := by
  first
    | rfl
    | simp [Around.deeper]

theorem fnG_of {P : Program} {w : World} {K : PySem.W.Frag} {mg : Str → Option Value} {base : Heap} {k : Nat} {f : Addr} {fd : FuncData} {x qual : Str} {st : Stmt} {N ps : List Str} {b : VSt}
    (F : Fun K x qual st f fd) (S : FnScope N ps (defScope st))
    (hb : ∀ (cdv : Value) (A : Around) (outer : List Env) (s : Shared) (H : Hp) (E : XK), At (cxG P w K mg base N qual (defScope st) f cdv A outer s H E) (fun c d _ H => E c d H) k →
      PSs (cxG P w K mg base N qual (defScope st) f cdv A outer s H E) (defBody st) (gS (cxG P w K mg base N qual (defScope st) f cdv A outer s H E) (fun c d _ H => E c d H) b)) :
    FnG P w K mg base (k + 1) f fd ps (mF N.length b) := by
  obtain ⟨oc, od, kV, doc, pm, an, cdv, ct, osl, rfl, lk, hcd⟩ := F.ex
  refine ⟨fun A outer s args us vs ds wd Q E hg hr e0 hl bt rv ok rd hp => ?_⟩
  have hl' : vs.length = ps.length := by
    rw [← RepL.length rd]
    exact hl
  have inK : K.In s.heap := e0.mod.kin.keeps fun b o e => (e0.bs b o e).1
  have lim : s.heap.NoLimit :=
    e0.mod.nolimit.keeps fun b o e => (e0.bs b o e).1
  have kinds : ∀ y ∈ ps.zip us, (defScope st).names.lookup y.1 = some .local ∨
      ((defScope st).names.lookup y.1 = some .cell ∧ ((cellsFrom (s.heap.objs.size + 1) (defScope st).names []).lookup y.1).isSome = true) := by
    rintro ⟨n, v⟩ hy
    exact (S.par n (List.of_mem_zip hy).1).imp id fun q => ⟨q, PySem.W.cellsFrom_some _ _ _ (.inl q)⟩
  refine codeAny_call_function hr.depth (inK _ _ lk) rfl S.co S.gen rfl (PySem.W.codeRec_of inK hcd) (bt _ _ _ _ ?_)
  refine wpAny_newFunctionEnv_cells S.kind kinds fun env he s1 ic => ?_
  subst he
  refine ⟨lim.keeps ic.toInCall.keep, codeAny_func ?_⟩
  have here : At (cxG P w K mg base N qual (defScope st) f cdv A outer s wd.H E) (fun c d _ H => E c d H) k :=
    ⟨hr.deeper _, (guards_deeper A _).trans hg, takes_of rfl rfl rfl rfl, passes_of rfl⟩
  have I := inv_start (CX := L2.CX P w) (E := E) S hr.hd e0 hl' rv ic
  have body := hb cdv A outer s wd.H E here
  have post : gS (cxG P w K mg base N qual (defScope st) f cdv A outer s wd.H E) (fun c d _ H => E c d H) b { nx := fun _ H' => Q .non H', rt := Q } (L2.start N vs) wd.H := by
    refine ⟨wd, ds.map some ++ List.replicate (N.length - ds.length) none, rfl, ok, slots_start N rd, ?_⟩
    unfold mF at hp
    revert hp
    cases b (ds.map some ++ List.replicate (N.length - ds.length) none) wd.h with
    | bad => exact fun z => z
    | ex x s' h' => exact fun z w' cls d σ ok' e' x' sl' rx => z w' cls d ok' e' x' rx
    | ok p =>
      obtain ⟨o, s', h'⟩ := p
      cases o with
      | nx => exact fun z w' σ ok' e' x' sl' => z w' .non ok' e' x' .non
      | rt d => exact fun z w' v ok' e' x' r' => z w' v ok' e' x' r'
      | bk => exact fun z => z.elim
      | ct => exact fun z => z.elim
  refine wpAny_mono (body.run [] s1 (L2.start N vs) wd.H _ I post) (fun fl s' hs => ?_) fun e s' hs => hs
  have done : ∀ {σ' : L2.St} {H' : Hp} {v : V} {u : Value}, Inv (cxG P w K mg base N qual (defScope st) f cdv A outer s wd.H E) [] σ' H' s' → RelV v u → Q v H' → CE outer P w wd.H s Q u s' :=
    fun {σ' H' v u} J r q => ⟨v, H', J.os, J.bare, J.base, J.hok, r, q⟩
  cases fl with
  | next => obtain ⟨σ', H', J, q⟩ := hs; exact done (v := V.non) (u := Value.none) J rfl q
  | ret u => obtain ⟨v, σ', H', J, r, q⟩ := hs; exact done J r q
  | brk => obtain ⟨_, _, _, q⟩ := hs; exact q.elim
  | cont => obtain ⟨_, _, _, q⟩ := hs; exact q.elim
end Vq

/-! Part 5: calls of defs; what a def is worth may be said more plainly; the law's own call. -/
namespace Vq
open PySem PySem.Spec PyProof.Rows L2

/-! ### calls -/
/-- a call within a frame: an error keeps the frame's slots -/
def callR (s : VS) (r : Res (D × VH)) : Res (D × VH) := match r with
  | .ok p => .ok p
  | .ex x _ h => .ex x s h
  | .bad => .bad
@[simp] theorem callR_ok (s : VS) (p : D × VH) : callR s (.ok p) = .ok p := rfl
@[simp] theorem callR_bad (s : VS) : callR s .bad = .bad := rfl
@[simp] theorem callR_ex (s s' : VS) (x : Exn) (h : VH) : callR s (.ex x s' h) = .ex x s h := rfl
def vCall (n : Nat) (F : Fn) (a : VA) : VE := fun s h => (a s h).bind fun p => if p.1.length = n then callR s (F p.1 p.2) else .bad
/-- keywords: place tells where the values stand (positional ones first, then the keywords' in their order) -/
def vCallK (n : Nat) (F : Fn) (pl : List D → List D → List D) (a k : VA) : VE := fun s h => (a s h).bind fun p => (k s p.2).bind fun q => if (pl p.1 q.1).length = n then callR s (F (pl p.1 q.1) q.2) else .bad

section
variable {X : Cx} {W : WX} {P : Program} {k : Nat} {f : Addr} {fd : FuncData} {ps : List Str} {F : Fn}
theorem run_fnG {pins : List (Addr × Obj)} {σ : L2.St} {s : Shared} {Q : VK} {us : List Value} {vs : List V} {ds : List D} {wd : Wd} {sv : VS} {args : Args} (G : FnG X.prog X.w X.K X.mg X.base k f fd ps F) (a : At X W k)
    (hb : BindsTo s fd args (ps.zip us)) (I : Inv X pins σ wd.H s) (rv : Vals vs us) (ok : wd.Ok X.K) (sl : Slots X.K wd sv σ) (rd : Rps X.K wd ds vs) (hl : ds.length = ps.length) (h : PstE X W wd (callR sv (F ds wd.h)) Q) :
    codeAny (model X.prog X.w) X.A (.call (.ref f) args) (fun r s' => match r with | .ok (.ret u) => EP X pins σ Q u s' | .ok _ => False | .error e => X.xe e s') s := by
  refine codeAny_mono (G.run X.A X.stack s args us vs ds wd Q (fun cls d H' => W cls d σ H') a.gd a.room I.env0 hl hb rv ok rd ?_) fun r s' hq => ?_
  · revert h
    cases F ds wd.h with
    | bad => exact fun z => z
    | ok p => exact fun z => z
    | ex x s' h' => exact fun z w' cls d ok' e x' rx => z w' cls d σ ok' e x' (sl.ext x') rx
  · cases r with
    | error e => exact a.tk e s' (XE.of_call (W := W) (E := fun cls d H' => W cls d σ H') I (fun _ _ _ z => z) hq)
    | ok fl =>
      cases fl with
      | ret u => exact I.after hq
      | next => exact hq.elim
      | brk => exact hq.elim
      | cont => exact hq.elim
theorem call_of {pins : List (Addr × Obj)} {σ : L2.St} {s : Shared} {Q : VK} {f : Value} {us : List Value} {kw : List (Str × Value)}
    (h : codeAny (model X.prog X.w) X.A (.call f ⟨us, kw⟩) (fun r s' => match r with | .ok (.ret u) => EP X pins σ Q u s' | .ok _ => False | .error e => X.xe e s') s) : wpAny (model X.prog X.w) X.A (call f us kw) (EP X pins σ Q) X.xe s :=
  wpAny_call (codeAny_mono h fun r s' hq => by
    cases r with
    | error e => exact hq
    | ok fl =>
      cases fl with
      | ret u => exact hq
      | next => exact hq.elim
      | brk => exact hq.elim
      | cont => exact hq.elim)

/-- how a def binds what is given by place -/
def BindP (K : PySem.W.Frag) (fd : FuncData) (ps : List Str) : Prop := ∀ us : List Value, us.length = ps.length → bindArgs fd ⟨us, []⟩ = pure (ps.zip us)
/-- .. by names ks behind so many by place: pl puts them in the parameters' order -/
structure BindK (fd : FuncData) (ps ks : List Str) (n : Nat) (pl : {α : Type} → List α → List α → List α) : Prop where
  to : ∀ us ws : List Value, us.length = n → ws.length = ks.length → bindArgs fd ⟨us, ks.zip ws⟩ = pure (ps.zip (pl us ws))
  reps : ∀ (K : PySem.W.Frag) (w : Wd) (ds es : List D) (vs zs : List V), Rps K w ds vs → Rps K w es zs → Rps K w (pl ds es) (pl vs zs)
  vals : ∀ (vs zs : List V) (us ws : List Value), Vals vs us → Vals zs ws → Vals (pl vs zs) (pl us ws)

variable {x : Str} {p pos : Pos} {e : Expr} {es : List Expr} {g : VA}
theorem qCall (G : FnG X.prog X.w X.K X.mg X.base k f fd ps F) (a : At X W k) (hm : X.mg x = some (.ref f)) (hk : PySem.W.keepIn X.K (.ref f) = true) (hb : BindP X.K fd ps) (ha : PA X (e :: es) (gA X W g)) (hg : Gl X x := by rfl)
    (hdb : (x == ("__debug__" : Str)) = false := by decide) (he : starEach (e :: es) X.env = (false, eval e X.env) :: starEach es X.env := by rfl) (hpl : (backTo pos (starEach es X.env)).any (·.1) = false := by rfl) :
    PE X (.Call (.Name x p) (e :: es) [] pos) (gE X W (vCall ps.length F g)) := by
  refine ⟨fun pins s σ H Q I ⟨wd, sv, hH, ok, sl, hp⟩ => ?_⟩
  subst hH
  refine wpAny_Call_Name_kw (ld_glob I hg hm ?_ hdb)
  refine PySem.W.callWith_K (h₀ := X.base) I.ok.mod.kin hk ?_ he hpl
  have q : gA X W g σ wd.H fun vs H1 => ∃ w1 ds, w1.H = H1 ∧ w1.Ok X.K ∧ Slots X.K w1 sv σ ∧ Rps X.K w1 ds vs ∧ ds.length = ps.length ∧ PstE X W w1 (callR sv (F ds w1.h)) Q := by
    refine gA.seq ok sl (wE wd Q) hp fun ds w1 vs ok1 x1 sl1 r1 hp1 => ?_
    by_cases hl : ds.length = ps.length
    · simp only [if_pos hl] at hp1
      exact ⟨w1, ds, rfl, ok1, sl1, r1, hl, hp1.mono x1⟩
    · simp only [if_neg hl] at hp1
      exact hp1.elim
  refine thn (ha.run pos pins s σ wd.H _ I q) fun us s1 ⟨vs, H1, I1, rv, w1, ds, hH1, ok1, sl1, r1, hl, hp1⟩ => ⟨I1.kIn, ?_⟩
  subst hH1
  refine call_of (kw := []) (run_fnG (vs := vs) (us := us) G a (.of_eq (hb us ?_)) I1 rv ok1 sl1 r1 hl hp1)
  rw [← rv.length, ← RepL.length r1]
  exact hl
theorem qCall0 (G : FnG X.prog X.w X.K X.mg X.base k f fd [] F) (a : At X W k) (hm : X.mg x = some (.ref f)) (hk : PySem.W.keepIn X.K (.ref f) = true) (hb : BindP X.K fd []) (hg : Gl X x := by rfl)
    (hdb : (x == ("__debug__" : Str)) = false := by decide) : PE X (.Call (.Name x p) [] [] pos) (gE X W (vCall 0 F vNil)) := by
  refine ⟨fun pins s σ H Q I ⟨wd, sv, hH, ok, sl, hp⟩ => ?_⟩
  subst hH
  refine wpAny_Call_Name_kw (ld_glob I hg hm ?_ hdb)
  exact PySem.W.callWith_K0 I.kIn hk (call_of (us := []) (kw := []) (run_fnG (vs := []) (us := []) (ds := []) G a (.of_eq (hb [] rfl)) I .nil ok sl .nil rfl hp))

def gK (X : Cx) (W : WX) (f : VA) : TA := gA X W f
theorem qk0 : PK X [] (gA X W vNil) := ⟨fun pos pins s σ H Q I ⟨w, sv, hH, ok, sl, hp⟩ => pk_nil.run pos pins s σ H Q I (by
  subst hH
  exact hp w [] ok rfl (.refl w) .nil)⟩
theorem qk {nm : Option Str} {kpos : Pos} {kws : List Keyword} {fe : VE} {fk : VA} (ha : PE X e (gE X W fe)) (hr : PK X kws (gA X W fk)) : PK X (⟨nm, e, kpos⟩ :: kws) (gA X W (vCons fe fk)) :=
  ⟨fun pos pins s σ H Q I ⟨w, sv, hH, ok, sl, hp⟩ => (pk_cons ha hr).run pos pins s σ H Q I (by
    subst hH
    refine gE.seq ok sl (wA w Q) hp fun d w1 v ok1 x1 sl1 r1 hp1 => ?_
    refine gA.seq ok1 sl1 ((wA w Q).mono x1) hp1 fun d2 w2 v2 ok2 x2 sl2 r2 hp2 => ?_
    exact hp2 w2 (v :: v2) ok2 rfl (x1.trans x2) (.cons (x2.rp r1) r2))⟩
variable {kws : List Keyword} {ks : List Str} {n : Nat} {pl : {α : Type} → List α → List α → List α} {gk : VA}
theorem qCallK (G : FnG X.prog X.w X.K X.mg X.base k f fd ps F) (a : At X W k) (hm : X.mg x = some (.ref f)) (hk : PySem.W.keepIn X.K (.ref f) = true) (hb : BindK fd ps ks n pl) (ha : PA X (e :: es) (gA X W g)) (hkw : PK X kws (gA X W gk))
    (hn : (e :: es).length = n := by rfl) (hg : Gl X x := by rfl) (hall : (backToKw pos (keywordEach kws X.env)).all (·.1.isSome) = true := by rfl) (hks : (backToKw pos (keywordEach kws X.env)).filterMap (·.1) = ks := by rfl)
    (hdb : (x == ("__debug__" : Str)) = false := by decide) (he : starEach (e :: es) X.env = (false, eval e X.env) :: starEach es X.env := by rfl)
    (hpl : ((backTo pos (starEach (e :: es) X.env)).any (·.1) || (backToKw pos (keywordEach kws X.env)).any (·.1.isNone)) = false := by rfl) :
    PE X (.Call (.Name x p) (e :: es) kws pos) (gE X W (vCallK ps.length F (fun a b => if a.length = n ∧ b.length = ks.length then pl a b else List.replicate (ps.length + 1) .non) g gk)) := by
  refine ⟨fun pins s σ H Q I ⟨wd, sv, hH, ok, sl, hp⟩ => ?_⟩
  subst hH
  refine wpAny_Call_Name_kw (ld_glob I hg hm ?_ hdb)
  refine PySem.W.callWith_KW (h₀ := X.base) I.ok.mod.kin hk hall ?_ hpl he
  have q : gA X W g σ wd.H fun vs H1 => gA X W gk σ H1 fun zs H2 => ∃ w2 ds es, w2.H = H2 ∧ w2.Ok X.K ∧ Slots X.K w2 sv σ ∧ Rps X.K w2 ds vs ∧ Rps X.K w2 es zs ∧ ds.length = n ∧ es.length = ks.length ∧ (pl ds es).length = ps.length ∧ PstE X W w2 (callR sv (F (pl ds es) w2.h)) Q := by
    refine gA.seq ok sl (wE wd Q) hp fun ds w1 vs ok1 x1 sl1 r1 hp1 => ?_
    refine gA.seq ok1 sl1 ((wE wd Q).mono x1) hp1 fun es w2 zs ok2 x2 sl2 r2 hp2 => ?_
    simp only at hp2
    by_cases hn : ds.length = n ∧ es.length = ks.length
    · rw [if_pos hn] at hp2
      by_cases hl : (pl ds es).length = ps.length
      · rw [if_pos hl] at hp2
        exact ⟨w2, ds, es, rfl, ok2, sl2, x2.rps r1, r2, hn.1, hn.2, hl, hp2.mono (x1.trans x2)⟩
      · rw [if_neg hl] at hp2
        exact hp2.elim
    · rw [if_neg hn] at hp2
      rw [if_neg (by simp)] at hp2
      exact hp2.elim
  refine thn (ha.run pos pins s σ wd.H _ I q) fun us s1 ⟨vs, H1, I1, rv, q1⟩ => ?_
  refine thn (hkw.run pos pins s1 σ H1 _ I1 q1) fun ws s2 ⟨zs, H2, I2, rz, w2, ds, es, hH2, ok2, sl2, r1, r2, n1, n2, hl, hp2⟩ => ⟨I2.kIn, ?_⟩
  subst hH2
  rw [hks]
  have e1 : us.length = n := by rw [← rv.length, ← RepL.length r1]; exact n1
  have e2 : ws.length = ks.length := by rw [← rz.length, ← RepL.length r2]; exact n2
  exact call_of (run_fnG (ds := pl ds es) (vs := pl vs zs) (us := pl us ws) G a (.of_eq (hb.to us ws e1 e2)) I2 (hb.vals vs zs us ws rv rz) ok2 sl2 (hb.reps _ _ ds es vs zs r1 r2) hl hp2)
theorem qCallK0 (G : FnG X.prog X.w X.K X.mg X.base k f fd ps F) (a : At X W k) (hm : X.mg x = some (.ref f)) (hk : PySem.W.keepIn X.K (.ref f) = true) (hb : BindK fd ps ks 0 pl) (hkw : PK X kws (gA X W gk))
    (hg : Gl X x := by rfl) (hall : (backToKw pos (keywordEach kws X.env)).all (·.1.isSome) = true := by rfl) (hks : (backToKw pos (keywordEach kws X.env)).filterMap (·.1) = ks := by rfl)
    (hdb : (x == ("__debug__" : Str)) = false := by decide)
    (hpl : ((backTo pos (starEach [] X.env)).any (·.1) || (backToKw pos (keywordEach kws X.env)).any (·.1.isNone)) = false := by rfl) :
    PE X (.Call (.Name x p) [] kws pos) (gE X W (vCallK ps.length F (fun a b => if a.length = 0 ∧ b.length = ks.length then pl a b else List.replicate (ps.length + 1) .non) vNil gk)) := by
  refine ⟨fun pins s σ H Q I ⟨wd, sv, hH, ok, sl, hp⟩ => ?_⟩
  subst hH
  refine wpAny_Call_Name_kw (ld_glob I hg hm ?_ hdb)
  refine PySem.W.callWith_KW0 (h₀ := X.base) I.ok.mod.kin hk hall ?_ hpl
  have q : gA X W gk σ wd.H fun zs H2 => ∃ w2 es, w2.H = H2 ∧ w2.Ok X.K ∧ Slots X.K w2 sv σ ∧ Rps X.K w2 es zs ∧ es.length = ks.length ∧ (pl [] es).length = ps.length ∧ PstE X W w2 (callR sv (F (pl [] es) w2.h)) Q := by
    refine gA.seq (f := gk) ok sl (wE wd Q) hp fun es w2 zs ok2 x2 sl2 r2 hp2 => ?_
    simp only at hp2
    by_cases hn : ([] : List D).length = 0 ∧ es.length = ks.length
    · rw [if_pos hn] at hp2
      by_cases hl : (pl [] es).length = ps.length
      · rw [if_pos hl] at hp2
        exact ⟨w2, es, rfl, ok2, sl2, r2, hn.2, hl, hp2.mono x2⟩
      · rw [if_neg hl] at hp2
        exact hp2.elim
    · rw [if_neg hn] at hp2
      rw [if_neg (by simp)] at hp2
      exact hp2.elim
  refine thn (hkw.run pos pins s σ wd.H _ I q) fun ws s2 ⟨zs, H2, I2, rz, w2, es, hH2, ok2, sl2, r2, n2, hl, hp2⟩ => ⟨I2.kIn, ?_⟩
  subst hH2
  rw [hks]
  have e2 : ws.length = ks.length := by rw [← rz.length, ← RepL.length r2]; exact n2
  exact call_of (run_fnG (ds := pl [] es) (vs := pl [] zs) (us := pl [] ws) G a (.of_eq (hb.to [] ws rfl e2)) I2 (hb.vals [] zs [] ws .nil rz) ok2 sl2 (hb.reps _ _ [] es [] zs .nil r2) hl hp2)
end

/-! ### saying it more plainly -/
mutual
def D.lt (n : Nat) : D → Bool
  | .tup l => D.ltAll n l
  | .ftup l => D.ltAll n l
  | .dic _ l => D.ltAll n l
  | .ref k => decide (k < n)
  | .non => true
  | .bl _ => true
  | .int _ => true
  | .str _ => true
def D.ltAll (n : Nat) : List D → Bool
  | [] => true
  | d :: r => D.lt n d && D.ltAll n r
end
def Cell.lt (n : Nat) : Cell → Bool
  | .lst l => D.ltAll n l
  | .ro l => D.ltAll n l
/-- no address leads out of the heap -/
def closed (h : VH) : Prop := ∀ c ∈ h, Cell.lt h.length c = true

mutual
theorem RepV.cut {K : PySem.W.Frag} {ι : Nat → Addr} {n m : Nat} {H : Hp} : ∀ {d : D} {v : V}, RepV K ι n H d v → D.lt m d = true → RepV K ι m H d v
  | _, _, .non, _ => .non
  | _, _, .bl b, _ => .bl b
  | _, _, .int i, _ => .int i
  | _, _, .str s, _ => .str s
  | _, _, .tup h r, e => .tup h (r.cut (by simpa [D.lt] using e))
  | _, _, .ftup h r, e => .ftup h (r.cut (by simpa [D.lt] using e))
  | _, _, .dic h r, e => .dic h (r.cut (by simpa [D.lt] using e))
  | _, _, .ref h, e => .ref (by simpa [D.lt] using e)
theorem RepL.cut {K : PySem.W.Frag} {ι : Nat → Addr} {n m : Nat} {H : Hp} : ∀ {d : List D} {v : List V}, RepL K ι n H d v → D.ltAll m d = true → RepL K ι m H d v
  | _, _, .nil, _ => .nil
  | _, _, .cons h r, e => by
    simp only [D.ltAll, Bool.and_eq_true] at e
    exact .cons (h.cut e.1) (r.cut e.2)
end
mutual
theorem RepV.in {K : PySem.W.Frag} {ι : Nat → Addr} {n : Nat} {H : Hp} : ∀ {d : D} {v : V}, RepV K ι n H d v → D.lt n d = true
  | _, _, .non => by simp [D.lt]
  | _, _, .bl b => by simp [D.lt]
  | _, _, .int i => by simp [D.lt]
  | _, _, .str s => by simp [D.lt]
  | _, _, .tup h r => by simp only [D.lt]; exact r.in
  | _, _, .ftup h r => by simp only [D.lt]; exact r.in
  | _, _, .dic h r => by simp only [D.lt]; exact r.in
  | _, _, .ref h => by simpa [D.lt] using h
theorem RepL.in {K : PySem.W.Frag} {ι : Nat → Addr} {n : Nat} {H : Hp} : ∀ {d : List D} {v : List V}, RepL K ι n H d v → D.ltAll n d = true
  | _, _, .nil => by simp [D.ltAll]
  | _, _, .cons h r => by simp only [D.ltAll, Bool.and_eq_true]; exact ⟨h.in, r.in⟩
end
theorem Wd.Ok.closed {K : PySem.W.Frag} {w : Wd} (ok : w.Ok K) : closed w.h := fun c hc => by
  obtain ⟨n, hn, rfl⟩ := List.mem_iff_getElem.mp hc
  have q := ok.cell n _ (List.getElem?_eq_getElem hn)
  revert q
  cases w.h[n] with
  | lst l => rintro ⟨vs, _, r⟩; exact r.in
  | ro l => rintro ⟨vs, _, r⟩; exact r.in
/-- the first part of a heap -/
def Wd.cut (w : Wd) (h : VH) : Wd := ⟨w.ι, h, w.H⟩
theorem Wd.Ok.cut {K : PySem.W.Frag} {w : Wd} {h g : VH} (ok : w.Ok K) (e : w.h = h ++ g) (c : Vq.closed h) : (w.cut h).Ok K := by
  have at_ : ∀ n c, h[n]? = some c → w.h[n]? = some c := fun n c q => by
    rw [e, List.getElem?_append_left (List.getElem?_eq_some_iff.mp q).1]
    exact q
  refine ⟨fun n d q => ?_, fun n m a b ha hb => ok.inj n m a b (at_ n a ha) (at_ m b hb)⟩
  have z := ok.cell n d (at_ n d q)
  have hd := c d (List.mem_of_getElem? q)
  cases d with
  | lst l =>
    obtain ⟨vs, h1, h2⟩ := z
    exact ⟨vs, h1, h2.cut hd⟩
  | ro l =>
    obtain ⟨vs, h1, h2⟩ := z
    exact ⟨vs, h1, h2.cut hd⟩

/-- F' says the same as F, but for what F leaves behind at the heap's end -/
def Says (F' F : Fn) : Prop :=
  ∀ (ds : List D) (h : VH), closed h → D.ltAll h.length ds = true → match F' ds h with
    | .ok (d, h') => (∃ g, F ds h = .ok (d, h' ++ g)) ∧ h.length ≤ h'.length ∧ closed h' ∧ D.lt h'.length d = true
    | .ex x _ h' => (∃ s g, F ds h = .ex x s (h' ++ g)) ∧ h.length ≤ h'.length ∧ closed h' ∧ D.ltAll h'.length (x.fs.map (·.2)) = true
    | .bad => True
theorem FnG.says {P : Program} {w : World} {K : PySem.W.Frag} {mg : Str → Option Value} {base : Heap} {k : Nat} {f : Addr} {fd : FuncData} {ps : List Str} {F F' : Fn} (G : FnG P w K mg base k f fd ps F) (h : Says F' F) : FnG P w K mg base k f fd ps F' := by
  refine ⟨fun A outer s args us vs ds wd Q E hg hr e0 hl bt rv ok rd hp => G.run A outer s args us vs ds wd Q E hg hr e0 hl bt rv ok rd ?_⟩
  have z := h ds wd.h ok.closed rd.in
  revert z hp
  cases F' ds wd.h with
  | bad => exact fun q => q.elim
  | ok p =>
    obtain ⟨d, h'⟩ := p
    rintro hp ⟨⟨g, e⟩, hl, hc, hd⟩
    rw [e]
    intro w' v ok' e' x' r'
    have e' : w'.h = h' ++ g := e'
    exact hp (w'.cut h') v (ok'.cut e' hc) rfl ⟨hl, x'.ι, x'.tup, x'.tp, x'.dk, x'.dp⟩ (r'.cut hd)
  | ex x s h' =>
    rintro hp ⟨⟨s2, g, e⟩, hl, hc, hd⟩
    rw [e]
    intro w' cls d ok' e' x' rx
    have e' : w'.h = h' ++ g := e'
    refine hp (w'.cut h') cls d (ok'.cut e' hc) rfl ⟨hl, x'.ι, x'.tup, x'.tp, x'.dk, x'.dp⟩ ⟨rx.1, rx.2.imp id fun ⟨a, fs, h1, h2, h3, h4, h5⟩ => ⟨a, fs, h1, h2, h3, h4, h5.cut hd⟩⟩
end Vq

/-! Part 6: the law's own call, at the heap that the top leaves. The script is the first cell, a list that nobody writes to. -/
namespace Vq
open PySem PySem.Spec PyProof.Rows L2

/-- the script as a heap of one cell -/
def scriptH (ns : List Int) : VH := [.ro (ns.map D.int)]
theorem reps_ints (K : PySem.W.Frag) (ι : Nat → Addr) (n : Nat) (H : Hp) : ∀ ns : List Int, RepL K ι n H (ns.map D.int) (ns.map V.int)
  | [] => .nil
  | i :: r => .cons (.int i) (reps_ints K ι n H r)
theorem ro_of {K : PySem.W.Frag} {H : Hp} {a : Addr} {xs : List V} (hO : Only H) (h : SqL K H a xs) : RoL K H a xs := by
  rcases h with (h | ⟨ob, h⟩) | h
  · rcases hO a with z | ⟨o, ys, z⟩ <;> rw [h] at z <;> cases z
  · exact .inl ⟨ob, h⟩
  · exact .inr h
theorem script_ok {K : PySem.W.Frag} {H : Hp} {a : Addr} {ns : List Int} (h : RoL K H a (ns.map V.int)) : (Wd.mk (fun _ => a) (scriptH ns) H).Ok K := by
  refine ⟨fun n c e => ?_, fun n m c d h1 h2 m1 m2 _ => ?_⟩
  · match n, e with
    | 0, e =>
      cases e
      exact ⟨_, h, reps_ints K _ _ _ ns⟩
    | n + 1, e => cases e
  · match n, m, h1, h2 with
    | 0, 0, _, _ => rfl
    | n + 1, _, h1, _ => cases h1
    | _, m + 1, _, h2 => cases h2

/-- the module table stands in the base -/
class SysIn (base : Heap) : Prop where
  h : base.get? sysModules ≠ none
theorem lawG {P : Program} {w : World} {K : PySem.W.Frag} {mg mb : Str → Option Value} {k : Nat} {fa a : Addr} {fd : FuncData} {x : Str} {F : Fn} {s : Shared} {vs : List Value} {ns : List Int}
    (KX : K.In s.heap) (hns : s.heap.Ns mainGlobals mg) (hb : s.heap.Ns builtinsNs mb) (hbb : ∀ x : Str, x ≠ "__name__" → mb x = bootBuiltins x) (hlim : s.heap.NoLimit) {mm : Str → Option Value} (hsy : s.heap.Ns sysModules mm)
    (hg : s.gens = #[]) (ha : s.heap.get? a = some { cls := .type "list", data := .seq vs.toArray }) (hi : IntsAre vs ns) (hl : ns.length ≤ sizeLine) (hr : Room k callerA)
    (G : ∀ base : Heap, K.In base → base.Ns mainGlobals mg → SysIn base → FnG P w K mg base k fa fd [x] F) (hbind : ∀ u : Value, bindArgs fd ⟨[u], []⟩ = pure [(x, u)])
    (hF : ∃ h', F [.ref 0] (scriptH ns) = .ok (.bl true, h')) :
    codeAny (model P w) callerA (.call (.ref fa) ⟨[.ref a], []⟩) (fun r s' => r = .ok (.ret (.bool true)) ∧ OldK s.heap s'.heap ∧ s'.os = s.os ∧ AllBare s'.gens) s := by
  have rv := vals_ints hi
  have go : ∀ H : Hp, Only H → SqL K H a (ns.map V.int) → HOk P w H s.heap → (∀ b, H b ≠ none → b = a) → (H a ≠ none → K.lookup a = none) →
      codeAny (model P w) callerA (.call (.ref fa) ⟨[.ref a], []⟩) (fun r s' => r = .ok (.ret (.bool true)) ∧ OldK s.heap s'.heap ∧ s'.os = s.os ∧ AllBare s'.gens) s := by
    intro H hO hS hok hA hK
    have free : ∀ {b : Addr} {o : Obj} {es : Array DictEntry} {ep : Nat}, s.heap.get? b = some o → o.data = .dict es ep → H b = none := by
      intro b o es ep e d
      cases q : H b with
      | none => rfl
      | some u =>
        have e' : b = a := hA b (by rw [q]; exact fun z => nomatch z)
        subst e'
        rw [ha] at e
        cases e
        have d' : Data.seq vs.toArray _ = Data.dict es ep := d
        cases d'
    have ns1 : ∀ {b : Addr} {m : Str → Option Value}, s.heap.Ns b m → (hidT s.heap H).Ns b m := by
      rintro b m ⟨o, es, ep, e, d, r⟩
      exact ⟨o, es, ep, hidT_get e (free e d), d, r⟩
    have inB : K.In (hidT s.heap H) := by
      intro b o e
      refine hidT_get (KX b o e) ?_
      cases q : H b with
      | none => rfl
      | some u =>
        have e' : b = a := hA b (by rw [q]; exact fun z => nomatch z)
        subst e'
        rw [hK (by rw [q]; exact fun z => nomatch z)] at e
        cases e
    have hM : Mod K mg (hidT s.heap H) := ⟨inB, ns1 hns, ⟨mb, ns1 hb, hbb⟩, by
      obtain ⟨mc, h1, h2⟩ := hlim
      exact ⟨mc, ns1 h1, h2⟩⟩
    have e0 : Env0 P w K mg (hidT s.heap H) callerA [] s H :=
      ⟨rfl, hM, fun b o e => of_hidT e, Nat.le_of_eq (hidT_size _ _), trivial, fun b hb => absurd (show b ∈ ([] : List Addr) from hb) List.not_mem_nil, hok, .of_eq hg⟩
    obtain ⟨h', hF⟩ := hF
    have hsi : SysIn (hidT s.heap H) := ⟨by
      obtain ⟨o, es, ep, e, _⟩ := ns1 hsy
      rw [e]
      exact fun z => nomatch z⟩
    have run := (G _ inB (ns1 hns) hsi).run callerA [] s ⟨[.ref a], []⟩ [.ref a] [.ref a] [.ref 0] (Wd.mk (fun _ => a) (scriptH ns) H) (fun v _ => v = .bl true) (fun _ _ _ => False) rfl hr e0 rfl
      (.of_eq (hbind (.ref a))) (.cons rfl .nil) (script_ok (ro_of hO hS)) (.cons (.ref (k := 0) (Nat.zero_lt_one)) .nil) (by
        rw [hF]
        intro w' v _ _ _ r
        have r' : RepV K w'.ι w'.h.length w'.H (.bl true) v := r
        cases r'
        rfl)
    refine codeAny_mono run fun r s' h => ?_
    cases r with
    | error e =>
      obtain ⟨_, _, _, _, _, _, _, _, _, _, _, _, z⟩ := h
      exact z.elim
    | ok fl =>
      cases fl with
      | next => exact h.elim
      | brk => exact h.elim
      | cont => exact h.elim
      | ret u =>
        obtain ⟨v, H', os, bare, un, hok', r', q⟩ := h
        have q' : v = .bl true := q
        subst q'
        obtain rfl : u = Value.bool true := r'
        refine ⟨rfl, OldK.of_keep fun b o e => ?_, os, bare⟩
        cases q : H b with
        | none => exact un.keep b o e q (fun z => absurd (show b ∈ ([] : List Addr) from z) List.not_mem_nil) List.not_mem_nil
        | some u =>
          rcases hO b with z | ⟨ob, xs, z⟩
          · rw [q] at z
            cases z
          · obtain ⟨e1, _⟩ := hok b _ z
            obtain ⟨e2, _⟩ := hok' b _ (un.frzs b ob _ z)
            rw [e] at e1
            cases e1
            exact e2
  have lenV := hi.length
  cases hk : K.lookup a with
  | some o =>
    have e := KX a o hk
    rw [ha] at e
    cases e
    refine go (fun _ => none) (fun _ => .inl rfl) (.inr ⟨_, vs.toArray, _, hk, rfl, rfl, rfl, by rw [List.size_toArray, lenV]; exact hl, by simpa using rv⟩) (fun b u z => by
      have z' : (none : Option HO) = some u := z
      cases z') (fun b z => absurd rfl z) fun z => absurd rfl z
  | none =>
    refine go (fun b => if b = a then some (.frz { cls := .type "list", data := .seq vs.toArray } (.lst (ns.map V.int))) else none) (fun b => ?_) (.inl (.inr ⟨{ cls := .type "list", data := .seq vs.toArray }, if_pos rfl⟩))
      (fun b u z => ?_) (fun b z => ?_) fun _ => hk
    · by_cases hb : b = a
      · exact .inr ⟨_, _, if_pos hb⟩
      · exact .inl (if_neg hb)
    · by_cases hb : b = a
      · have z' := (if_pos hb).symm.trans z
        cases z'
        subst hb
        exact ⟨ha, by rw [List.length_map]; exact hl, vs, _, rv, ha⟩
      · have z' := (if_neg hb).symm.trans z
        cases z'
    · by_cases hb : b = a
      · exact hb
      · exact absurd (if_neg hb) z

/-- what k_head leaves -/
theorem walkG {l : PySem.W.OpenLaw} {n k : Nat} {q : Program} {loose : List Str} {XP : (Str → Option Value) → Heap → Prop} {YP : World → Heap → Prop} {d : DefRec} {K : Params → PySem.W.Frag} {F : Fn} {x : Str}
    (hn : l.most = some n) (hn2 : n ≤ sizeLine) (hdf : d.params.defaults = []) (hr : Room k callerA) (hY : ∀ (w : World) (h : Heap), YP w h → (K w.params).In h)
    (G : ∀ (w : World) (mg : Str → Option Value) (fa : Addr) (h : Heap), (K w.params).In h → h.Ns mainGlobals mg → mg d.name = some (.ref fa) →
      ∃ fd : FuncData, (∀ u : Value, bindArgs fd ⟨[u], []⟩ = pure [(x, u)]) ∧ ∀ base : Heap, (K w.params).In base → base.Ns mainGlobals mg → SysIn base → FnG l.prog w (K w.params) mg base k fa fd [x] F)
    (hF : ∀ ns : List Int, ns.length ≤ n → ∃ h', F [.ref 0] (scriptH ns) = .ok (.bl true, h')) (hi : importsNone q = true) : PySem.W.WalkO q loose XP YP l.row.toRowW d [] (fun f vs => PySem.call f vs) := by
  refine Att.attach_call hn hdf fun w s₀ s₁ mg mb fa o pm cd doc a vs ns Gr Y ho hd hcd hmg hobj hints hlen hg => ?_
  obtain ⟨fd, hb, hG⟩ := G w mg fa _ (hY w _ Y) Gr.T.g hmg
  obtain ⟨mm, hm, _⟩ := (Gr.T.seer hi).mods
  exact lawG (hY w _ Y) Gr.T.g Gr.T.b Gr.T.builtins Gr.T.nolimit hm hg hobj hints (Nat.le_trans hlen hn2) hr hG hb (hF ns hlen)
end Vq

/-! Part 7: what operators and built-ins do upon values. -/
namespace Vq
open PySem PySem.Spec PyProof.Rows L2

/-! ### a list's items -/
def lk (h : VH) (n : Nat) : Option (List D) := match h[n]? with
  | some (.lst l) => some l
  | some (.ro l) => some l
  | none => none
theorem lk_sq {K : PySem.W.Frag} {w : Wd} {n : Nat} {ds : List D} (ok : w.Ok K) (e : lk w.h n = some ds) : ∃ vs, SqL K w.H (w.ι n) vs ∧ Rps K w ds vs := by
  unfold lk at e
  cases q : w.h[n]? with
  | none => rw [q] at e; cases e
  | some c =>
    have z := ok.cell n c q
    rw [q] at e
    cases c with
    | lst l =>
      cases e
      obtain ⟨vs, h1, h2⟩ := z
      exact ⟨vs, SqL.of h1, h2⟩
    | ro l =>
      cases e
      obtain ⟨vs, h1, h2⟩ := z
      exact ⟨vs, h1.sq, h2⟩
def seqOf (h : VH) : D → Option (List D)
  | .tup l => some l
  | .ref n => lk h n
  | .ftup l => some l
  | _ => none
theorem seqOf_sq {K : PySem.W.Frag} {w : Wd} {d : D} {v : V} {ds : List D} (ok : w.Ok K) (r : Rp K w d v) (e : seqOf w.h d = some ds) : ∃ a vs, v = .ref a ∧ (SqL K w.H a vs ∨ SqT K w.H a vs) ∧ Rps K w ds vs := by
  cases r with
  | tup hq rr => cases e; exact ⟨_, _, rfl, .inr hq, rr⟩
  | ftup hq rr => cases e; exact ⟨_, _, rfl, .inr hq.sq, rr⟩
  | ref hk =>
    obtain ⟨vs, h1, h2⟩ := lk_sq ok e
    exact ⟨_, vs, rfl, .inl h1, h2⟩
  | _ => cases e

/-! ### plain data, as the library says it -/
mutual
def pyD (f : Nat → Option PyData) : D → Option PyData
  | .non => some .none
  | .bl b => some (.bool b)
  | .int i => some (.int i)
  | .str s => some (.str s)
  | .tup l => (pyL f l).map .tuple
  | .ftup l => (pyL f l).map .tuple
  | .dic _ _ => none
  | .ref n => f n
def pyL (f : Nat → Option PyData) : List D → Option (List PyData)
  | [] => some []
  | d :: r => (pyD f d).bind fun a => (pyL f r).map fun b => a :: b
end
def refPy (h : VH) : Nat → Nat → Option PyData
  | 0, _ => none
  | k + 1, n => (lk h n).bind fun l => (pyL (refPy h k) l).map .list
def py (h : VH) (d : D) : Option PyData := pyD (refPy h 6) d

mutual
theorem pyD_dp {K : PySem.W.Frag} {w : Wd} {f : Nat → Option PyData} (hf : ∀ n p, f n = some p → Dp K w.H (.ref (w.ι n)) p) : ∀ {d : D} {v : V} {p : PyData}, Rp K w d v → pyD f d = some p → Dp K w.H v p
  | _, _, _, .non, e => by simp only [pyD] at e; cases e; exact .non
  | _, _, _, .bl b, e => by simp only [pyD] at e; cases e; exact .bl b
  | _, _, _, .int i, e => by simp only [pyD] at e; cases e; exact .int i
  | _, _, _, .str s, e => by simp only [pyD] at e; cases e; exact .str s
  | _, _, _, .tup h r, e => by
    simp only [pyD] at e
    obtain ⟨ps, e1, rfl⟩ := Option.map_eq_some_iff.mp e
    exact .tup h (pyL_dp hf r e1)
  | _, _, _, .ftup h r, e => by
    simp only [pyD] at e
    obtain ⟨ps, e1, rfl⟩ := Option.map_eq_some_iff.mp e
    exact .tup h.sq (pyL_dp hf r e1)
  | _, _, _, .dic _ _, e => by
    simp only [pyD] at e
    cases e
  | _, _, _, .ref _, e => by simp only [pyD] at e; exact hf _ _ e
theorem pyL_dp {K : PySem.W.Frag} {w : Wd} {f : Nat → Option PyData} (hf : ∀ n p, f n = some p → Dp K w.H (.ref (w.ι n)) p) : ∀ {d : List D} {v : List V} {p : List PyData}, Rps K w d v → pyL f d = some p → DpAll K w.H v p
  | _, _, _, .nil, e => by simp only [pyL] at e; cases e; exact .nil
  | _, _, _, .cons h r, e => by
    simp only [pyL] at e
    obtain ⟨a, ea, e⟩ := Option.bind_eq_some_iff.mp e
    obtain ⟨b, eb, rfl⟩ := Option.map_eq_some_iff.mp e
    exact .cons (pyD_dp hf h ea) (pyL_dp hf r eb)
end
theorem refPy_dp {K : PySem.W.Frag} {w : Wd} (ok : w.Ok K) : ∀ (k n : Nat) (p : PyData), refPy w.h k n = some p → Dp K w.H (.ref (w.ι n)) p
  | 0, _, _, e => by cases e
  | k + 1, n, p, e => by
    simp only [refPy] at e
    obtain ⟨l, el, e⟩ := Option.bind_eq_some_iff.mp e
    obtain ⟨ps, ep, rfl⟩ := Option.map_eq_some_iff.mp e
    obtain ⟨vs, h1, h2⟩ := lk_sq ok el
    exact .lst h1 (pyL_dp (refPy_dp ok k) h2 ep)
theorem py_dp {K : PySem.W.Frag} {w : Wd} {d : D} {v : V} {p : PyData} (ok : w.Ok K) (r : Rp K w d v) (e : py w.h d = some p) : Dp K w.H v p := pyD_dp (refPy_dp ok 6) r e

def eqWith (neg : Bool) (x y : D) (h : VH) : Option (D × VH) := match py h x, py h y with
  | some a, some b => if SeqAt.shaped a && SeqAt.shaped b then some (.bl (if neg then !PyData.eqv a b else PyData.eqv a b), h) else none
  | _, _ => none
/-! ### ints -/
def ii (f : Int → Int → Option D) (x y : D) (h : VH) : Option (D × VH) := match x, y with
  | .int i, .int j => (f i j).map fun d => (d, h)
  | _, _ => none
theorem opd_ii {K : PySem.W.Frag} {r : R2} {f : Int → Int → Option D} (hr : ∀ (i j : Int) (d : D) (H : Hp) (Q : VK), f i j = some d → (∀ v, (∀ w : Wd, Rp K w d v) → Q v H) → r (.int i) (.int j) H Q) : OpD K r (ii f) := fun w x y vx vy Q ok rx ry h => by
  cases rx with
  | int i =>
    cases ry with
    | int j =>
      unfold ii at h
      simp only at h
      cases e : f i j with
      | none => rw [e] at h; exact h.elim
      | some d =>
        rw [e] at h
        exact hr i j d w.H Q e fun v hv => h w v ok rfl (.refl w) (hv w)
    | _ => exact h.elim
  | _ => cases ry <;> exact h.elim
theorem opd_or {K : PySem.W.Frag} {r r' : R2} {f f' g : D → D → VH → Option (D × VH)} (a : OpD K r f) (b : OpD K r' f') (h : ∀ x y hp, (g x y hp = f x y hp) ∨ (g x y hp = f' x y hp)) : OpD K (fun x y H Q => r x y H Q ∨ r' x y H Q) g := fun w x y vx vy Q ok rx ry hp => by
  rcases h x y w.h with e | e
  · rw [e] at hp; exact .inl (a w x y vx vy Q ok rx ry hp)
  · rw [e] at hp; exact .inr (b w x y vx vy Q ok rx ry hp)
/-- two operations side by side: the second where the first is not said -/
def orD (f g : D → D → VH → Option (D × VH)) : D → D → VH → Option (D × VH) := fun x y h => match f x y h with
  | some p => some p
  | none => g x y h
theorem opd_orD {K : PySem.W.Frag} {r r' : R2} {f f' : D → D → VH → Option (D × VH)} (a : OpD K r f) (b : OpD K r' f') : OpD K (fun x y H Q => r x y H Q ∨ r' x y H Q) (orD f f') :=
  opd_or a b fun x y hp => by
    unfold orD
    cases e : f x y hp with
    | none => exact .inr rfl
    | some p => exact .inl rfl

theorem eqd_opd (K : PySem.W.Frag) : OpD K (rEqD K) (eqWith false) := fun w x y vx vy Q ok rx ry h => by
  unfold eqWith at h
  cases ea : py w.h x with
  | none => rw [ea] at h; exact h.elim
  | some a =>
    cases eb : py w.h y with
    | none => rw [ea, eb] at h; exact h.elim
    | some b =>
      simp only [ea, eb] at h
      by_cases hs : (SeqAt.shaped a && SeqAt.shaped b) = true
      · rw [if_pos hs] at h
        rw [Bool.and_eq_true] at hs
        exact ⟨a, b, py_dp ok rx ea, py_dp ok ry eb, hs.1, hs.2, h w _ ok rfl (.refl w) (.bl _)⟩
      · rw [if_neg hs] at h
        exact h.elim
theorem ned_opd (K : PySem.W.Frag) : OpD K (rNeD K) (eqWith true) := fun w x y vx vy Q ok rx ry h => by
  unfold eqWith at h
  cases ea : py w.h x with
  | none => rw [ea] at h; exact h.elim
  | some a =>
    cases eb : py w.h y with
    | none => rw [ea, eb] at h; exact h.elim
    | some b =>
      simp only [ea, eb] at h
      by_cases hs : (SeqAt.shaped a && SeqAt.shaped b) = true
      · rw [if_pos hs] at h
        rw [Bool.and_eq_true] at hs
        exact ⟨a, b, py_dp ok rx ea, py_dp ok ry eb, hs.1, hs.2, h w _ ok rfl (.refl w) (.bl _)⟩
      · rw [if_neg hs] at h
        exact h.elim

/-- two texts -/
def eqStr (neg : Bool) (x y : D) (h : VH) : Option (D × VH) := match x, y with
  | .str a, .str b => some (.bl (if neg then !decide (a = b) else decide (a = b)), h)
  | _, _ => none
theorem eqs_opd (K : PySem.W.Frag) : OpD K rEq (eqStr false) := fun w x y vx vy Q ok rx ry h => by
  cases rx with
  | str a =>
    cases ry with
    | str b =>
      have e : decide (V.str a = V.str b) = decide (a = b) := by simp
      exact ⟨rfl, by rw [e]; exact h w _ ok rfl (.refl w) (.bl _)⟩
    | _ => exact h.elim
  | _ => cases ry <;> exact h.elim
theorem nes_opd (K : PySem.W.Frag) : OpD K rNe (eqStr true) := fun w x y vx vy Q ok rx ry h => by
  cases rx with
  | str a =>
    cases ry with
    | str b =>
      have e : decide (V.str a = V.str b) = decide (a = b) := by simp
      exact ⟨rfl, by rw [e]; exact h w _ ok rfl (.refl w) (.bl _)⟩
    | _ => exact h.elim
  | _ => cases ry <;> exact h.elim
def dEq : D → D → VH → Option (D × VH) := orD (eqStr false) (eqWith false)
def dNe : D → D → VH → Option (D × VH) := orD (eqStr true) (eqWith true)
def rEqA (K : PySem.W.Frag) : R2 := fun x y H Q => rEq x y H Q ∨ rEqD K x y H Q
def rNeA (K : PySem.W.Frag) : R2 := fun x y H Q => rNe x y H Q ∨ rNeD K x y H Q
theorem eq_opd (K : PySem.W.Frag) : OpD K (rEqA K) dEq := opd_orD (eqs_opd K) (eqd_opd K)
theorem ne_opd (K : PySem.W.Frag) : OpD K (rNeA K) dNe := opd_orD (nes_opd K) (ned_opd K)
theorem eq_opr {X : Cx} (hu : X.A.units + 64 < cLine) : OpR X (compareOp .Eq) (rEqA X.K) := OpR.or op_eq (op_eqD hu)
theorem ne_opr {X : Cx} (hu : X.A.units + 64 < cLine) : OpR X (compareOp .NotEq) (rNeA X.K) := OpR.or op_ne (op_neD hu)

def aAdd := ii fun i j => some (.int (i + j))
def aSub := ii fun i j => some (.int (i - j))
theorem add_ii (K : PySem.W.Frag) : OpD K (rI0 fun i j => .int (i + j)) aAdd := opd_ii fun i j d H Q e q => by
  cases e
  exact ⟨i, j, rfl, rfl, q _ fun _ => .int _⟩
theorem sub_ii (K : PySem.W.Frag) : OpD K (rI0 fun i j => .int (i - j)) aSub := opd_ii fun i j d H Q e q => by
  cases e
  exact ⟨i, j, rfl, rfl, q _ fun _ => .int _⟩
/-- a product's size: one side small, or both bounded -/
def mulOk (i j : Int) : Bool := decide (-(2 ^ 64) < i ∧ i < 2 ^ 64) || decide (-(2 ^ 64) < j ∧ j < 2 ^ 64) || decide (i.natAbs.log2 + j.natAbs.log2 < 1000000)
def aMul := ii fun i j => if mulOk i j then some (.int (i * j)) else none
theorem mul_ii (K : PySem.W.Frag) : OpD K (fun x y H Q => rI CMul (fun i j => .int (i * j)) x y H Q ∨ rI CMulW (fun i j => .int (i * j)) x y H Q) aMul := opd_ii fun i j d H Q e q => by
  by_cases h : mulOk i j = true
  · rw [if_pos h] at e
    cases e
    unfold mulOk at h
    simp only [Bool.or_eq_true, decide_eq_true_eq] at h
    rcases h with (h | h) | h
    · exact .inl ⟨i, j, rfl, rfl, .inl h, q _ fun _ => .int _⟩
    · exact .inl ⟨i, j, rfl, rfl, .inr h, q _ fun _ => .int _⟩
    · exact .inr ⟨i, j, rfl, rfl, h, q _ fun _ => .int _⟩
  · rw [if_neg h] at e
    cases e
def divOk (j : Int) : Bool := (j != 0 && decide (j.natAbs < 1073741824)) || (decide (0 < j) && decide (j.natAbs.log2 < 9000))
def aFdv := ii fun i j => if divOk j then some (.int (i.fdiv j)) else none
theorem fdv_ii (K : PySem.W.Frag) : OpD K (fun x y H Q => rI CDivN (fun i j => .int (i.fdiv j)) x y H Q ∨ rI CDivW (fun i j => .int (i / j)) x y H Q) aFdv := opd_ii fun i j d H Q e q => by
  by_cases h : divOk j = true
  · rw [if_pos h] at e
    cases e
    unfold divOk at h
    simp only [Bool.or_eq_true, Bool.and_eq_true, decide_eq_true_eq, bne_iff_ne] at h
    rcases h with h | h
    · exact .inl ⟨i, j, rfl, rfl, h, q _ fun _ => .int _⟩
    · refine .inr ⟨i, j, rfl, rfl, h, ?_⟩
      have e : i.fdiv j = i / j := Int.fdiv_eq_ediv_of_nonneg i (Int.le_of_lt h.1)
      show Q (.int (i / j)) H
      rw [← e]
      exact q _ fun _ => .int _
  · rw [if_neg h] at e
    cases e
def aMod := ii fun i j => if j = 0 then none else some (.int (i.fmod j))
theorem mod_ii (K : PySem.W.Frag) : OpD K (rI (fun _ j => j ≠ 0) fun i j => .int (i.fmod j)) aMod := opd_ii fun i j d H Q e q => by
  by_cases h : j = 0
  · rw [if_pos h] at e
    cases e
  · rw [if_neg h] at e
    cases e
    exact ⟨i, j, rfl, rfl, h, q _ fun _ => .int _⟩
def powOk (i j : Int) : Bool := decide (0 ≤ j) && decide ((Builtin.Int.intBits i : Int) * j ≤ 2 ^ 27)
def aPow := ii fun i j => if powOk i j then some (.int (i ^ j.toNat)) else none
theorem op_powB {X : Cx} : OpR X (binaryOp .Pow) (rI (fun i j => powOk i j = true) fun i j => .int (i ^ j.toNat)) := by
  rintro pins s σ H x y v u Q I rx ry ⟨i, j, rfl, rfl, c, q⟩
  obtain ⟨t, rfl⟩ := rx
  obtain ⟨t', rfl⟩ := ry
  unfold powOk at c
  simp only [Bool.and_eq_true, decide_eq_true_eq] at c
  exact pow_int c.1 c.2 ⟨.int _, H, I.tok _, ⟨_, rfl⟩, q⟩
theorem pow_ii (K : PySem.W.Frag) : OpD K (rI (fun i j => powOk i j = true) fun i j => .int (i ^ j.toNat)) aPow := opd_ii fun i j d H Q e q => by
  by_cases h : powOk i j = true
  · rw [if_pos h] at e
    cases e
    exact ⟨i, j, rfl, rfl, h, q _ fun _ => .int _⟩
  · rw [if_neg h] at e
    cases e
def aLt := ii fun i j => some (.bl (decide (i < j)))
def aLe := ii fun i j => some (.bl (decide (i ≤ j)))
def aGt := ii fun i j => some (.bl (decide (j < i)))
def aGe := ii fun i j => some (.bl (decide (j ≤ i)))
theorem lt_ii (K : PySem.W.Frag) : OpD K (rI0 fun i j => .bl (decide (i < j))) aLt := opd_ii fun i j d H Q e q => by
  cases e
  exact ⟨i, j, rfl, rfl, q _ fun _ => .bl _⟩
theorem le_ii (K : PySem.W.Frag) : OpD K (rI0 fun i j => .bl (decide (i ≤ j))) aLe := opd_ii fun i j d H Q e q => by
  cases e
  exact ⟨i, j, rfl, rfl, q _ fun _ => .bl _⟩
theorem gt_ii (K : PySem.W.Frag) : OpD K (rI0 fun i j => .bl (decide (j < i))) aGt := opd_ii fun i j d H Q e q => by
  cases e
  exact ⟨i, j, rfl, rfl, q _ fun _ => .bl _⟩
theorem ge_ii (K : PySem.W.Frag) : OpD K (rI0 fun i j => .bl (decide (j ≤ i))) aGe := opd_ii fun i j d H Q e q => by
  cases e
  exact ⟨i, j, rfl, rfl, q _ fun _ => .bl _⟩
def uNeg (x : D) (h : VH) : Option (D × VH) := match x with
  | .int i => some (.int (-i), h)
  | _ => none
theorem neg_un (K : PySem.W.Frag) : UnD K (rU fun i => .int (-i)) uNeg := fun w x vx Q ok rx h => by
  cases rx with
  | int i => exact ⟨i, rfl, h w _ ok rfl (.refl w) (.int _)⟩
  | _ => exact h.elim

/-! ### tuples, lists, texts -/
def tAddT : D → D → VH → Option (D × VH) := fun x y h => match x, y with
  | .tup a, .tup b => if a.length + b.length ≤ sizeLine then some (.tup (a ++ b), h) else none
  | _, _ => none
theorem addT_opd (K : PySem.W.Frag) : OpD K (rCatA K) tAddT := fun w x y vx vy Q ok rx ry h => by
  cases rx with
  | tup hx rx =>
    cases ry with
    | tup hy ry =>
      unfold tAddT at h
      simp only at h
      rename_i a vs ds b us es
      by_cases hl : ds.length + es.length ≤ sizeLine
      · rw [if_pos hl] at h
        refine ⟨_, _, _, _, rfl, rfl, hx, hy, by rw [← rx.length, ← ry.length]; exact hl, fun e => ?_, fun e1 e2 => ?_, fun e1 e2 p hp => ?_⟩
        · subst e
          cases rx
          exact h w _ ok rfl (.refl w) (.tup hy ry)
        · subst e2
          cases ry
          rw [List.append_nil] at h
          exact h w _ ok rfl (.refl w) (.tup hx rx)
        · exact h (w.tupAt p (.tup (vs ++ us))) _ (ok.tupAt hp) rfl (Wd.ext_tupAt hp) (.tup (SqT.of upd_same) ((Wd.ext_tupAt hp).rps (rx.append ry)))
      · rw [if_neg hl] at h
        exact h.elim
    | _ => exact h.elim
  | _ => cases ry <;> exact h.elim
def tAddL : D → D → VH → Option (D × VH) := fun x y h => match x, y with
  | .ref m, .ref n => match h[m]?, h[n]? with
    | some (.lst a), some (.lst b) => if a.length + b.length ≤ sizeLine then some (.ref h.length, h ++ [.lst (a ++ b)]) else none
    | _, _ => none
  | _, _ => none
theorem addL_opd (K : PySem.W.Frag) : OpD K rCat tAddL := fun w x y vx vy Q ok rx ry h => by
  cases rx with
  | ref hm =>
    rename_i m
    cases ry with
    | ref hn =>
      rename_i n
      unfold tAddL at h
      simp only at h
      cases e1 : w.h[m]? with
      | none => rw [e1] at h; exact h.elim
      | some c1 =>
        cases e2 : w.h[n]? with
        | none => cases c1 <;> (simp only [e1, e2] at h; exact h.elim)
        | some c2 =>
          cases c1 with
          | ro _ => simp only [e1, e2] at h; exact h.elim
          | lst a =>
            cases c2 with
            | ro _ => simp only [e1, e2] at h; exact h.elim
            | lst b =>
              simp only [e1, e2] at h
              by_cases hl : a.length + b.length ≤ sizeLine
              · rw [if_pos hl] at h
                obtain ⟨us, h1, r1⟩ := ok.cell m _ e1
                obtain ⟨vs, h2, r2⟩ := ok.cell n _ e2
                refine ⟨_, _, us, vs, rfl, rfl, h1, h2, by rw [← r1.length, ← r2.length]; exact hl, fun p hp => ?_⟩
                exact h (w.newL p (a ++ b) (us ++ vs)) _ (ok.newL hp (r1.append r2)) rfl (Wd.ext_newL hp) at_newL
              · rw [if_neg hl] at h
                exact h.elim
    | _ => exact h.elim
  | _ => cases ry <;> exact h.elim
def tAddS : D → D → VH → Option (D × VH) := fun x y h => match x, y with
  | .str a, .str b => if a.length + b.length ≤ sizeLine then some (.str (a ++ b), h) else none
  | _, _ => none
theorem addS_opd (K : PySem.W.Frag) : OpD K (fun x y H Q => ∃ i j, x = .str i ∧ y = .str j ∧ i.length + j.length ≤ sizeLine ∧ Q (.str (i ++ j)) H) tAddS := fun w x y vx vy Q ok rx ry h => by
  cases rx with
  | str a =>
    cases ry with
    | str b =>
      unfold tAddS at h
      simp only at h
      by_cases hl : a.length + b.length ≤ sizeLine
      · rw [if_pos hl] at h
        exact ⟨a, b, rfl, rfl, hl, h w _ ok rfl (.refl w) (.str _)⟩
      · rw [if_neg hl] at h
        exact h.elim
    | _ => exact h.elim
  | _ => cases ry <;> exact h.elim
/-- +: ints, tuples, lists, texts -/
def dAdd : D → D → VH → Option (D × VH) := orD aAdd (orD tAddT (orD tAddL tAddS))
def orR (a b : R2) : R2 := fun x y H Q => a x y H Q ∨ b x y H Q
def rStrCat : R2 := fun x y H Q => ∃ i j, x = .str i ∧ y = .str j ∧ i.length + j.length ≤ sizeLine ∧ Q (.str (i ++ j)) H
def rAdd (K : PySem.W.Frag) : R2 := orR (rI0 fun i j => .int (i + j)) (orR (rCatA K) (orR rCat rStrCat))
theorem add_opd (K : PySem.W.Frag) : OpD K (rAdd K) dAdd := opd_orD (add_ii K) (opd_orD (addT_opd K) (opd_orD (addL_opd K) (addS_opd K)))
theorem add_opr {X : Cx} : OpR X (binaryOp .Add) (rAdd X.K) := OpR.or (op_add (X := X)) (OpR.or (op_catA (X := X)) (OpR.or (op_cat (X := X)) (op_add_str (X := X))))

/-! ### in, not in (flat things) -/
def flatD : D → Bool
  | .tup _ => false
  | .ftup _ => false
  | .dic _ _ => false
  | .ref _ => false
  | _ => true
def inWith (neg : Bool) (x y : D) (h : VH) : Option (D × VH) := match py h x, (seqOf h y).bind (pyL fun _ => none) with
  | some a, some l => if flatD x && ((seqOf h y).getD []).all flatD then some (.bl (if neg then !(l.any fun b => PyData.eqv b a) else l.any fun b => PyData.eqv b a), h) else none
  | _, _ => none

/-! ### subscripts -/
def dIx (x y : D) (h : VH) : Option (D × VH) := match y with
  | .int i => (seqOf h x).bind fun l => (atI l i).map fun d => (d, h)
  | _ => none
theorem atI_rep {K : PySem.W.Frag} {w : Wd} {ds : List D} {vs : List V} {i : Int} {d : D} (r : Rps K w ds vs) (e : atI ds i = some d) : ∃ v, atI vs i = some v ∧ Rp K w d v := by
  unfold atI at e ⊢
  rw [← RepL.length r]
  cases q : ixN ds.length i with
  | none => rw [q] at e; cases e
  | some j =>
    rw [q] at e
    obtain ⟨v, ev, rv⟩ := RepL.get r (i := j) e
    exact ⟨v, ev, rv⟩
theorem ix_opd (K : PySem.W.Frag) : OpD K (rIx K) dIx := fun w x y vx vy Q ok rx ry h => by
  cases ry with
  | int i =>
    unfold dIx at h
    simp only at h
    cases es : seqOf w.h x with
    | none => rw [es] at h; exact h.elim
    | some l =>
      rw [es] at h
      simp only [Option.bind_some] at h
      cases ea : atI l i with
      | none => rw [ea] at h; exact h.elim
      | some d =>
        rw [ea] at h
        obtain ⟨a, vs, rfl, hq, rr⟩ := seqOf_sq ok rx es
        obtain ⟨v, ev, rv⟩ := atI_rep rr ea
        have q := h w v ok rfl (.refl w) rv
        rcases hq with hq | hq
        · exact .inl ⟨a, vs, i, v, rfl, rfl, hq, ev, q⟩
        · exact .inr (.inl ⟨a, vs, i, v, rfl, rfl, hq, ev, q⟩)
  | _ => exact h.elim
end Vq

/-! Part 8: walks over tuples by enumerate; what built-ins do upon tuples; repr. -/
namespace Vq
open PySem PySem.Spec PyProof.Rows L2

/-! ### enumerate over what begins somehow -/
set_option maxHeartbeats 1000000 in
theorem meets_enum1 {v : Value} {o : Obj} {H : Heap → Prop} (B : Begins v o H) :
    Meets (Builtin.«enumerate.__new__» ⟨[.type "enumerate", v], []⟩) (fun _ R s => H s.heap ∧
      R (.ok (.ret (.ref (s.heap.push o).objs.size))) { s with heap := (s.heap.push o).push { cls := .type "enumerate", data := .fields #[.none, .bool false, .ref s.heap.objs.size, rawInt 0, .none, .none] } }) := by
  refine .of_wp fun prog w A R s h => ?_
  obtain ⟨hp, g, d, tk, os⟩ := s
  obtain ⟨h1, h⟩ := h
  have hsub := sub_enumerate
  have q1 : ∀ {A' : Around} {E : Value → Shared → Prop} {Q : Value → Shared → Prop}, Q (.ref hp.objs.size) ⟨hp.push o, g, d, tk, os⟩ →
      wpAny (model prog w) A' (pyIter v) Q E ⟨hp, g, d, tk, os⟩ := fun q => B.iter prog w _ _ ⟨hp, g, d, tk, os⟩ _ h1 q
  wp_walk using q1
  refine wpAny_stack_any fun st => wpAny_pure ?_
  split
  · rename_i c _ _ _ _ _
    cases (c == Value.type "enumerate") <;>
      (wp_walk using q1
       exact ⟨_, rfl, h⟩)
  · wp_walk using q1
    exact ⟨_, rfl, h⟩
section
variable {prog : Program} {w : World} {A : Around} {E : Value → Shared → Prop} {s : Shared}
theorem enum1_begins {v : Value} {o : Obj} {H : Heap → Prop} {Q : Value → Shared → Prop} (B : Begins v o H) (h1 : H s.heap)
    (h : ∀ h', IsEnum h' (s.heap.objs.size + 1) s.heap.objs.size 0 .none → h'.get? s.heap.objs.size = some o →
      (∀ b o, s.heap.get? b = some o → h'.get? b = some o) → Q (.ref (s.heap.objs.size + 1)) { s with heap := h' }) :
    wpAny (model prog w) A (call (.type "enumerate") [v]) Q E s := by
  refine callType_new F.called_enumerate (by decide) (F.typeCall_enumerate_1 _) (F.newCall_enumerate_1 _) (fun obj => F.args_object_init_2 obj _) F.entry_enumerate_new (meets_enum1 B) ⟨h1, ?_⟩
  have hz : (s.heap.push o).objs.size = s.heap.objs.size + 1 := Heap.size_push ..
  show _ ∧ _
  rw [hz]
  have he : IsEnum ((s.heap.push o).push { cls := .type "enumerate", data := .fields #[.none, .bool false, .ref s.heap.objs.size, rawInt 0, .none, .none] })
      (s.heap.objs.size + 1) s.heap.objs.size 0 .none := by
    have q := Heap.get?_push_size (s.heap.push o) (o := { cls := .type "enumerate", data := .fields #[.none, .bool false, .ref s.heap.objs.size, rawInt 0, .none, .none] }) rfl
    rw [hz] at q
    exact q
  exact ⟨⟨_, he, rfl⟩, h _ he (Heap.get?_push_of_some _ (Heap.get?_push_size _ B.free)) fun b o x => Heap.get?_push_of_some _ (Heap.get?_push_of_some _ x)⟩
end

/-- the tuple at a, of n items, numbered, in new pairs -/
def IteT (K : PySem.W.Frag) (a : Addr) (n : Nat) : It :=
  ⟨fun i H => ∃ xs x, SqT K H a xs ∧ xs.length = n ∧ xs[i]? = some x,
   fun i H v H' => ∃ T x, v = .ref T ∧ H T = none ∧ H' = upd H T (.tup [.int (i : Nat), x]) ∧ ∀ xs, SqT K H a xs → xs[i]? = some x,
   fun i H => ∃ xs, SqT K H a xs ∧ xs.length = n ∧ n ≤ i⟩
theorem tup_inj {X : Cx} {pins : List (Addr × Obj)} {σ : L2.St} {H : Hp} {s : Shared} {a : Addr} {xs ys : List V} (I : Inv X pins σ H s) (h : SqT X.K H a xs) (h' : SqT X.K H a ys) : xs = ys := by
  obtain ⟨its, r, ⟨o, e, _, n, d⟩, _⟩ := I.tuple h
  obtain ⟨its', r', ⟨o', e', _, n', d'⟩, _⟩ := I.tuple h'
  rw [e] at e'
  cases e'
  rw [d] at d'
  injection d' with d1 _
  have z : its = its' := by simpa using congrArg Array.toList d1
  subst z
  exact r.inj r'
theorem turn_enumT {P : Program} {w : World} {K : PySem.W.Frag} {elts : List Expr} {kk n : Nat} {tpos : Pos} (a e it : Addr) :
    Turn P w K (.Tuple elts kk tpos) (IteT K a n) [e, it] e (fun i h => (∃ old, IsEnum h e it ((i : Nat) : Int) old) ∧ h.IsTupleIter it a i ∧ e ≠ it ∧ i ≤ n) where
  mem := by simp
  obj := fun i h st b hb => by
    obtain ⟨⟨old, he⟩, ⟨o, ho, hc, hd⟩, _⟩ := st
    have e' : b = e ∨ b = it := by simpa using hb
    rcases e' with z | z
    · rw [z]
      exact ⟨_, he, fun v q => nomatch q⟩
    · rw [z]
      exact ⟨o, ho, fun v q => by rw [hd] at q; cases q⟩
  keep := fun i h h' st k => by
    obtain ⟨⟨old, he⟩, hi, hne, hn⟩ := st
    exact ⟨⟨old, k e (by simp) _ he⟩, hi.at fun o q => k it (by simp) o q, hne, hn⟩
  item := by
    intro X hP hw hK hc i pins s σ H E I hf st hg
    subst hP hw hK
    obtain ⟨⟨old, he⟩, hit, hne, hn⟩ := st
    obtain ⟨xs, x, hq, hlen, hx⟩ := hg
    obtain ⟨its, rv, p, hz⟩ := I.tuple hq
    obtain ⟨u, hu, ru⟩ := rv.get hx
    have hel : e < s.heap.objs.size := Heap.lt_size he
    have hil : it < s.heap.objs.size := by
      obtain ⟨_, q, _⟩ := hit
      exact Heap.lt_size q
    have pT : s.heap.IsTuple a its.toArray := p
    have hae : e ≠ a := by
      rintro rfl
      obtain ⟨o, eo, co, _⟩ := pT
      rw [show s.heap.get? e = _ from he] at eo
      cases eo
      injection co with z
      exact absurd z (by decide)
    have hai : a ≠ it := by
      rintro rfl
      obtain ⟨o, eo, co, _⟩ := pT
      obtain ⟨o2, e2, c2, _⟩ := hit
      rw [eo] at e2
      cases e2
      rw [co] at c2
      injection c2 with z
      exact absurd z (by decide)
    have hlt : i < its.toArray.size := by
      have := rv.length
      have := (List.getElem?_eq_some_iff.mp hx).1
      simp
      omega
    refine wpAny_pyNext_enum_itemD (Draws.tuple (show X.A.in1.handled = none from I.ok.hd hc) it a hai its.toArray) he ⟨hit, pT⟩ hlt hne (by simp [hne, hae]) fun x' h' tk hx' ho st' hT hsz hk => ?_
    have ex : x' = u := by
      have : its[i]? = some x' := by simpa using hx'
      rw [hu] at this
      exact (Option.some.inj this).symm
    subst ex
    refine ⟨_, rfl, wpAny_letOwnedTupleGo_enum (s := { s with heap := h', toks := tk + 1 }) ho fun h'' he' sb => ?_⟩
    have hT2 : h''.get? s.heap.objs.size = some { cls := .type "tuple", data := .seq #[.int i tk, x'] } := (sb.2 _ (Nat.ne_of_gt hel)).trans hT
    have new : ObjOk X.prog X.w (upd H s.heap.objs.size (.tup [.int (i : Nat), x])) h'' s.heap.objs.size (.tup [.int (i : Nat), x]) :=
      ⟨by show 2 ≤ sizeLine; decide, [.int i tk, x'], .cons ⟨_, rfl⟩ (.cons ru .nil), ⟨_, hT2, rfl, _, rfl⟩⟩
    have I1 : Inv X pins σ (upd H s.heap.objs.size (.tup [.int (i : Nat), x])) { s with heap := h'', toks := tk + 1 } :=
      I.turnedNew (ch := [e, it]) (fun b ob hb q => (sb.2 b (fun z => hb (by simp [z]))).trans (hk b ob (fun z => hb (by simp [z])) (fun z => hb (by simp [z])) q)) hf (Nat.le_refl _) new
    refine ⟨.ref s.heap.objs.size, _, I1, rfl, ⟨_, x, rfl, I.hok.fresh (Nat.le_refl _), rfl, fun ys hy => by rw [tup_inj I hy hq]; exact hx⟩, ⟨⟨x', ?_⟩, st'.1.at fun o q => (sb.2 it (Ne.symm hne)).trans q, hne, ?_⟩, fun b hb => ?_⟩
    · have e1 : ((i + 1 : Nat) : Int) = (i : Int) + 1 := by omega
      rw [e1]
      exact he'
    · have := (List.getElem?_eq_some_iff.mp hx).1
      omega
    · have hb' : b < s.heap.objs.size := by
        have e' : b = e ∨ b = it := by simpa using hb
        rcases e' with z | z
        · rw [z]; exact hel
        · rw [z]; exact hil
      rw [upd_ne (Nat.ne_of_lt hb')]
      exact (hf b hb).1
  done := by
    intro X hP hw hK hc i pins s σ H E I hf st hg
    subst hP hw hK
    obtain ⟨⟨old, he⟩, hit, hne, hn⟩ := st
    obtain ⟨xs, hq, hlen, hx⟩ := hg
    obtain ⟨its, rv, p, hz⟩ := I.tuple hq
    have pT : s.heap.IsTuple a its.toArray := p
    have hai : a ≠ it := by
      rintro rfl
      obtain ⟨o, eo, co, _⟩ := pT
      obtain ⟨o2, e2, c2, _⟩ := hit
      rw [eo] at e2
      cases e2
      rw [co] at c2
      injection c2 with z
      exact absurd z (by decide)
    have hi : its.toArray.size = i := by
      have := rv.length
      simp
      omega
    obtain ⟨f0, f1, f2, f3, f4, f5⟩ := hf it (by simp)
    exact wpAny_pyNext_enum_endD (Draws.tuple (show X.A.in1.handled = none from I.ok.hd hc) it a hai its.toArray) he (by rw [hi]; exact ⟨hit, pT⟩) fun h' eb => ⟨rfl, I.turned (t' := s.toks) (fun b o hb q => eb b o hb q) f0 f1 f3 f4 f5⟩
  self := fun A i s Q E st h => let ⟨⟨_, he⟩, _⟩ := st; wpAny_pyIter_enum he h
def iEnumT (K : PySem.W.Frag) (ta : TA) : TI := fun σ H R => ta σ H fun vs H1 => ∃ a xs, vs = [.ref a] ∧ SqT K H1 a xs ∧ R (IteT K a xs.length) H1
theorem pi_enumA {X : Cx} {e : Expr} {ta : TA} {p pos tpos : Pos} {elts : List Expr} {kk : Nat} (hg : Gl X "enumerate") (hm : X.mg "enumerate" = none) (ha : PA X [e] ta) (hs : starEach [e] X.env = [(false, eval e X.env)] := by rfl) :
    PI X (.Tuple elts kk tpos) (.Call (.Name "enumerate" p) [e] [] pos) (fun σ H R => ta σ H fun vs H1 => (∃ a xs, vs = [.ref a] ∧ SqL X.K H1 a xs ∧ R (Ite X.K a) H1) ∨ ∃ a xs, vs = [.ref a] ∧ SqT X.K H1 a xs ∧ R (IteT X.K a xs.length) H1) := by
  refine ⟨fun pins s σ H R I h => ?_⟩
  refine Call_ (ld_blt I hg hm boot_enumerate (PyProof.Rows.callWith_type1 (thn (ha.run pos pins s σ H _ I h) fun us s1 ⟨vs, H1, I1, r1, q1⟩ => ?_) hs rfl))
  rcases q1 with ⟨a, xs, ex, hq, q⟩ | ⟨a, xs, ex, hq, q⟩
  · subst ex
    cases r1 with
    | cons r rr =>
      cases rr
      cases r
      obtain ⟨its, rv, p', hz⟩ := I1.list hq
      refine call_enumerate_list p'.isList fun h' he hit hsz hk => wpAny_pyIter_enum he ?_
      have I2 : Inv X pins σ H1 { s1 with heap := h' } := I1.kept (t' := s1.toks) hk
      refine ⟨s1.heap.objs.size + 1, [s1.heap.objs.size + 1, s1.heap.objs.size], _, _, H1, rfl, I2, turn_enum a (s1.heap.objs.size + 1) s1.heap.objs.size, ⟨⟨.none, he⟩, hit, Nat.succ_ne_self _⟩, fun b hb => ?_, q⟩
      have hle : s1.heap.objs.size ≤ b := by
        rcases (show b = s1.heap.objs.size + 1 ∨ b = s1.heap.objs.size by simpa using hb) with z | z <;> rw [z]
        · exact Nat.le_add_right _ _
        · exact Nat.le_refl _
      exact I1.fpOk hle (I1.hok.fresh hle)
  · subst ex
    cases r1 with
    | cons r rr =>
      cases rr
      cases r
      obtain ⟨its, rv, p', hz⟩ := I1.tuple hq
      refine enum1_begins (begins_tuple a its.toArray) p' fun h' he hit hk => wpAny_pyIter_enum he ?_
      have I2 : Inv X pins σ H1 { s1 with heap := h' } := I1.kept (t' := s1.toks) hk
      refine ⟨s1.heap.objs.size + 1, [s1.heap.objs.size + 1, s1.heap.objs.size], _, _, H1, rfl, I2, turn_enumT (n := xs.length) a (s1.heap.objs.size + 1) s1.heap.objs.size, ⟨⟨.none, he⟩, ⟨_, hit, rfl, rfl⟩, Nat.succ_ne_self _, Nat.zero_le _⟩, fun b hb => ?_, q⟩
      have hle : s1.heap.objs.size ≤ b := by
        rcases (show b = s1.heap.objs.size + 1 ∨ b = s1.heap.objs.size by simpa using hb) with z | z <;> rw [z]
        · exact Nat.le_add_right _ _
        · exact Nat.le_refl _
      exact I1.fpOk hle (I1.hok.fresh hle)
end Vq

/-! Part 9: list(reversed(xs)), sums and extremes of tuples, repr. -/
namespace Vq
open PySem PySem.Spec PyProof.Rows L2
section
variable {prog : Program} {w : World} {A : Around} {E : Value → Shared → Prop} {s : Shared}
theorem init_rev {R : Result → Shared → Prop} {it l S : Addr} {items : Array Value} (hh : A.handled = none) (hit : s.heap.IsRevIter it l ((items.size : Int) - 1)) (hl : s.heap.IsList l items) (hne : l ≠ it) (hn : items.size ≤ sizeLine)
    (hS : s.heap.get? S = some { cls := .type "list", data := .seq #[] }) (hSi : S ≠ it) (hSl : S ≠ l)
    (hR : ∀ (h' : Heap) (tk : Nat) (acc : Array Value) (c : Nat), (∀ b o, b ≠ it → b ≠ S → s.heap.get? b = some o → h'.get? b = some o) → h'.get? S = some { cls := .type "list", dict := none, data := .seq acc c, slots := #[] } →
      ItemsOf (fun i v => items[items.size - 1 - i]? = some v) acc items.size → R (.ok (.ret .none)) { s with heap := h', toks := tk }) :
    wpAny (model prog w) A.in1 (Builtin.«list.__init__» ⟨[.ref S, .ref it], []⟩)
      (fun fin s' => match fin with | .done f => R (.ok f) s' | .again c' => c'.quiet = true ∧ codeAny (model prog w) A c' R s') (fun e s' => R (.error e) s') s := by
  have Wk := (Walks.listRev (prog := prog) (w := w) (A := A.in1) hh it l hne items).toS
  have hSf : S ∉ [it, l] := by
    simp only [List.mem_cons, List.not_mem_nil, or_false, not_or]
    exact ⟨hSi, hSl⟩
  show wpAny _ A.in1 (do let old ← Builtin.List.listItems (.ref S); Builtin.List.listUpdate (.ref S) (fun _ => #[]); letGo old.toList.reverse; Builtin.List.listExtendWith (.ref S) (.ref it) .none) _ _ s
  refine wpAny_bind ?_
  unfold Builtin.List.listItems
  refine wpAny_bind (wpAny_seqItems hS rfl (wpAny_pure ?_))
  show wpAny _ A.in1 (updateSeq S (fun _ => #[]) >>= fun _ => letGo (#[] : Array Value).toList.reverse >>= fun _ => Builtin.List.listExtendWith (.ref S) (.ref it) .none) _ _ s
  refine wpAny_bind (wpAny_updateSeq hS rfl ?_)
  have hS₂ := Heap.get?_update_self (Obj.mapSeq (fun _ => (#[] : Array Value))) hS rfl
  have oth : ∀ b o, b ≠ S → s.heap.get? b = some o → (s.heap.update S (Obj.mapSeq (fun _ => (#[] : Array Value)))).get? b = some o :=
    fun b o hb e => (Heap.get?_update_other _ _ (Ne.symm hb)).trans e
  refine wpAny_bind (wpAny_letGo ?_)
  generalize hG : s.heap.update S (Obj.mapSeq (fun _ => (#[] : Array Value))) = G at hS₂ oth ⊢
  have hit1 : G.IsRevIter it l ((items.size : Int) - 1) := hit.at fun o e => oth _ _ (Ne.symm hSi) e
  have hl1 : G.IsList l items := hl.at fun o e => oth _ _ (Ne.symm hSl) e
  have hT : ({ s with heap := G } : Shared).TypeIs (.ref it) "list_reverseiterator" := Heap.IsRevIter.typeIs (s := { s with heap := G }) hit1
  have h1 : Builtin.List.listSameRef (.ref S) (.ref it) = false := by simp [Builtin.List.listSameRef, hSi]
  unfold Builtin.List.listExtendWith
  refine wpAny_bind (wpAny_typeOf hT ?_)
  rw [if_neg (by rw [h1]; decide)]
  refine wpAny_bind (wpAny_pyIter_revIter (s := { s with heap := G }) hit1 ?_)
  refine wpAny_bind (wpAny_holding ?_)
  unfold Builtin.List.listLengthHint
  refine wpAny_bind (wpAny_specialOf hT RT.nolen_lri ?_)
  show wpAny _ A.in1 (specialOf (Value.ref it) (Str.ofString "__length_hint__") >>= _) _ _ _
  refine wpAny_bind (wpAny_specialOf hT RT.hint_lri ?_)
  generalize hid : ("list_reverseiterator.__length_hint__" : String) = id0
  wp_delta
  rw [show splitId id0 = some ("list_reverseiterator", "__length_hint__") from by subst hid; decide +kernel]
  subst hid
  refine wpAny_bind (wpAny_isInstance (b := true) hT (by rw [isSubtype_type]; kernel_rfl) ?_)
  refine wpAny_pure ?_
  rw [if_neg (by decide)]
  have e0 : ((items.size : Nat) : Int) - 1 - ((0 : Nat) : Int) = (items.size : Int) - 1 := by omega
  refine wpAny_pure ⟨plainId_quiet F.plain_extend_loop _, codeAny_extend_loopS Wk hn _ hSf _ items.size 0 _ _ _ rfl (Nat.zero_le _) ⟨Nat.zero_le _, by rw [e0]; exact hit1, hl1⟩ hS₂ (ItemsOf.nil _) fun s' acc' c' hm hS' hacc => ?_⟩
  rw [Moved.eq_with hm]
  refine hR s'.heap s'.toks acc' c' (fun b o hb hb2 e => hm.heap b o (fun hmem => ?_) (oth b o hb2 e)) hS' hacc
  rcases List.mem_cons.mp hmem with e' | hmem
  · exact hb2 e'
  · exact hb (by simpa using hmem)
theorem call_list_rev {it l : Addr} {items : Array Value} {Q : Value → Shared → Prop} (hh : A.handled = none) (hit : s.heap.IsRevIter it l ((items.size : Int) - 1)) (hl : s.heap.IsList l items) (hne : l ≠ it) (hn : items.size ≤ sizeLine)
    (hQ : ∀ (h' : Heap) (tk : Nat) (acc : Array Value) (c : Nat), (∀ b o, b ≠ it → s.heap.get? b = some o → h'.get? b = some o) → h'.get? s.heap.objs.size = some { cls := .type "list", dict := none, data := .seq acc c, slots := #[] } →
      ItemsOf (fun i v => items[items.size - 1 - i]? = some v) acc items.size → Q (.ref s.heap.objs.size) { s with heap := h', toks := tk }) :
    wpAny (model prog w) A (call (.type "list") [.ref it]) Q E s := by
  obtain ⟨oi, hoi, _⟩ := id hit
  obtain ⟨ol, hol, _⟩ := id hl
  have hSi : s.heap.objs.size ≠ it := Nat.ne_of_gt (Heap.lt_size hoi)
  have hSl : s.heap.objs.size ≠ l := Nat.ne_of_gt (Heap.lt_size hol)
  refine callType_codes (Q₁ := fun obj s₁ => obj = .ref s.heap.objs.size ∧ s₁ = { s with heap := s.heap.push { cls := .type "list", data := .seq #[] } }) F.called_list (F.typeCall_list_1 _) F.entry_list_init
    (code_list_new _ ⟨rfl, rfl⟩) fun obj s₁ h₁ => ?_
  obtain ⟨rfl, rfl⟩ := h₁
  have hS : (s.heap.push { cls := .type "list", data := .seq #[] }).get? s.heap.objs.size = some { cls := .type "list", data := .seq #[] } := Heap.get?_push_size _ rfl
  refine ⟨⟨_, hS, rfl⟩, F.args_list_init_2 _ _, init_rev (s := { s with heap := s.heap.push { cls := .type "list", data := .seq #[] } }) hh (hit.at fun o e => Heap.get?_push_of_some _ e) (hl.push _) hne hn hS hSi hSl fun h' tk acc c k e i => ?_⟩
  exact ⟨rfl, hQ h' tk acc c (fun b o hb q => k b o hb (fun z => by
    rw [z] at q
    exact absurd (Heap.lt_size q) (Nat.lt_irrefl _)) (Heap.get?_push_of_some _ q)) e i⟩
end

theorem vals_reverse : ∀ {xs : List V} {us : List Value}, Vals xs us → Vals xs.reverse us.reverse
  | _, _, .nil => .nil
  | _, _, .cons h t => by
    simp only [List.reverse_cons]
    exact (vals_reverse t).append (.cons h .nil)
section
variable {X : Cx} {e : Expr} {ta : TA} {p p2 pos pos2 : Pos}
/-- list(reversed(e)) -/
def tLRev (K : PySem.W.Frag) (ta : TA) : TE := fun σ H Q => ta σ H fun vs H1 => ∃ a xs, vs = [.ref a] ∧ SqL K H1 a xs ∧ ∀ q, H1 q = none → Q (.ref q) (upd H1 q (.lst xs.reverse))
theorem pe_listRev (hc : X.calm = true) (ha : PA X [e] ta) (hg : Gl X "list") (hm : X.mg "list" = none) (hg2 : Gl X "reversed") (hm2 : X.mg "reversed" = none)
    (hs1 : starEach [Expr.Call (.Name "reversed" p2) [e] [] pos2] X.env = [(false, eval (Expr.Call (.Name "reversed" p2) [e] [] pos2) X.env)] := by rfl)
    (hs : starEach [e] X.env = [(false, eval e X.env)] := by rfl) :
    PE X (.Call (.Name "list" p) [.Call (.Name "reversed" p2) [e] [] pos2] [] pos) (tLRev X.K ta) := by
  refine ⟨fun pins s σ H Q I h => ?_⟩
  refine Call_ (ld_blt I hg hm (u := .type "list") (by decide +kernel) (PyProof.Rows.callWith_type1 ?_ hs1 rfl))
  rw [hs1]
  refine Calls.spliced_cons (Call_ (ld_blt I hg2 hm2 (u := .type "reversed") (by decide +kernel) (PyProof.Rows.callWith_type1 (thn (ha.run pos2 pins s σ H _ I h) fun us s1 ⟨vs, H1, I1, r1, q1⟩ => ?_) hs rfl)))
  obtain ⟨a, xs, ex, hq, q⟩ := q1
  subst ex
  cases r1 with
  | cons r rr =>
    cases rr
    cases r
    obtain ⟨its, rv, p', hz⟩ := I1.list hq
    have hl := rv.length
    refine call_reversed_list p'.isList (Calls.spliced_nil ?_)
    have kp : ∀ b u, s1.heap.get? b = some u → (s1.heap.push (revObj a ((its.toArray.size : Int) - 1))).get? b = some u := fun b u z => Heap.get?_push_of_some _ z
    have I2 : Inv X pins σ H1 { s1 with heap := s1.heap.push (revObj a ((its.toArray.size : Int) - 1)) } := I1.kept (t' := s1.toks) kp
    have ne : a ≠ s1.heap.objs.size := by
      obtain ⟨o, z, _⟩ := p'.isList
      exact Nat.ne_of_lt (Heap.lt_size z)
    have F : FpOk X pins H1 s1.heap.objs.size := I1.fpOk (Nat.le_refl _) (I1.hok.fresh (Nat.le_refl _))
    refine call_list_rev (s := { s1 with heap := s1.heap.push (revObj a ((its.toArray.size : Int) - 1)) }) (it := s1.heap.objs.size) (l := a) (items := its.toArray) (I1.ok.hd hc) ⟨_, Heap.get?_push_size _ rfl, rfl, rfl⟩ (p'.isList.push _) ne (by simp; omega)
      fun h' tk acc c k en ie => ?_
    have eacc : acc.toList = its.reverse := by
      apply List.ext_getElem?
      intro j
      by_cases hj : j < its.length
      · have hj' : j < acc.size := by
          have := ie.1
          simp at this
          omega
        have z := ie.2 j acc[j] (by simp [hj'])
        rw [Array.getElem?_toList, Array.getElem?_eq_getElem hj', List.getElem?_reverse hj]
        rw [← z]
        simp
      · rw [List.getElem?_eq_none (by have := ie.1; simp at this; simp; omega), List.getElem?_eq_none (by simp; omega)]
    have hfresh : H1 (s1.heap.push (revObj a ((its.toArray.size : Int) - 1))).objs.size = none := I2.hok.fresh (Nat.le_refl _)
    refine ⟨.ref (s1.heap.push (revObj a ((its.toArray.size : Int) - 1))).objs.size, upd H1 (s1.heap.push (revObj a ((its.toArray.size : Int) - 1))).objs.size (.lst xs.reverse), I2.turnedNew (h' := h') (t' := tk) (ch := [s1.heap.objs.size]) (fun b o hb z => k b o (by simpa using hb) z) (fun b hb => ?_) (Nat.le_refl _) ?_, rfl, q _ hfresh⟩
    · rw [show b = s1.heap.objs.size by simpa using hb]
      exact F
    · refine ⟨by rw [List.length_reverse]; exact hz, its.reverse, c, ?_, ?_⟩
      · exact vals_reverse rv
      · rw [← eacc]
        simpa using en
end

/-! ### sums and extremes of tuples -/
section
variable {prog : Program} {w : World} {A : Around} {E : Value → Shared → Prop} {s : Shared}
theorem ext_old {o : Obj} {h' : Heap} (hk : ∀ b u, b ∉ [s.heap.objs.size] → (s.heap.push o).get? b = some u → h'.get? b = some u) : ∀ b u, s.heap.get? b = some u → h'.get? b = some u := fun b u e =>
  hk b u (fun z => by
    have z' : b = s.heap.objs.size := by simpa using z
    rw [z'] at e
    exact Nat.lt_irrefl _ (Heap.lt_size e)) (Heap.get?_push_of_some _ e)
theorem ints_pack {us : List Value} {ns : List Int} (hi : IntsAre us ns) : ∃ xs : Array (Int × Tok), us.toArray = intItems xs ∧ xs.toList.map (·.1) = ns := by
  induction hi with
  | nil => exact ⟨#[], by simp [intItems], rfl⟩
  | cons n t r ih =>
    obtain ⟨xs, e1, e2⟩ := ih
    refine ⟨#[(n, t)] ++ xs, ?_, by simp [e2]⟩
    apply Array.toList_inj.mp
    have e3 := congrArg Array.toList e1
    simp [intItems] at e3 ⊢
    exact e3
theorem ext_tuple {id : String} {l : Addr} {us : List Value} {ns : List Int} {Q : Value → Shared → Prop} (hh : A.handled = none) (hl : s.heap.IsTuple l us.toArray) (hi : IntsAre us ns) (hne : ns ≠ [])
    (hid : id = "max" ∧ (∀ M h' tk t', M ∈ ns → (∀ a, a ∈ ns → a ≤ M) → (∀ b o, s.heap.get? b = some o → h'.get? b = some o) → Q (.int M t') { s with heap := h', toks := tk }) ∨
      id = "min" ∧ (∀ M h' tk t', M ∈ ns → (∀ a, a ∈ ns → M ≤ a) → (∀ b o, s.heap.get? b = some o → h'.get? b = some o) → Q (.int M t') { s with heap := h', toks := tk })) :
    wpAny (model prog w) A (call (.builtin id) [.ref l]) Q E s := by
  obtain ⟨xs, e1, e2⟩ := ints_pack hi
  rw [e1] at hl
  have hsz : 0 < xs.size := by
    have : ns.length = xs.size := by rw [← e2]; simp
    have : ns.length ≠ 0 := by simpa using hne
    omega
  have hlt : l < s.heap.objs.size := by
    obtain ⟨_, z, _⟩ := hl
    exact Heap.lt_size z
  have low : ∀ b ∈ [s.heap.objs.size, l], b < (s.heap.push { cls := .type "tuple_iterator", data := .fields #[.ref l, .int 0 0] }).objs.size := fun b hb => by
    rw [Heap.size_push]
    rcases (show b = s.heap.objs.size ∨ b = l by simpa using hb) with z | z <;> rw [z]
    · exact Nat.lt_succ_self _
    · exact Nat.lt_succ_of_lt hlt
  have hit : (s.heap.push { cls := .type "tuple_iterator", data := .fields #[.ref l, .int 0 0] }).IsTupleIter s.heap.objs.size l 0 := ⟨_, Heap.get?_push_size _ rfl, rfl, rfl⟩
  rcases hid with ⟨rfl, h⟩ | ⟨rfl, h⟩
  · refine call_max_walk (wpAny_pyIter_tuple hl ?_)
    refine ⟨_, _, _, _, _, _, _, rfl, Walks.tuple (A := A.in1) hh _ l (Nat.ne_of_lt hlt) (intItems xs), ⟨hit, hl.push _⟩, low, by simpa [intItems] using hsz, CmpOf.ints_gt (numAt xs) (fun _ _ => intItems_at), fun v h' tk hP hk => ?_⟩
    obtain ⟨t, rfl⟩ := intItems_at hP
    obtain ⟨g1, g2⟩ := argBest_gt (numAt xs) (xs.size - 1)
    have sz : (intItems xs).size = xs.size := by simp [intItems]
    rw [sz]
    refine h _ h' tk t ?_ (fun a ha => ?_) (ext_old hk)
    · rw [← e2, numAt_eq]
      exact PySem.getD_mem (by rw [List.length_map, Array.length_toList]; omega)
    · rw [← e2] at ha
      obtain ⟨j, hj, rfl⟩ := mem_getD ha
      rw [List.length_map, Array.length_toList] at hj
      rw [← numAt_eq]
      exact g2 j (by omega)
  · refine call_min_walk (wpAny_pyIter_tuple hl ?_)
    refine ⟨_, _, _, _, _, _, _, rfl, Walks.tuple (A := A.in1) hh _ l (Nat.ne_of_lt hlt) (intItems xs), ⟨hit, hl.push _⟩, low, by simpa [intItems] using hsz, CmpOf.ints_lt (numAt xs) (fun _ _ => intItems_at), fun v h' tk hP hk => ?_⟩
    obtain ⟨t, rfl⟩ := intItems_at hP
    obtain ⟨g1, g2⟩ := argBest_lt (numAt xs) (xs.size - 1)
    have sz : (intItems xs).size = xs.size := by simp [intItems]
    rw [sz]
    refine h _ h' tk t ?_ (fun a ha => ?_) (ext_old hk)
    · rw [← e2, numAt_eq]
      exact PySem.getD_mem (by rw [List.length_map, Array.length_toList]; omega)
    · rw [← e2] at ha
      obtain ⟨j, hj, rfl⟩ := mem_getD ha
      rw [List.length_map, Array.length_toList] at hj
      rw [← numAt_eq]
      exact g2 j (by omega)
theorem preSum_getD (ns : List Int) : ∀ j, preSum (fun i => ns.getD i 0) j = (ns.take j).sum
  | 0 => rfl
  | j + 1 => by
    rw [preSum, preSum_getD ns j]
    by_cases h : j < ns.length
    · rw [List.take_succ, List.sum_append]
      simp [h]
    · rw [List.take_of_length_le (by omega), List.take_of_length_le (by omega)]
      simp [List.getD, List.getElem?_eq_none (show ns.length ≤ j by omega)]
theorem sum_tuple {l : Addr} {us : List Value} {ns : List Int} {Q : Value → Shared → Prop} (hh : A.handled = none) (hl : s.heap.IsTuple l us.toArray) (hi : IntsAre us ns)
    (h : ∀ h' tk t, (∀ b o, s.heap.get? b = some o → h'.get? b = some o) → Q (.int ns.sum t) { s with heap := h', toks := tk }) :
    wpAny (model prog w) A (call (.builtin "sum") [.ref l]) Q E s := by
  refine call_sum_walkAnyS (PySem.W.iter_tupleW (A := A.in1) hh hl fun s₂ e W st hfp hw hk => ?_)
  refine ⟨_, _, _, _, _, _, _, fun i => ns.getD i 0, rfl, W, st, hfp, fun i v q => ?_, fun s' t' m => ?_⟩
  · have q' : us[i]? = some v := by simpa using q
    clear q W hl h st
    induction hi generalizing i with
    | nil => simp at q'
    | cons n t r ih =>
      cases i with
      | zero =>
        simp at q'
        subst q'
        exact ⟨t, rfl⟩
      | succ i =>
        simp at q'
        simpa using ih i q'
  · obtain ⟨h', tk, rfl, hk'⟩ := PySem.W.moved_old e rfl m
    have e2 : preSum (fun i => ns.getD i 0) us.toArray.size = ns.sum := by
      rw [preSum_getD]
      have := hi.length
      rw [List.take_of_length_le (by simp; omega)]
    rw [e2]
    exact h h' tk t' hk'
end
end Vq

/-! Part 10: iterables; built-ins, methods, stores and slices by values. -/
namespace Vq
open PySem PySem.Spec PyProof.Rows L2

/-! ### what arguments are -/
def intD : D → Option Int
  | .int i => some i
  | _ => none
def one : List D → Option D
  | [d] => some d
  | _ => none
def two : List D → Option (D × D)
  | [d, e] => some (d, e)
  | _ => none
def int1 (l : List D) : Option Int := (one l).bind intD
def int2 (l : List D) : Option (Int × Int) := (two l).bind fun p => (intD p.1).bind fun i => (intD p.2).map fun j => (i, j)
def int3 : List D → Option (Int × Int × Int)
  | [.int i, .int j, .int k] => some (i, j, k)
  | _ => none
section
variable {K : PySem.W.Frag} {w : Wd}
theorem intD_rp {d : D} {v : V} {i : Int} (r : Rp K w d v) (e : intD d = some i) : d = .int i ∧ v = .int i := by
  cases r with
  | int j => cases e; exact ⟨rfl, rfl⟩
  | _ => cases e
theorem one_rps {ds : List D} {vs : List V} {d : D} (r : Rps K w ds vs) (e : one ds = some d) : ∃ v, ds = [d] ∧ vs = [v] ∧ Rp K w d v := by
  cases r with
  | nil => cases e
  | cons r rr =>
    cases rr with
    | nil => cases e; exact ⟨_, rfl, rfl, r⟩
    | cons _ _ => cases e
theorem two_rps {ds : List D} {vs : List V} {p : D × D} (r : Rps K w ds vs) (e : two ds = some p) : ∃ v u, ds = [p.1, p.2] ∧ vs = [v, u] ∧ Rp K w p.1 v ∧ Rp K w p.2 u := by
  cases r with
  | nil => cases e
  | cons r rr =>
    cases rr with
    | nil => cases e
    | cons r2 rr =>
      cases rr with
      | nil => cases e; exact ⟨_, _, rfl, rfl, r, r2⟩
      | cons _ _ => cases e
theorem int1_rps {ds : List D} {vs : List V} {i : Int} (r : Rps K w ds vs) (e : int1 ds = some i) : vs = [.int i] := by
  obtain ⟨d, e1, e2⟩ := Option.bind_eq_some_iff.mp e
  obtain ⟨v, _, rfl, r'⟩ := one_rps r e1
  rw [(intD_rp r' e2).2]
theorem int2_rps {ds : List D} {vs : List V} {p : Int × Int} (r : Rps K w ds vs) (e : int2 ds = some p) : vs = [.int p.1, .int p.2] := by
  obtain ⟨d, e1, e2⟩ := Option.bind_eq_some_iff.mp e
  obtain ⟨i, e3, e4⟩ := Option.bind_eq_some_iff.mp e2
  obtain ⟨j, e5, rfl⟩ := Option.map_eq_some_iff.mp e4
  obtain ⟨v, u, _, rfl, r1, r2⟩ := two_rps r e1
  rw [(intD_rp r1 e3).2, (intD_rp r2 e5).2]
theorem int3_rps {ds : List D} {vs : List V} {p : Int × Int × Int} (r : Rps K w ds vs) (e : int3 ds = some p) : vs = [.int p.1, .int p.2.1, .int p.2.2] := by
  unfold int3 at e
  split at e
  · cases e
    cases r with
    | cons a r =>
      cases r with
      | cons b r =>
        cases r with
        | cons c r =>
          cases r
          cases a
          cases b
          cases c
          rfl
  · cases e
end

/-! ### iterables -/
section
variable {X : Cx} {W : WX}
def srcOf (d : D) : Option (VH → Option (List D)) := match d with
  | .tup l => some fun _ => some l
  | .ref n => some fun h => lk h n
  | _ => none
def vIt (f : VE) : VI := fun s h => (f s h).bind fun p => match srcOf p.1 with
  | some src => .ok (src, p.2)
  | none => .bad
theorem PI_or {tg e : Expr} {a b : TI} (h : PI X tg e a) (h' : PI X tg e b) : PI X tg e (fun σ H R => a σ H R ∨ b σ H R) := ⟨fun pins s σ H R I q => q.elim (h.run pins s σ H R I) (h'.run pins s σ H R I)⟩
theorem walks_lst {K : PySem.W.Frag} {w : Wd} {n : Nat} (hn : n < w.h.length) : Walks K w (Itl K (w.ι n)) (fun h => lk h n) := fun w' i ys x ok e => by
  obtain ⟨vs, h1, h2⟩ := lk_sq ok e
  rw [x.ι n hn] at h1
  refine ⟨fun q => ⟨vs, h1, by rw [← RepL.length h2]; exact List.getElem?_eq_none_iff.mp q⟩, fun d ed => ?_⟩
  obtain ⟨v, ev, rv⟩ := RepL.get h2 ed
  refine ⟨⟨vs, v, h1, ev⟩, fun x' H' ⟨eH, ex⟩ => ⟨w', eH.symm, rfl, ok, .refl w', ?_⟩⟩
  have z := ex vs h1
  rw [ev] at z
  cases z
  exact rv
/-- for x in e: a list or a tuple -/
theorem qIt {tg e : Expr} {f : VE} (he : PE X e (gE X W f)) : PI X tg e (gI X W (vIt f)) :=
  PIw (PI_or (pi_list he) (pi_tup he)) fun σ H R ⟨w, s, hH, ok, sl, hp⟩ => by
    subst hH
    unfold vIt at hp
    cases e1 : f s w.h with
    | bad => rw [e1] at hp; exact hp.elim
    | ex x s' h' => rw [e1] at hp; exact .inl ⟨w, s, rfl, ok, sl, by rw [e1]; exact hp⟩
    | ok p =>
      obtain ⟨d, h1⟩ := p
      rw [e1] at hp
      simp only [Res.ok_bind] at hp
      cases d with
      | tup ds =>
        refine .inr ⟨w, s, rfl, ok, sl, ?_⟩
        rw [e1]
        intro w1 v ok1 eh x1 r1
        have r1' : RepV X.K w1.ι w1.h.length w1.H (.tup ds) v := r1
        cases r1' with
        | @tup a vs _ hq rr =>
          refine ⟨a, rfl, ⟨vs, hq⟩, hp w1 _ ok1 eh x1 fun w' i ys x' ok' e' => ?_⟩
          cases e'
          have h' := x'.tup _ _ hq
          refine ⟨fun n => ⟨vs, h', by rw [← RepL.length rr]; exact List.getElem?_eq_none_iff.mp n⟩, fun d ed => ?_⟩
          obtain ⟨v, ev, rv⟩ := (x'.rps rr).get ed
          refine ⟨⟨vs, v, h', ev⟩, fun x2 H' ⟨eH, ex⟩ => ⟨w', eH.symm, rfl, ok', .refl w', ?_⟩⟩
          have z := ex vs h'
          rw [ev] at z
          cases z
          exact rv
      | ref n =>
        refine .inl ⟨w, s, rfl, ok, sl, ?_⟩
        rw [e1]
        intro w1 v ok1 eh x1 r1
        have r1' : RepV X.K w1.ι w1.h.length w1.H (.ref n) v := r1
        cases r1' with
        | ref hn =>
          have : ∃ ds, lk w1.h n = some ds := by
            unfold lk
            rw [List.getElem?_eq_getElem hn]
            cases w1.h[n] <;> exact ⟨_, rfl⟩
          obtain ⟨ds, eds⟩ := this
          obtain ⟨vs, h1, h2⟩ := lk_sq ok1 eds
          exact ⟨_, rfl, ⟨vs, h1⟩, hp w1 _ ok1 eh x1 (walks_lst hn)⟩
      | _ => exact hp.elim

def rangeD (lo c : Int) (n : Nat) : List D := (List.range n).map fun (k : Nat) => D.int (lo + (k : Int) * c)
theorem rangeD_length (lo c : Int) (n : Nat) : (rangeD lo c n).length = n := by simp [rangeD]
theorem rangeD_get (lo c : Int) (n i : Nat) : (rangeD lo c n)[i]? = if i < n then some (.int (lo + (i : Int) * c)) else none := by
  unfold rangeD
  rw [List.getElem?_map]
  by_cases h : i < n
  · rw [if_pos h, List.getElem?_range h]; rfl
  · rw [if_neg h, List.getElem?_eq_none (by simpa using Nat.le_of_not_lt h)]; rfl
theorem walks_rng {K : PySem.W.Frag} {w : Wd} (lo : Int) (n : Nat) : Walks K w (Itr lo n) (fun _ => some (rangeD lo 1 n)) := fun w' i ys x ok e => by
  cases e
  refine ⟨fun q => by have z := List.getElem?_eq_none_iff.mp q; rw [rangeD_length] at z; exact z, fun d ed => ?_⟩
  rw [rangeD_get] at ed
  by_cases h : i < n
  · rw [if_pos h] at ed
    cases ed
    refine ⟨h, fun x' H' ⟨eH, ex⟩ => ⟨w', eH.symm, rfl, ok, .refl w', ?_⟩⟩
    rw [ex, Int.mul_one]
    exact .int _
  · rw [if_neg h] at ed
    cases ed
theorem walks_rngc {K : PySem.W.Frag} {w : Wd} (lo c : Int) (n : Nat) : Walks K w (Itc lo c n) (fun _ => some (rangeD lo c n)) := fun w' i ys x ok e => by
  cases e
  refine ⟨fun q => by have z := List.getElem?_eq_none_iff.mp q; rw [rangeD_length] at z; exact z, fun d ed => ?_⟩
  rw [rangeD_get] at ed
  by_cases h : i < n
  · rw [if_pos h] at ed
    cases ed
    refine ⟨h, fun x' H' ⟨eH, ex⟩ => ⟨w', eH.symm, rfl, ok, .refl w', ?_⟩⟩
    rw [ex]
    exact .int _
  · rw [if_neg h] at ed
    cases ed
def inRng (i : Int) : Bool := decide (-(2 ^ 62) ≤ i ∧ i < 2 ^ 62)
def vRng1 (a : VA) : VI := fun s h => (a s h).bind fun p => match int1 p.1 with
  | some j => if inRng j = true then .ok (fun _ => some (rangeD 0 1 j.toNat), p.2) else .bad
  | none => .bad
def vRng2 (a : VA) : VI := fun s h => (a s h).bind fun p => match int2 p.1 with
  | some (i, j) => if (inRng i && inRng j) = true then .ok (fun _ => some (rangeD i 1 (j - i).toNat), p.2) else .bad
  | none => .bad
def rgcB (i j c : Int) : Bool := c != 0 && decide (c.natAbs < 1073741824) && Builtin.Range.small i j c && decide (0 ≤ Builtin.Range.rangeSize i j c)
def vRng3 (a : VA) : VI := fun s h => (a s h).bind fun p => match int3 p.1 with
  | some (i, j, c) => if rgcB i j c = true then .ok (fun _ => some (rangeD i c (Builtin.Range.rangeSize i j c).toNat), p.2) else .bad
  | none => .bad
theorem qRng1 {tg a : Expr} {p pos : Pos} {g : VA} (hm : X.mg "range" = none) (ha : PA X [a] (gA X W g)) (hg : Gl X "range" := by rfl) (hs : starEach [a] X.env = [(false, eval a X.env)] := by rfl) : PI X tg (.Call (.Name "range" p) [a] [] pos) (gI X W (vRng1 g)) :=
  PIw (pi_range1 hg hm ha hs) fun σ H R ⟨w, s, hH, ok, sl, hp⟩ => by
    subst hH
    refine gA.seq ok sl (wI w R) hp fun ds w1 vs ok1 x1 sl1 r1 hp1 => ?_
    simp only at hp1
    cases e : int1 ds with
    | none => rw [e] at hp1; exact hp1.elim
    | some j =>
      rw [e] at hp1
      simp only at hp1
      by_cases h : inRng j = true
      · rw [if_pos h] at hp1
        have h' : -(2 ^ 62) ≤ j ∧ j < 2 ^ 62 := by simpa [inRng] using h
        exact ⟨j, int1_rps r1 e, h'.1, h'.2, hp1 w1 _ ok1 rfl x1 (walks_rng 0 j.toNat)⟩
      · rw [if_neg h] at hp1
        exact hp1.elim
theorem qRng2 {tg a b : Expr} {p pos : Pos} {g : VA} (hm : X.mg "range" = none) (ha : PA X [a, b] (gA X W g)) (hg : Gl X "range" := by rfl) (hs : starEach [a, b] X.env = [(false, eval a X.env), (false, eval b X.env)] := by rfl) (hs2 : starEach [b] X.env = [(false, eval b X.env)] := by rfl) :
    PI X tg (.Call (.Name "range" p) [a, b] [] pos) (gI X W (vRng2 g)) :=
  PIw (pi_range2 hg hm ha hs hs2) fun σ H R ⟨w, s, hH, ok, sl, hp⟩ => by
    subst hH
    refine gA.seq ok sl (wI w R) hp fun ds w1 vs ok1 x1 sl1 r1 hp1 => ?_
    simp only at hp1
    cases e : int2 ds with
    | none => rw [e] at hp1; exact hp1.elim
    | some q =>
      obtain ⟨i, j⟩ := q
      rw [e] at hp1
      simp only at hp1
      by_cases h : (inRng i && inRng j) = true
      · rw [if_pos h] at hp1
        have h' : (-(2 ^ 62) ≤ i ∧ i < 2 ^ 62) ∧ -(2 ^ 62) ≤ j ∧ j < 2 ^ 62 := by simpa [inRng] using h
        exact ⟨i, j, int2_rps r1 e, ⟨h'.1.1, h'.1.2, h'.2.1, h'.2.2⟩, hp1 w1 _ ok1 rfl x1 (walks_rng i _)⟩
      · rw [if_neg h] at hp1
        exact hp1.elim
theorem qRng3 {tg a b c : Expr} {p pos : Pos} {g : VA} (hm : X.mg "range" = none) (ha : PA X [a, b, c] (gA X W g)) (h : ∀ t, PA X [a, b, c] t → PI X tg (.Call (.Name "range" p) [a, b, c] [] pos) (iRng3 t)) :
    PI X tg (.Call (.Name "range" p) [a, b, c] [] pos) (gI X W (vRng3 g)) :=
  PIw (h _ ha) fun σ H R ⟨w, s, hH, ok, sl, hp⟩ => by
    subst hH
    refine gA.seq ok sl (wI w R) hp fun ds w1 vs ok1 x1 sl1 r1 hp1 => ?_
    simp only at hp1
    cases e : int3 ds with
    | none => rw [e] at hp1; exact hp1.elim
    | some q =>
      obtain ⟨i, j, c⟩ := q
      rw [e] at hp1
      simp only at hp1
      by_cases h : rgcB i j c = true
      · rw [if_pos h] at hp1
        simp only [rgcB, Bool.and_eq_true, bne_iff_ne, decide_eq_true_eq] at h
        exact ⟨i, j, c, _, int3_rps r1 e, ⟨h.1.1.1, h.1.1.2, h.1.2, (Int.toNat_of_nonneg h.2).symm⟩, hp1 w1 _ ok1 rfl x1 (walks_rngc i c _)⟩
      · rw [if_neg h] at hp1
        exact hp1.elim

/-- numbered items -/
def enumD (l : List D) : List D := l.zipIdx.map fun p => .tup [.int (p.2 : Int), p.1]
theorem enumD_get (l : List D) (i : Nat) : (enumD l)[i]? = (l[i]?).map fun d => D.tup [.int (i : Int), d] := by
  unfold enumD
  rw [List.getElem?_map, List.getElem?_zipIdx]
  cases l[i]? <;> simp
theorem yields_pair {K : PySem.W.Frag} {w : Wd} (ok : w.Ok K) {T : Addr} {a b : D} {va vb : V} (hT : w.H T = none) (ra : Rp K w a va) (rb : Rp K w b vb) :
    ∃ w', w'.H = upd w.H T (.tup [va, vb]) ∧ w'.h = w.h ∧ w'.Ok K ∧ Wd.Ext K w w' ∧ Rp K w' (.tup [a, b]) (.ref T) :=
  ⟨w.tupAt T (.tup [va, vb]), rfl, rfl, ok.tupAt hT, Wd.ext_tupAt hT, .tup (SqT.of upd_same) (.cons ((Wd.ext_tupAt hT).rp ra) (.cons ((Wd.ext_tupAt hT).rp rb) .nil))⟩
def vEnum (a : VA) : VI := fun s h => (a s h).bind fun p => match (one p.1).bind srcOf with
  | some src => .ok (fun h => (src h).map enumD, p.2)
  | none => .bad
theorem qEnum {elts : List Expr} {e : Expr} {kk : Nat} {p pos tpos : Pos} {g : VA} (hm : X.mg "enumerate" = none) (ha : PA X [e] (gA X W g)) (hg : Gl X "enumerate" := by rfl) (hs : starEach [e] X.env = [(false, eval e X.env)] := by rfl) :
    PI X (.Tuple elts kk tpos) (.Call (.Name "enumerate" p) [e] [] pos) (gI X W (vEnum g)) :=
  PIw (pi_enumA hg hm ha hs) fun σ H R ⟨w, s, hH, ok, sl, hp⟩ => by
    subst hH
    refine gA.seq ok sl (wI w R) hp fun ds w1 vs ok1 x1 sl1 r1 hp1 => ?_
    simp only at hp1
    cases e : one ds with
    | none => rw [e] at hp1; exact hp1.elim
    | some d =>
      obtain ⟨v, _, rfl, rd⟩ := one_rps r1 e
      rw [e] at hp1
      simp only [Option.bind_some] at hp1
      cases rd with
      | @tup a vs xs hq rr =>
        refine .inr ⟨a, vs, rfl, hq, hp1 w1 _ ok1 rfl x1 fun w' i ys x ok' e' => ?_⟩
        cases e'
        have h' := x.tup _ _ hq
        rw [enumD_get]
        refine ⟨fun q => ⟨vs, h', rfl, ?_⟩, fun d ed => ?_⟩
        · rw [← RepL.length rr]
          cases z : xs[i]? with
          | none => exact List.getElem?_eq_none_iff.mp z
          | some _ => rw [z] at q; cases q
        · obtain ⟨d0, z, rfl⟩ := Option.map_eq_some_iff.mp ed
          obtain ⟨v, ev, rv⟩ := (x.rps rr).get z
          refine ⟨⟨vs, v, h', rfl, ev⟩, fun x2 H' ⟨T, y, eT, hT, eH, ey⟩ => ?_⟩
          have z2 := ey vs h'
          rw [ev] at z2
          cases z2
          subst eH eT
          exact yields_pair ok' hT (.int _) rv
      | @ref n hn =>
        have : ∃ ds, lk w1.h n = some ds := by
          unfold lk
          rw [List.getElem?_eq_getElem hn]
          cases w1.h[n] <;> exact ⟨_, rfl⟩
        obtain ⟨xs, exs⟩ := this
        obtain ⟨vs, h1, h2⟩ := lk_sq ok1 exs
        refine .inl ⟨_, vs, rfl, h1, hp1 w1 _ ok1 rfl x1 fun w' i ys x ok' e' => ?_⟩
        obtain ⟨zs, ez, rfl⟩ := Option.map_eq_some_iff.mp e'
        obtain ⟨us, g1, g2⟩ := lk_sq ok' ez
        rw [x.ι n hn] at g1
        rw [enumD_get]
        refine ⟨fun q => ⟨us, g1, ?_⟩, fun d ed => ?_⟩
        · rw [← RepL.length g2]
          cases z : zs[i]? with
          | none => exact List.getElem?_eq_none_iff.mp z
          | some _ => rw [z] at q; cases q
        · obtain ⟨d0, z, rfl⟩ := Option.map_eq_some_iff.mp ed
          obtain ⟨v, ev, rv⟩ := RepL.get g2 z
          refine ⟨⟨us, v, g1, ev⟩, fun x2 H' ⟨T, y, eT, hT, eH, ey⟩ => ?_⟩
          have z2 := ey us g1
          rw [ev] at z2
          cases z2
          subst eH eT
          exact yields_pair ok' hT (.int _) rv
      | _ => exact hp1.elim

/-- two sequences side by side -/
def zipD (l m : List D) : List D := (l.zip m).map fun p => .tup [p.1, p.2]
theorem zipD_get (l m : List D) (i : Nat) : (zipD l m)[i]? = (l[i]?).bind fun a => (m[i]?).map fun b => D.tup [a, b] := by
  unfold zipD
  rw [List.getElem?_map, List.zip_eq_zipWith, List.getElem?_zipWith]
  cases l[i]? <;> cases m[i]? <;> rfl
def zipSrc (p : D × D) : Option (VH → Option (List D)) := match p.1, p.2 with
  | .tup l, .tup m => some fun _ => some (zipD l m)
  | .ref i, .ref j => some fun h => (lk h i).bind fun l => (lk h j).map fun m => zipD l m
  | _, _ => none
def vZip (a : VA) : VI := fun s h => (a s h).bind fun p => match (two p.1).bind zipSrc with
  | some src => .ok (src, p.2)
  | none => .bad
theorem qZip {elts : List Expr} {e e2 : Expr} {kk : Nat} {p pos tpos : Pos} {g : VA} (hm : X.mg "zip" = none) (ha : PA X [e, e2] (gA X W g)) (hg : Gl X "zip" := by rfl)
    (hs : starEach [e, e2] X.env = (false, eval e X.env) :: starEach [e2] X.env := by rfl) (hpl : (backTo pos (starEach [e2] X.env)).any (·.1) = false := by rfl) :
    PI X (.Tuple elts kk tpos) (.Call (.Name "zip" p) [e, e2] [] pos) (gI X W (vZip g)) :=
  PIw (RZ.pi_zipA hg hm ha hs hpl) fun σ H R ⟨w, s, hH, ok, sl, hp⟩ => by
    subst hH
    refine gA.seq ok sl (wI w R) hp fun ds w1 vs ok1 x1 sl1 r1 hp1 => ?_
    simp only at hp1
    cases e : two ds with
    | none => rw [e] at hp1; exact hp1.elim
    | some d =>
      obtain ⟨v, u, _, rfl, rd, re⟩ := two_rps r1 e
      obtain ⟨d1, d2⟩ := d
      rw [e] at hp1
      simp only [Option.bind_some] at hp1
      simp only at rd re
      cases rd with
      | @tup a vs xs hq rr =>
        cases re with
        | @tup b us ys hq2 rr2 =>
          refine ⟨a, b, vs, us, rfl, .inr ⟨hq, hq2, hp1 w1 _ ok1 rfl x1 fun w' i zs x ok' e' => ?_⟩⟩
          cases e'
          have h' := x.tup _ _ hq
          have h2 := x.tup _ _ hq2
          rw [zipD_get]
          refine ⟨fun q => ⟨vs, us, h', h2, ?_⟩, fun d ed => ?_⟩
          · rw [← RepL.length rr, ← RepL.length rr2]
            cases z : xs[i]? with
            | none => exact .inl (List.getElem?_eq_none_iff.mp z)
            | some _ =>
              cases z2 : ys[i]? with
              | none => exact .inr (List.getElem?_eq_none_iff.mp z2)
              | some _ => rw [z, z2] at q; cases q
          · obtain ⟨d0, z, ed⟩ := Option.bind_eq_some_iff.mp ed
            obtain ⟨d3, z3, rfl⟩ := Option.map_eq_some_iff.mp ed
            obtain ⟨v, ev, rv⟩ := (x.rps rr).get z
            obtain ⟨u, eu, ru⟩ := (x.rps rr2).get z3
            refine ⟨⟨vs, us, v, u, h', h2, ev, eu⟩, fun x2 H' ⟨T, y, y2, eT, hT, eH, ey, ey2⟩ => ?_⟩
            have q1 := ey vs h'
            rw [ev] at q1
            cases q1
            have q2 := ey2 us h2
            rw [eu] at q2
            cases q2
            subst eH eT
            exact yields_pair ok' hT rv ru
        | _ => exact hp1.elim
      | @ref n hn =>
        cases re with
        | @ref m hm' =>
          have ex : ∀ n, n < w1.h.length → ∃ ds, lk w1.h n = some ds := fun n hn => by
            unfold lk
            rw [List.getElem?_eq_getElem hn]
            cases w1.h[n] <;> exact ⟨_, rfl⟩
          obtain ⟨xs, exs⟩ := ex n hn
          obtain ⟨ys, eys⟩ := ex m hm'
          obtain ⟨vs, h1, h2⟩ := lk_sq ok1 exs
          obtain ⟨us, h3, h4⟩ := lk_sq ok1 eys
          refine ⟨_, _, vs, us, rfl, .inl ⟨h1, h3, hp1 w1 _ ok1 rfl x1 fun w' i zs x ok' e' => ?_⟩⟩
          obtain ⟨ls, el, e'⟩ := Option.bind_eq_some_iff.mp e'
          obtain ⟨ms, em, rfl⟩ := Option.map_eq_some_iff.mp e'
          obtain ⟨l1, g1, g2⟩ := lk_sq ok' el
          obtain ⟨m1, g3, g4⟩ := lk_sq ok' em
          rw [x.ι n hn] at g1
          rw [x.ι m hm'] at g3
          rw [zipD_get]
          refine ⟨fun q => ⟨l1, m1, g1, g3, ?_⟩, fun d ed => ?_⟩
          · rw [← RepL.length g2, ← RepL.length g4]
            cases z : ls[i]? with
            | none => exact .inl (List.getElem?_eq_none_iff.mp z)
            | some _ =>
              cases z2 : ms[i]? with
              | none => exact .inr (List.getElem?_eq_none_iff.mp z2)
              | some _ => rw [z, z2] at q; cases q
          · obtain ⟨d0, z, ed⟩ := Option.bind_eq_some_iff.mp ed
            obtain ⟨d3, z3, rfl⟩ := Option.map_eq_some_iff.mp ed
            obtain ⟨v, ev, rv⟩ := RepL.get g2 z
            obtain ⟨u, eu, ru⟩ := RepL.get g4 z3
            refine ⟨⟨l1, m1, v, u, g1, g3, ev, eu⟩, fun x2 H' ⟨T, y, y2, eT, hT, eH, ey, ey2⟩ => ?_⟩
            have q1 := ey l1 g1
            rw [ev] at q1
            cases q1
            have q2 := ey2 m1 g3
            rw [eu] at q2
            cases q2
            subst eH eT
            exact yields_pair ok' hT rv ru
        | _ => exact hp1.elim
      | _ => cases re <;> exact hp1.elim

/-! ### list(reversed(e)) -/
def vLRev (a : VA) : VE := fun s h => (a s h).bind fun p => match (one p.1) with
  | some (.ref n) => match lk p.2 n with
    | some l => .ok (.ref p.2.length, p.2 ++ [.lst l.reverse])
    | none => .bad
  | _ => .bad
theorem qLRev {e : Expr} {g : VA} {p p2 pos pos2 : Pos} (hc : X.calm = true) (hm : X.mg "list" = none) (hm2 : X.mg "reversed" = none) (ha : PA X [e] (gA X W g)) (hg : Gl X "list" := by rfl) (hg2 : Gl X "reversed" := by rfl)
    (hs1 : starEach [Expr.Call (.Name "reversed" p2) [e] [] pos2] X.env = [(false, eval (Expr.Call (.Name "reversed" p2) [e] [] pos2) X.env)] := by rfl) (hs : starEach [e] X.env = [(false, eval e X.env)] := by rfl) :
    PE X (.Call (.Name "list" p) [.Call (.Name "reversed" p2) [e] [] pos2] [] pos) (gE X W (vLRev g)) :=
  PEw (pe_listRev hc ha hg hm hg2 hm2 hs1 hs) fun σ H Q ⟨w, s, hH, ok, sl, hp⟩ => by
    subst hH
    refine gA.seq ok sl (wE w Q) hp fun ds w1 vs ok1 x1 sl1 r1 hp1 => ?_
    simp only at hp1
    cases e : one ds with
    | none => rw [e] at hp1; exact hp1.elim
    | some d =>
      obtain ⟨v, _, rfl, rd⟩ := one_rps r1 e
      rw [e] at hp1
      cases rd with
      | @ref n hn =>
        simp only at hp1
        cases el : lk w1.h n with
        | none => rw [el] at hp1; exact hp1.elim
        | some l =>
          rw [el] at hp1
          obtain ⟨us, h1, h2⟩ := lk_sq ok1 el
          exact ⟨_, us, rfl, h1, fun q hq => hp1 (w1.newL q l.reverse us.reverse) _ (ok1.newL hq h2.reverse) rfl (x1.trans (Wd.ext_newL hq)) at_newL⟩
      | _ => exact hp1.elim
end
end Vq

/-! Part 11: built-ins, methods, stores and slices by values. -/
namespace Vq
open PySem PySem.Spec PyProof.Rows L2

/-- a built-in that hands on a value and leaves the heap -/
def pureB (f : List D → VH → Option D) : List D → VH → Option (D × VH) := fun l h => (f l h).map fun d => (d, h)
theorem cd_pure {K : PySem.W.Frag} {r : List V → Hp → VK → Prop} {f : List D → VH → Option D}
    (hr : ∀ (w : Wd) (xs : List D) (vs : List V) (d : D) (Q : VK), w.Ok K → Rps K w xs vs → f xs w.h = some d → (∀ v, Rp K w d v → Q v w.H) → r vs w.H Q) : CallD K r (pureB f) := fun w xs vs Q ok rx h => by
  unfold pureB at h
  cases e : f xs w.h with
  | none => rw [e] at h; exact h.elim
  | some d =>
    rw [e] at h
    exact hr w xs vs d Q ok rx e fun v rv => h w v ok rfl (.refl w) rv

/-! ### ints in a sequence -/
def intsOf : List D → Option (List Int)
  | [] => some []
  | d :: r => (intD d).bind fun i => (intsOf r).map fun l => i :: l
@[simp] theorem intsOf_map (ns : List Int) : intsOf (ns.map D.int) = some ns := by
  induction ns with
  | nil => rfl
  | cons n r ih => simp [intsOf, intD, ih]
theorem intsOf_rps {K : PySem.W.Frag} {w : Wd} : ∀ {ds : List D} {vs : List V} {ns : List Int}, Rps K w ds vs → intsOf ds = some ns → vs = ns.map V.int
  | _, _, _, .nil, e => by cases e; rfl
  | _, _, _, .cons h r, e => by
    obtain ⟨i, e1, e⟩ := Option.bind_eq_some_iff.mp e
    obtain ⟨l, e2, rfl⟩ := Option.map_eq_some_iff.mp e
    rw [(intD_rp h e1).2, intsOf_rps r e2]
    rfl
def boolD : D → Option Bool
  | .bl b => some b
  | _ => none
def boolsOf : List D → Option (List Bool)
  | [] => some []
  | d :: r => (boolD d).bind fun i => (boolsOf r).map fun l => i :: l
@[simp] theorem boolsOf_map (ns : List Bool) : boolsOf (ns.map D.bl) = some ns := by
  induction ns with
  | nil => rfl
  | cons n r ih => simp [boolsOf, boolD, ih]
theorem boolsOf_rps {K : PySem.W.Frag} {w : Wd} : ∀ {ds : List D} {vs : List V} {ns : List Bool}, Rps K w ds vs → boolsOf ds = some ns → vs = ns.map V.bl
  | _, _, _, .nil, e => by cases e; rfl
  | _, _, _, .cons h r, e => by
    obtain ⟨i, e1, e⟩ := Option.bind_eq_some_iff.mp e
    obtain ⟨l, e2, rfl⟩ := Option.map_eq_some_iff.mp e
    cases h with
    | bl b =>
      cases e1
      rw [boolsOf_rps r e2]
      rfl
    | _ => cases e1
/-- the ints of the one argument, a list or a tuple -/
def argInts (l : List D) (h : VH) : Option (List Int) := (one l).bind fun d => (seqOf h d).bind intsOf
theorem argInts_rps {K : PySem.W.Frag} {w : Wd} {ds : List D} {vs : List V} {ns : List Int} (ok : w.Ok K) (r : Rps K w ds vs) (e : argInts ds w.h = some ns) : ∃ a, vs = [.ref a] ∧ (SqL K w.H a (ns.map V.int) ∨ SqT K w.H a (ns.map V.int)) := by
  obtain ⟨d, e1, e⟩ := Option.bind_eq_some_iff.mp e
  obtain ⟨l, e2, e3⟩ := Option.bind_eq_some_iff.mp e
  obtain ⟨v, _, rfl, rd⟩ := one_rps r e1
  obtain ⟨a, us, rfl, hq, rr⟩ := seqOf_sq ok rd e2
  rw [intsOf_rps rr e3] at hq
  exact ⟨a, rfl, hq⟩

section
variable {X : Cx}
def rSumS (K : PySem.W.Frag) : List V → Hp → VK → Prop := fun vs H Q => ∃ (a : Addr) (ns : List Int), vs = [V.ref a] ∧ (SqL K H a (ns.map V.int) ∨ SqT K H a (ns.map V.int)) ∧ Q (.int ns.sum) H
theorem cr_sumS (hc : X.calm = true) : CallR X (.builtin "sum") (rSumS X.K) := by
  rintro pins s σ H vs us Q I r ⟨a, ns, rfl, hs, q⟩
  rcases hs with hs | hs
  · exact cr_sum hc pins s σ H _ us Q I r ⟨a, ns, rfl, hs, q⟩
  · obtain ⟨its, rv, ht, _⟩ := I.tuple hs
    rw [Vals.ref1 r]
    exact sum_tuple (I.ok.hd hc) ht rv.ints fun h' tk t' hk => ⟨.int _, H, I.kept hk, ⟨_, rfl⟩, q⟩
def bSum : List D → VH → Option (D × VH) := pureB fun l h => (argInts l h).map fun ns => .int ns.sum
theorem sum_cd (K : PySem.W.Frag) : CallD K (rSumS K) bSum := cd_pure fun w xs vs d Q ok r e q => by
  obtain ⟨ns, e1, rfl⟩ := Option.map_eq_some_iff.mp e
  obtain ⟨a, rfl, hs⟩ := argInts_rps ok r e1
  exact ⟨a, ns, rfl, hs, q _ (.int _)⟩
/-- max of two, of a sequence -/
def rMaxS (K : PySem.W.Frag) : List V → Hp → VK → Prop := fun vs H Q => (∃ i j, vs = [.int i, .int j] ∧ Q (.int (if j > i then j else i)) H) ∨ ∃ (a : Addr) (ns : List Int) (m : Int), vs = [V.ref a] ∧ (SqL K H a (ns.map V.int) ∨ SqT K H a (ns.map V.int)) ∧ ns.max? = some m ∧ Q (.int m) H
def rMinS (K : PySem.W.Frag) : List V → Hp → VK → Prop := fun vs H Q => (∃ i j, vs = [.int i, .int j] ∧ Q (.int (if j < i then j else i)) H) ∨ ∃ (a : Addr) (ns : List Int) (m : Int), vs = [V.ref a] ∧ (SqL K H a (ns.map V.int) ∨ SqT K H a (ns.map V.int)) ∧ ns.min? = some m ∧ Q (.int m) H
theorem cr_maxS (hc : X.calm = true) : CallR X (.builtin "max") (rMaxS X.K) := by
  rintro pins s σ H vs us Q I r (h | ⟨a, ns, m, rfl, hs, hm, q⟩)
  · exact call_max2 hc pins s σ H vs us Q I r h
  · obtain ⟨m1, m2⟩ := List.max?_eq_some_iff.mp hm
    have uniq : ∀ M : Int, M ∈ ns → (∀ y, y ∈ ns → y ≤ M) → M = m := fun M h1 h2 => Int.le_antisymm (m2 M h1) (h2 m m1)
    have hne : ns ≠ [] := fun z => by rw [z] at m1; cases m1
    rcases hs with hs | hs
    · refine cr_max hc pins s σ H _ us Q I r ⟨a, ns, rfl, hs, ?_, fun M h1 h2 => by rw [uniq M h1 h2]; exact q⟩
      cases ns with
      | nil => exact absurd rfl hne
      | cons _ _ => exact Nat.succ_pos _
    · obtain ⟨its, rv, ht, _⟩ := I.tuple hs
      rw [Vals.ref1 r]
      exact ext_tuple (I.ok.hd hc) ht rv.ints hne (.inl ⟨rfl, fun M h' tk t' h1 h2 hk => ⟨.int _, H, I.kept hk, ⟨_, rfl⟩, by rw [uniq M h1 h2]; exact q⟩⟩)
theorem cr_minS (hc : X.calm = true) : CallR X (.builtin "min") (rMinS X.K) := by
  rintro pins s σ H vs us Q I r (h | ⟨a, ns, m, rfl, hs, hm, q⟩)
  · exact call_min2 hc pins s σ H vs us Q I r h
  · obtain ⟨m1, m2⟩ := List.min?_eq_some_iff.mp hm
    have uniq : ∀ M : Int, M ∈ ns → (∀ y, y ∈ ns → M ≤ y) → M = m := fun M h1 h2 => Int.le_antisymm (h2 m m1) (m2 M h1)
    have hne : ns ≠ [] := fun z => by rw [z] at m1; cases m1
    rcases hs with hs | hs
    · refine cr_min hc pins s σ H _ us Q I r ⟨a, ns, rfl, hs, ?_, fun M h1 h2 => by rw [uniq M h1 h2]; exact q⟩
      cases ns with
      | nil => exact absurd rfl hne
      | cons _ _ => exact Nat.succ_pos _
    · obtain ⟨its, rv, ht, _⟩ := I.tuple hs
      rw [Vals.ref1 r]
      exact ext_tuple (I.ok.hd hc) ht rv.ints hne (.inr ⟨rfl, fun M h' tk t' h1 h2 hk => ⟨.int _, H, I.kept hk, ⟨_, rfl⟩, by rw [uniq M h1 h2]; exact q⟩⟩)
def bMax : List D → VH → Option (D × VH) := pureB fun l h => match int2 l with
  | some (i, j) => some (.int (if j > i then j else i))
  | none => (argInts l h).bind fun ns => ns.max?.map .int
def bMin : List D → VH → Option (D × VH) := pureB fun l h => match int2 l with
  | some (i, j) => some (.int (if j < i then j else i))
  | none => (argInts l h).bind fun ns => ns.min?.map .int
theorem max_cd (K : PySem.W.Frag) : CallD K (rMaxS K) bMax := cd_pure fun w xs vs d Q ok r e q => by
  cases e2 : int2 xs with
  | some p =>
    rw [e2] at e
    cases e
    exact .inl ⟨_, _, int2_rps r e2, q _ (.int _)⟩
  | none =>
    rw [e2] at e
    obtain ⟨ns, e1, e⟩ := Option.bind_eq_some_iff.mp e
    obtain ⟨m, em, rfl⟩ := Option.map_eq_some_iff.mp e
    obtain ⟨a, rfl, hs⟩ := argInts_rps ok r e1
    exact .inr ⟨a, ns, m, rfl, hs, em, q _ (.int _)⟩
theorem min_cd (K : PySem.W.Frag) : CallD K (rMinS K) bMin := cd_pure fun w xs vs d Q ok r e q => by
  cases e2 : int2 xs with
  | some p =>
    rw [e2] at e
    cases e
    exact .inl ⟨_, _, int2_rps r e2, q _ (.int _)⟩
  | none =>
    rw [e2] at e
    obtain ⟨ns, e1, e⟩ := Option.bind_eq_some_iff.mp e
    obtain ⟨m, em, rfl⟩ := Option.map_eq_some_iff.mp e
    obtain ⟨a, rfl, hs⟩ := argInts_rps ok r e1
    exact .inr ⟨a, ns, m, rfl, hs, em, q _ (.int _)⟩
/-- all, any of a list of truth values -/
def argBools (l : List D) (h : VH) : Option (List Bool) := (one l).bind fun d => match d with
  | .ref n => (lk h n).bind boolsOf
  | _ => none
theorem argBools_rps {K : PySem.W.Frag} {w : Wd} {ds : List D} {vs : List V} {ns : List Bool} (ok : w.Ok K) (r : Rps K w ds vs) (e : argBools ds w.h = some ns) : ∃ a, vs = [.ref a] ∧ SqL K w.H a (ns.map V.bl) := by
  obtain ⟨d, e1, e⟩ := Option.bind_eq_some_iff.mp e
  obtain ⟨v, _, rfl, rd⟩ := one_rps r e1
  cases rd with
  | ref hn =>
    simp only at e
    obtain ⟨l, e2, e3⟩ := Option.bind_eq_some_iff.mp e
    obtain ⟨us, h1, h2⟩ := lk_sq ok e2
    rw [boolsOf_rps h2 e3] at h1
    exact ⟨_, rfl, h1⟩
  | _ => cases e
def bAll : List D → VH → Option (D × VH) := pureB fun l h => (argBools l h).map fun bs => .bl (bs.all id)
def bAny : List D → VH → Option (D × VH) := pureB fun l h => (argBools l h).map fun bs => .bl (bs.any id)
theorem all_cd (K : PySem.W.Frag) : CallD K (rAll K) bAll := cd_pure fun w xs vs d Q ok r e q => by
  obtain ⟨bs, e1, rfl⟩ := Option.map_eq_some_iff.mp e
  obtain ⟨a, rfl, hs⟩ := argBools_rps ok r e1
  exact ⟨a, bs, rfl, hs, q _ (.bl _)⟩
theorem any_cd (K : PySem.W.Frag) : CallD K (rAny K) bAny := cd_pure fun w xs vs d Q ok r e q => by
  obtain ⟨bs, e1, rfl⟩ := Option.map_eq_some_iff.mp e
  obtain ⟨a, rfl, hs⟩ := argBools_rps ok r e1
  exact ⟨a, bs, rfl, hs, q _ (.bl _)⟩
def bAbs : List D → VH → Option (D × VH) := pureB fun l _ => (int1 l).map fun i => .int (if i < 0 then -i else i)
theorem abs_cd (K : PySem.W.Frag) : CallD K (fun xs H Q => ∃ i, xs = [.int i] ∧ Q (.int (if i < 0 then -i else i)) H) bAbs := cd_pure fun w xs vs d Q ok r e q => by
  obtain ⟨i, e1, rfl⟩ := Option.map_eq_some_iff.mp e
  exact ⟨i, int1_rps r e1, q _ (.int _)⟩
def bInt : List D → VH → Option (D × VH) := pureB fun l _ => match one l with
  | some (.int i) => some (.int i)
  | some (.bl b) => some (.int (if b then 1 else 0))
  | _ => none
theorem int_cd (K : PySem.W.Frag) : CallD K (fun xs H Q => (∃ i, xs = [.int i] ∧ Q (.int i) H) ∨ ∃ k, xs = [.bl k] ∧ Q (.int (if k then 1 else 0)) H) bInt := cd_pure fun w xs vs d Q ok r e q => by
  cases e1 : one xs with
  | none => rw [e1] at e; cases e
  | some d =>
    obtain ⟨v, _, rfl, rd⟩ := one_rps r e1
    rw [e1] at e
    cases rd with
    | int i => cases e; exact .inl ⟨i, rfl, q _ (.int _)⟩
    | bl b => cases e; exact .inr ⟨b, rfl, q _ (.int _)⟩
    | _ => cases e
def bLen : List D → VH → Option (D × VH) := pureB fun l h => (one l).bind fun d => match d with
  | .str s => if s.length ≤ sizeLine then some (.int s.length) else none
  | _ => (seqOf h d).map fun l => .int l.length
theorem len_cd (K : PySem.W.Frag) : CallD K (fun xs H Q => ∃ x n, xs = [x] ∧ LenV K x H n ∧ Q (.int n) H) bLen := cd_pure fun w xs vs d Q ok r e q => by
  obtain ⟨x, e1, e⟩ := Option.bind_eq_some_iff.mp e
  obtain ⟨v, _, rfl, rd⟩ := one_rps r e1
  have gen : ∀ l, seqOf w.h x = some l → d = .int l.length → ∃ x n, [v] = [x] ∧ LenV K x w.H n ∧ Q (.int n) w.H := by
    intro l el ed
    subst ed
    obtain ⟨a, us, rfl, hq, rr⟩ := seqOf_sq ok rd el
    refine ⟨_, l.length, rfl, ?_, q _ (.int _)⟩
    rcases hq with hq | hq
    · exact .inl ⟨us, hq, RepL.length rr⟩
    · exact .inr ⟨us, hq, RepL.length rr⟩
  cases x with
  | str s =>
    cases rd
    simp only at e
    by_cases h : s.length ≤ sizeLine
    · rw [if_pos h] at e
      cases e
      exact ⟨_, _, rfl, ⟨h, rfl⟩, q _ (.int _)⟩
    · rw [if_neg h] at e
      cases e
  | tup l => obtain ⟨l', el, rfl⟩ := Option.map_eq_some_iff.mp e; exact gen l' el rfl
  | ftup l => obtain ⟨l', el, rfl⟩ := Option.map_eq_some_iff.mp e; exact gen l' el rfl
  | ref n => obtain ⟨l', el, rfl⟩ := Option.map_eq_some_iff.mp e; exact gen l' el rfl
  | _ => cases e
/-- list(e) of a list or tuple -/
def bList : List D → VH → Option (D × VH) := fun l h => (one l).bind fun d => (seqOf h d).map fun l => (.ref h.length, h ++ [.lst l])
theorem list_cd (K : PySem.W.Frag) : CallD K (fun xs H Q => ∃ p ys, xs = [.ref p] ∧ (SqL K H p ys ∨ SqT K H p ys) ∧ ∀ l, H l = none → Q (.ref l) (upd H l (.lst ys))) bList := fun w xs vs Q ok r h => by
  unfold bList at h
  cases e1 : one xs with
  | none => rw [e1] at h; exact h.elim
  | some d =>
    obtain ⟨v, _, rfl, rd⟩ := one_rps r e1
    rw [e1] at h
    simp only [Option.bind_some] at h
    cases e2 : seqOf w.h d with
    | none => rw [e2] at h; exact h.elim
    | some l =>
      rw [e2] at h
      obtain ⟨a, us, rfl, hq, rr⟩ := seqOf_sq ok rd e2
      exact ⟨a, us, rfl, hq, fun p hp => h (w.newL p l us) _ (ok.newL hp rr) rfl (Wd.ext_newL hp) at_newL⟩
def bTup : List D → VH → Option (D × VH) := pureB fun l h => (one l).bind fun d => (seqOf h d).map .tup
theorem tup_cd (K : PySem.W.Frag) : CallD K (fun xs H Q => ∃ p ys, xs = [.ref p] ∧ ((SqL K H p ys ∧ ∀ l, H l = none → Q (.ref l) (upd H l (.tup ys))) ∨ (SqT K H p ys ∧ Q (.ref p) H))) bTup := fun w xs vs Q ok r h => by
  unfold bTup pureB at h
  cases e1 : one xs with
  | none => simp only [e1] at h; exact h.elim
  | some d =>
    obtain ⟨v, _, rfl, rd⟩ := one_rps r e1
    simp only [e1, Option.bind_some] at h
    cases e2 : seqOf w.h d with
    | none => rw [e2] at h; exact h.elim
    | some l =>
      rw [e2] at h
      obtain ⟨a, us, rfl, hq, rr⟩ := seqOf_sq ok rd e2
      refine ⟨a, us, rfl, ?_⟩
      rcases hq with hq | hq
      · exact .inl ⟨hq, fun p hp => h (w.tupAt p (.tup us)) _ (ok.tupAt hp) rfl (Wd.ext_tupAt hp) (.tup (SqT.of upd_same) ((Wd.ext_tupAt hp).rps rr))⟩
      · exact .inr ⟨hq, h w _ ok rfl (.refl w) (.tup hq rr)⟩

/-! ### repr -/
def reprOk (p : PyData) : Bool := SeqAt.shaped p && p.showable && decide (p.shown.length ≤ sizeLine)
def rRepr (K : PySem.W.Frag) : List V → Hp → VK → Prop := fun xs H Q => ∃ x d, xs = [x] ∧ Dp K H x d ∧ reprOk d = true ∧ Q (.str d.shown) H
theorem depth_of_shaped {d : PyData} (h : SeqAt.shaped d = true) : d.canLay0 = true ∧ d.depth ≤ 64 := by
  unfold SeqAt.shaped at h
  simpa using h
theorem cr_repr (hg : X.A.guards = some []) (hu : X.A.units + 70 < cLine) : CallR X (.builtin "repr") (rRepr X.K) := by
  rintro pins s σ H vs us Q I r ⟨x, d, rfl, hd, hr, q⟩
  unfold reprOk at hr
  simp only [Bool.and_eq_true, decide_eq_true_eq] at hr
  obtain ⟨⟨h1, h2⟩, h3⟩ := hr
  obtain ⟨hlay, hdep⟩ := depth_of_shaped h1
  cases r with
  | cons rv rr =>
    cases rr
    obtain ⟨as, rds⟩ := Dp.reads I d x _ hd rv
    cases hd with
    | non =>
      cases rv
      exact P.repr_of_none ⟨.str _, H, I.tok _, ⟨_, rfl⟩, q⟩
    | bl b =>
      cases rv
      exact P.repr_of_bool ⟨.str _, H, I.tok _, ⟨_, rfl⟩, by
        cases b <;> exact q⟩
    | int i =>
      obtain ⟨t, rfl⟩ := rv
      exact P.repr_of_int (by simpa [PyData.showable] using h2) ⟨.str _, H, I.tok _, ⟨_, rfl⟩, q⟩
    | str z =>
      obtain ⟨t, rfl⟩ := rv
      exact P.repr_of_str ⟨.str _, H, I.tok _, ⟨_, rfl⟩, q⟩ h3
    | lst _ _ =>
      cases rv
      exact repr_of_reads' rds h2 (PyData.noDict_hsm (PyData.hasDict_of_canLay _ hlay)) hg (by omega) (fun b o e => e) (fun h' u tk hk => ⟨.str _, H, I.kept hk, ⟨_, rfl⟩, q⟩) h3
    | tup _ _ =>
      cases rv
      exact repr_of_reads' rds h2 (PyData.noDict_hsm (PyData.hasDict_of_canLay _ hlay)) hg (by omega) (fun b o e => e) (fun h' u tk hk => ⟨.str _, H, I.kept hk, ⟨_, rfl⟩, q⟩) h3
def bRepr : List D → VH → Option (D × VH) := pureB fun l h => (one l).bind fun d => (py h d).bind fun p => if reprOk p = true then some (.str p.shown) else none
theorem repr_cd (K : PySem.W.Frag) : CallD K (rRepr K) bRepr := cd_pure fun w xs vs d Q ok r e q => by
  obtain ⟨x, e1, e⟩ := Option.bind_eq_some_iff.mp e
  obtain ⟨v, _, rfl, rd⟩ := one_rps r e1
  obtain ⟨p, ep, e⟩ := Option.bind_eq_some_iff.mp e
  by_cases h : reprOk p = true
  · rw [if_pos h] at e
    cases e
    exact ⟨v, p, rfl, py_dp ok rd ep, h, q _ (.str _)⟩
  · rw [if_neg h] at e
    cases e
end
end Vq

/-! Part 12: in, is, products, methods, stores, slices. -/
namespace Vq
open PySem PySem.Spec PyProof.Rows L2

/-! ### in, not in: flat values -/
/-- == of flat values -/
def eqF : D → D → Bool
  | .non, .non => true
  | .bl a, .bl b => a == b
  | .bl a, .int b => (if a then 1 else 0) == b
  | .int a, .bl b => a == (if b then 1 else 0)
  | .int a, .int b => a == b
  | .str a, .str b => a == b
  | _, _ => false
theorem flat_rp {K : PySem.W.Frag} {w : Wd} {d : D} {v : V} (r : Rp K w d v) (h : flatD d = true) : flatV v = true := by
  cases r <;> first | rfl | cases h
theorem eqF_rp {K : PySem.W.Frag} {w : Wd} {d e : D} {v u : V} (r : Rp K w d v) (q : Rp K w e u) (h : flatD d = true) (g : flatD e = true) : eqV v u = eqF d e := by
  cases r <;> cases q <;> first | rfl | cases h | cases g
theorem all_flat {K : PySem.W.Frag} {w : Wd} : ∀ {ds : List D} {vs : List V}, Rps K w ds vs → ds.all flatD = true → vs.all flatV = true
  | _, _, .nil, _ => rfl
  | _, _, .cons h r, e => by
    simp only [List.all_cons, Bool.and_eq_true] at e ⊢
    exact ⟨flat_rp h e.1, all_flat r e.2⟩
theorem inV_rp {K : PySem.W.Frag} {w : Wd} {x : D} {vx : V} (rx : Rp K w x vx) (hx : flatD x = true) : ∀ {ds : List D} {vs : List V}, Rps K w ds vs → ds.all flatD = true → inV vx vs = ds.any fun y => eqF y x
  | _, _, .nil, _ => rfl
  | _, _, .cons h r, e => by
    simp only [List.all_cons, Bool.and_eq_true] at e
    show ((eqV _ vx) || inV vx _) = _
    rw [eqF_rp h rx e.1 hx, inV_rp rx hx r e.2]
    rfl
def inW (neg : Bool) (x y : D) (h : VH) : Option (D × VH) := (seqOf h y).bind fun l => if (flatD x && l.all flatD) = true then some (.bl (if neg then !(l.any fun y => eqF y x) else l.any fun y => eqF y x), h) else none
def dIn (x y : D) (h : VH) : Option (D × VH) := inW false x y h
def dNin (x y : D) (h : VH) : Option (D × VH) := inW true x y h
theorem inW_opd (K : PySem.W.Frag) (neg : Bool) : OpD K (rIn K neg) (inW neg) := fun w x y vx vy Q ok rx ry h => by
  unfold inW at h
  cases e : seqOf w.h y with
  | none => rw [e] at h; exact h.elim
  | some l =>
    rw [e] at h
    simp only [Option.bind_some] at h
    by_cases hf : (flatD x && l.all flatD) = true
    · rw [if_pos hf] at h
      rw [Bool.and_eq_true] at hf
      obtain ⟨a, us, rfl, hq, rr⟩ := seqOf_sq ok ry e
      refine ⟨a, us, rfl, hq, flat_rp rx hf.1, all_flat rr hf.2, ?_⟩
      rw [inV_rp rx hf.1 rr hf.2]
      exact h w _ ok rfl (.refl w) (.bl _)
    · rw [if_neg hf] at h
      exact h.elim
theorem in_opd (K : PySem.W.Frag) : OpD K (rIn K false) dIn := inW_opd K false
theorem nin_opd (K : PySem.W.Frag) : OpD K (rIn K true) dNin := inW_opd K true

/-! ### is None -/
def isNon : D → Bool
  | .non => true
  | _ => false
theorem isNon_rp {K : PySem.W.Frag} {w : Wd} {d : D} {v : V} (r : Rp K w d v) : decide (v = .non) = isNon d := by
  cases r <;> simp [isNon]
def dIsN (x y : D) (h : VH) : Option (D × VH) := if isNon y = true then some (.bl (isNon x), h) else none
def dNotN (x y : D) (h : VH) : Option (D × VH) := if isNon y = true then some (.bl (!isNon x), h) else none
theorem isN_opd (K : PySem.W.Frag) : OpD K (fun x y H Q => y = .non ∧ Q (.bl (decide (x = .non))) H) dIsN := fun w x y vx vy Q ok rx ry h => by
  unfold dIsN at h
  by_cases hn : isNon y = true
  · rw [if_pos hn] at h
    refine ⟨of_decide_eq_true ((isNon_rp ry).trans hn), ?_⟩
    rw [isNon_rp rx]
    exact h w _ ok rfl (.refl w) (.bl _)
  · rw [if_neg hn] at h
    exact h.elim
theorem notN_opd (K : PySem.W.Frag) : OpD K (fun x y H Q => y = .non ∧ Q (.bl (!decide (x = .non))) H) dNotN := fun w x y vx vy Q ok rx ry h => by
  unfold dNotN at h
  by_cases hn : isNon y = true
  · rw [if_pos hn] at h
    refine ⟨of_decide_eq_true ((isNon_rp ry).trans hn), ?_⟩
    rw [isNon_rp rx]
    exact h w _ ok rfl (.refl w) (.bl _)
  · rw [if_neg hn] at h
    exact h.elim

/-! ### products -/
theorem tuple_mul1 (l : Addr) (items : Array Value) (n : Nat) (dd : Option Addr) (sl : Array (Option Value)) (x : Int) (u : Tok)
    (c0 : (decide (x < -(2 ^ 63)) || decide (x ≥ 2 ^ 63)) = false) (c1 : (items.isEmpty || x == 1) = true) :
    Meets (Builtin.«tuple.__mul__» ⟨[.ref l, .int x u], []⟩) (fun _ R s => s.heap.get? l = some { cls := .type "tuple", dict := dd, data := .seq items n, slots := sl } ∧ R (.ok (.ret (Value.ref l))) s) := by
  refine .of_wp fun prog w A R s h => ?_
  obtain ⟨hp, g, d, tk, os⟩ := s
  obtain ⟨hl, h⟩ := h
  have f1 := AutoSeq1.idx_int
  wp_walk using wpAny_loadPart' hl
  repeat (first
    | (refine wpAny_ite_false (decide_eq_false (by rw [c0]; exact fun z => nomatch z)) ?_; wp_walk using wpAny_loadPart' hl)
    | (refine wpAny_ite_true (decide_eq_true c1) ?_; wp_walk using wpAny_loadPart' hl))
  exact ⟨_, rfl, h⟩
/-- t * 1, () * k: the tuple itself -/
def rRep1 (K : PySem.W.Frag) : R2 := fun x y H Q => ∃ l k xs, x = .ref l ∧ y = .int k ∧ SqT K H l xs ∧ -(2 ^ 63) ≤ k ∧ k < 2 ^ 63 ∧ (xs = [] ∨ k = 1) ∧ Q (.ref l) H
theorem op_rep1 {X : Cx} : OpR X (binaryOp .Mult) (rRep1 X.K) := by
  rintro pins s σ H x y v u Q I rx ry ⟨l, k, xs, rfl, rfl, hT, k1, k2, hk, q⟩
  cases rx
  obtain ⟨t, rfl⟩ := ry
  obtain ⟨its, r, ⟨⟨cls, dd, data, sl⟩, ho, hc, n, hd⟩, hs⟩ := I.tuple hT
  simp only at hc hd
  subst hc hd
  have c0 : (decide (k < -(2 ^ 63)) || decide (k ≥ 2 ^ 63)) = false := by
    rw [decide_eq_false (by omega), decide_eq_false (by omega)]
    rfl
  have c1 : (its.toArray.isEmpty || k == 1) = true := by
    rcases hk with h | h
    · subst h
      cases r
      rfl
    · subst h
      simp
  refine wpAny_binaryOp_repeat_ref (T := "tuple") (U := "int") (by decide) ⟨_, ho, rfl⟩ (fun s' => typeIs_int s' k t) noFill_tuple_mul F.fills_int_mul F.slot_int_rmul repeat_tuple F.slot_int_index.lookup ?_
  refine call_meets F.slot_int_rmul (typeIs_int s k t) F.entry_int_rmul (F.args_int_rmul_2 _ _) (int_rmul_tuple k t l its.toArray n dd sl) ⟨ho, rfl, ⟨_, ho, rfl⟩, ?_⟩
  exact call_meets F.slot_tuple_mul ⟨_, ho, rfl⟩ F.entry_tuple_mul (F.args_tuple_mul_2 _ _) (tuple_mul1 l its.toArray n dd sl k t c0 c1) ⟨ho, ⟨.ref l, H, I, rfl, q⟩⟩
def repD (k : Nat) (l : List D) : List D := (List.replicate k l).flatten
theorem reps_rep {K : PySem.W.Frag} {w : Wd} {ds : List D} {vs : List V} (r : Rps K w ds vs) : ∀ k : Nat, Rps K w (repD k ds) (List.replicate k vs).flatten
  | 0 => .nil
  | k + 1 => by
    show RepL K w.ι w.h.length w.H (List.replicate (k + 1) ds).flatten (List.replicate (k + 1) vs).flatten
    rw [List.replicate_succ, List.replicate_succ, List.flatten_cons, List.flatten_cons]
    exact r.append (reps_rep r k)
def tMulT : D → D → VH → Option (D × VH) := fun x y h => match x, y with
  | .tup l, .int k => if k = 1 then some (.tup l, h) else if 2 ≤ k ∧ k ≤ 1000 ∧ l ≠ [] ∧ l.length ≤ 1000 then some (.tup (repD k.toNat l), h) else none
  | _, _ => none
theorem mulT_opd (K : PySem.W.Frag) : OpD K (orR (rRep1 K) (rRepT K)) tMulT := fun w x y vx vy Q ok rx ry h => by
  cases rx with
  | @tup a vs ds hx rx =>
    cases ry with
    | int k =>
      unfold tMulT at h
      simp only at h
      by_cases h1 : k = 1
      · rw [if_pos h1] at h
        exact .inl ⟨a, k, vs, rfl, rfl, hx, by omega, by omega, .inr h1, h w _ ok rfl (.refl w) (.tup hx rx)⟩
      · rw [if_neg h1] at h
        by_cases h2 : 2 ≤ k ∧ k ≤ 1000 ∧ ds ≠ [] ∧ ds.length ≤ 1000
        · rw [if_pos h2] at h
          refine .inr ⟨a, k, vs, rfl, rfl, hx, fun z => h2.2.2.1 ?_, h2.1, h2.2.1, by rw [← rx.length]; exact h2.2.2.2, fun p hp => ?_⟩
          · subst z
            cases rx
            rfl
          · exact h (w.tupAt p (.tup _)) _ (ok.tupAt hp) rfl (Wd.ext_tupAt hp) (.tup (SqT.of upd_same) ((Wd.ext_tupAt hp).rps (reps_rep rx k.toNat)))
        · rw [if_neg h2] at h
          exact h.elim
    | _ => exact h.elim
  | _ => cases ry <;> exact h.elim
def tMulL : D → D → VH → Option (D × VH) := fun x y h => match x, y with
  | .ref m, .int k => match h[m]? with
    | some (.lst l) => if -(2 ^ 63) ≤ k ∧ k < 2 ^ 63 ∧ l.length * k.toNat ≤ sizeLine then some (.ref h.length, h ++ [.lst (repD k.toNat l)]) else none
    | _ => none
  | _, _ => none
theorem mulL_opd (K : PySem.W.Frag) : OpD K rRep tMulL := fun w x y vx vy Q ok rx ry h => by
  cases rx with
  | @ref m hm =>
    cases ry with
    | int k =>
      unfold tMulL at h
      simp only at h
      cases e1 : w.h[m]? with
      | none => simp only [e1] at h; exact h.elim
      | some c =>
        cases c with
        | ro _ => simp only [e1] at h; exact h.elim
        | lst l =>
          simp only [e1] at h
          by_cases h2 : -(2 ^ 63) ≤ k ∧ k < 2 ^ 63 ∧ l.length * k.toNat ≤ sizeLine
          · rw [if_pos h2] at h
            obtain ⟨us, g1, g2⟩ := ok.cell m _ e1
            exact ⟨_, k, us, rfl, rfl, g1, h2.1, h2.2.1, by rw [← g2.length]; exact h2.2.2, fun p hp => h (w.newL p _ _) _ (ok.newL hp (reps_rep g2 k.toNat)) rfl (Wd.ext_newL hp) at_newL⟩
          · rw [if_neg h2] at h
            exact h.elim
    | _ => exact h.elim
  | _ => cases ry <;> exact h.elim
def dMul : D → D → VH → Option (D × VH) := orD aMul (orD tMulT tMulL)
def rMulA (K : PySem.W.Frag) : R2 := orR (orR (rI CMul fun i j => .int (i * j)) (rI CMulW fun i j => .int (i * j))) (orR (orR (rRep1 K) (rRepT K)) rRep)
theorem mul_opd (K : PySem.W.Frag) : OpD K (rMulA K) dMul := opd_orD (mul_ii K) (opd_orD (mulT_opd K) (mulL_opd K))
theorem mul_opr {X : Cx} : OpR X (binaryOp .Mult) (rMulA X.K) := OpR.or (OpR.or op_mul op_mulW) (OpR.or (OpR.or op_rep1 op_repT) op_rep)
theorem fdv_opr {X : Cx} : OpR X (binaryOp .FloorDiv) (fun x y H Q => rI CDivN (fun i j => .int (i.fdiv j)) x y H Q ∨ rI CDivW (fun i j => .int (i / j)) x y H Q) := OpR.or op_fdivN op_fdivW

/-! ### stores -/
def sLst (o i d : D) (h : VH) : Option VH := match o, i with
  | .ref n, .int k => match h[n]? with
    | some (.lst l) => (ixN l.length k).map fun j => h.set n (.lst (l.set j d))
    | _ => none
  | _, _ => none
theorem lst_setd (K : PySem.W.Frag) : SetD K rSetL sLst := fun w o i d vo vi vd Q ok ro ri rd h => by
  cases ro with
  | @ref n hn =>
    cases ri with
    | int k =>
      unfold sLst at h
      simp only at h
      cases e1 : w.h[n]? with
      | none => simp only [e1] at h
      | some c =>
        cases c with
        | ro _ => simp only [e1] at h
        | lst l =>
          simp only [e1] at h
          cases ej : ixN l.length k with
          | none => simp only [ej] at h; exact h.elim
          | some j =>
            simp only [ej] at h
            obtain ⟨us, g1, g2⟩ := ok.cell n _ e1
            obtain ⟨ok', x'⟩ := ok.putL (ds := l.set j d) (vs := us.set j vd) e1 (g2.set rd j)
            exact ⟨_, us, k, j, rfl, rfl, g1, by rw [← g2.length]; exact ej, h (w.putL n _ _) ok' rfl x'⟩
    | _ => exact h.elim
  | _ => cases ri <;> exact h.elim

/-! ### methods -/
def MtD (K : PySem.W.Frag) (r : V → List V → Hp → VK → Prop) (f : D → List D → VH → Option (D × VH)) : Prop :=
  ∀ (w : Wd) (x : D) (xs : List D) (vx : V) (vs : List V) (Q : VK), w.Ok K → Rp K w x vx → Rps K w xs vs → PstO K w (f x xs w.h) Q → r vx vs w.H Q
def tyD (T : String) (d : D) (h : VH) : Bool := match d with
  | .ref n => T == "list" && (lk h n).isSome
  | .str _ => T == "str"
  | .int _ => T == "int"
  | _ => false
theorem tyD_tyV {K : PySem.W.Frag} {w : Wd} {T : String} {d : D} {v : V} (ok : w.Ok K) (r : Rp K w d v) (h : tyD T d w.h = true) : tyV K T v w.H := by
  cases r with
  | @ref n hn =>
    simp only [tyD, Bool.and_eq_true, beq_iff_eq] at h
    obtain ⟨ds, e⟩ := Option.isSome_iff_exists.mp h.2
    obtain ⟨vs, h1, h2⟩ := lk_sq ok e
    exact .inl ⟨h.1, vs, h1⟩
  | str s =>
    show T = "str"
    simpa [tyD] using h
  | int i =>
    show T = "int"
    simpa [tyD] using h
  | _ => cases h
def vMt (T : String) (f : D → List D → VH → Option (D × VH)) (o : VE) (a : VA) : VE := fun s h => (o s h).bind fun p => if tyD T p.1 p.2 = true then (a s p.2).bind fun q => lift (f p.1 q.1 q.2) else .bad
section
variable {X : Cx} {W : WX} {o e : Expr} {es : List Expr} {fo : VE} {g : VA} {name : Str} {apos cpos : Pos} {T id : String} {r : V → List V → Hp → VK → Prop} {f : D → List D → VH → Option (D × VH)}
theorem qMt0 (pa : PlainAttrs T) (slot : Slot T name id) (hty : typeOf (.builtin id) = pure (.type "method_descriptor")) (hm : MtR X id r) (hf : MtD X.K r f) (ho : PE X o (gE X W fo))
    (hbase : attributeBase o name X.env (eval o X.env) = eval o X.env := by rfl) (hline : (apos.endLine == cpos.line) = true := by rfl) : PE X (.Call (.Attribute o name apos) [] [] cpos) (gE X W (vMt T f fo vNil)) :=
  PEw (pe_bm0 pa slot hty hm ho hbase hline) fun σ H Q ⟨w, s, hH, ok, sl, hp⟩ => by
    subst hH
    refine gE.seq ok sl (wE w Q) hp fun d w1 v ok1 x1 sl1 r1 hp1 => ?_
    simp only at hp1
    by_cases ht : tyD T d w1.h = true
    · rw [if_pos ht] at hp1
      exact ⟨tyD_tyV ok1 r1 ht, hf w1 d [] v [] Q ok1 r1 .nil ((PstE.lift hp1).mono x1)⟩
    · rw [if_neg ht] at hp1
      exact hp1.elim
theorem qMt (pa : PlainAttrs T) (slot : Slot T name id) (hty : typeOf (.builtin id) = pure (.type "method_descriptor")) (hm : MtR X id r) (hf : MtD X.K r f) (ho : PE X o (gE X W fo)) (ha : PA X (e :: es) (gA X W g))
    (hbase : attributeBase o name X.env (eval o X.env) = eval o X.env := by rfl)
    (hfew : ((backTo cpos (starEach (e :: es) X.env)).all (fun x => !x.1) && (backToKw cpos (keywordEach [] X.env)).all (fun x => x.1.isSome)
      && decide ((e :: es).length + ([] : List Keyword).length + (if ([] : List Keyword).isEmpty then 0 else 1) < 30)) = true := by rfl)
    (hline : (apos.endLine == cpos.line) = true := by rfl) (hs : starEach (e :: es) X.env = (false, eval e X.env) :: starEach es X.env := by rfl) (hplain : (backTo cpos (starEach es X.env)).any (·.1) = false := by rfl) :
    PE X (.Call (.Attribute o name apos) (e :: es) [] cpos) (gE X W (vMt T f fo g)) :=
  PEw (pe_bm pa slot hty hm ho ha hbase hfew hline hs hplain) fun σ H Q ⟨w, s, hH, ok, sl, hp⟩ => by
    subst hH
    refine gE.seq ok sl (wE w Q) hp fun d w1 v ok1 x1 sl1 r1 hp1 => ?_
    simp only at hp1
    by_cases ht : tyD T d w1.h = true
    · rw [if_pos ht] at hp1
      refine ⟨tyD_tyV ok1 r1 ht, ?_⟩
      refine gA.seq ok1 sl1 ((wE w Q).mono x1) hp1 fun ds w2 vs ok2 x2 sl2 r2 hp2 => ?_
      exact hf w2 d ds v vs Q ok2 (x2.rp r1) r2 ((PstE.lift hp2).mono (x1.trans x2))
    · rw [if_neg ht] at hp1
      exact hp1.elim
end
/-- the list at a reference -/
def lstAt (h : VH) : D → Option (Nat × List D)
  | .ref n => match h[n]? with
    | some (.lst l) => some (n, l)
    | _ => none
  | _ => none
theorem lstAt_rp {K : PySem.W.Frag} {w : Wd} {d : D} {v : V} {n : Nat} {l : List D} (ok : w.Ok K) (r : Rp K w d v) (e : lstAt w.h d = some (n, l)) : d = .ref n ∧ w.h[n]? = some (.lst l) ∧ v = .ref (w.ι n) ∧ ∃ us, w.H (w.ι n) = some (.lst us) ∧ Rps K w l us := by
  cases r with
  | @ref m hm =>
    unfold lstAt at e
    simp only at e
    cases e1 : w.h[m]? with
    | none => simp only [e1] at e; cases e
    | some c =>
      cases c with
      | ro _ => simp only [e1] at e; cases e
      | lst l' =>
        simp only [e1] at e
        cases e
        exact ⟨rfl, e1, rfl, ok.cell _ _ e1⟩
  | _ => cases e
def mAppend (x : D) (xs : List D) (h : VH) : Option (D × VH) := (lstAt h x).bind fun p => (one xs).bind fun d => if p.2.length < sizeLine then some (.non, h.set p.1 (.lst (p.2 ++ [d]))) else none
theorem append_mtd (K : PySem.W.Frag) : MtD K rAppend mAppend := fun w x xs vx vs Q ok rx rs h => by
  unfold mAppend at h
  cases e1 : lstAt w.h x with
  | none => rw [e1] at h; exact h.elim
  | some p =>
    obtain ⟨n, l⟩ := p
    obtain ⟨rfl, en, rfl, us, g1, g2⟩ := lstAt_rp ok rx e1
    rw [e1] at h
    simp only [Option.bind_some] at h
    cases e2 : one xs with
    | none => rw [e2] at h; exact h.elim
    | some d =>
      obtain ⟨v, _, rfl, rd⟩ := one_rps rs e2
      rw [e2] at h
      simp only [Option.bind_some] at h
      by_cases hl : l.length < sizeLine
      · rw [if_pos hl] at h
        obtain ⟨ok', x'⟩ := ok.putL (ds := l ++ [d]) (vs := us ++ [v]) en (g2.append (.cons rd .nil))
        exact ⟨_, us, v, rfl, rfl, g1, by rw [← RepL.length g2]; exact hl, h (w.putL n _ _) _ ok' rfl x' .non⟩
      · rw [if_neg hl] at h
        exact h.elim
def mPop (x : D) (xs : List D) (h : VH) : Option (D × VH) := (lstAt h x).bind fun p => if xs.isEmpty = true then (p.2[p.2.length - 1]?).map fun d => (d, h.set p.1 (.lst p.2.dropLast)) else none
theorem RepL.dropLast {K : PySem.W.Frag} {w : Wd} {ds : List D} {vs : List V} (r : Rps K w ds vs) : Rps K w ds.dropLast vs.dropLast := by
  rw [List.dropLast_eq_take, List.dropLast_eq_take, ← RepL.length r]
  exact RepL.take _ r
theorem pop_mtd (K : PySem.W.Frag) : MtD K rPop mPop := fun w x xs vx vs Q ok rx rs h => by
  unfold mPop at h
  cases e1 : lstAt w.h x with
  | none => rw [e1] at h; exact h.elim
  | some p =>
    obtain ⟨n, l⟩ := p
    obtain ⟨rfl, en, rfl, us, g1, g2⟩ := lstAt_rp ok rx e1
    rw [e1] at h
    simp only [Option.bind_some] at h
    cases rs with
    | cons _ _ => exact h.elim
    | nil =>
      simp only [List.isEmpty_nil, if_true] at h
      cases e2 : l[l.length - 1]? with
      | none => rw [e2] at h; exact h.elim
      | some d =>
        rw [e2] at h
        obtain ⟨v, ev, rv⟩ := RepL.get g2 e2
        obtain ⟨ok', x'⟩ := ok.putL (ds := l.dropLast) (vs := us.dropLast) en (RepL.dropLast g2)
        exact ⟨_, us, v, rfl, rfl, g1, by rw [← RepL.length g2]; exact ev, h (w.putL n _ _) v ok' rfl x' (x'.rp rv)⟩
def mExtend (x : D) (xs : List D) (h : VH) : Option (D × VH) := (lstAt h x).bind fun p => ((one xs).bind (lstAt h)).bind fun q => if p.2.length + q.2.length ≤ sizeLine then some (.non, h.set p.1 (.lst (p.2 ++ q.2))) else none
theorem extend_mtd (K : PySem.W.Frag) : MtD K rExtend mExtend := fun w x xs vx vs Q ok rx rs h => by
  unfold mExtend at h
  cases e1 : lstAt w.h x with
  | none => rw [e1] at h; exact h.elim
  | some p =>
    obtain ⟨n, l⟩ := p
    obtain ⟨rfl, en, rfl, us, g1, g2⟩ := lstAt_rp ok rx e1
    rw [e1] at h
    simp only [Option.bind_some] at h
    cases e2 : one xs with
    | none => rw [e2] at h; exact h.elim
    | some d =>
      obtain ⟨v, _, rfl, rd⟩ := one_rps rs e2
      rw [e2] at h
      simp only [Option.bind_some] at h
      cases e3 : lstAt w.h d with
      | none => rw [e3] at h; exact h.elim
      | some q =>
        obtain ⟨m, k⟩ := q
        obtain ⟨rfl, em, rfl, zs, g3, g4⟩ := lstAt_rp ok rd e3
        rw [e3] at h
        simp only [Option.bind_some] at h
        by_cases hl : l.length + k.length ≤ sizeLine
        · rw [if_pos hl] at h
          obtain ⟨ok', x'⟩ := ok.putL (ds := l ++ k) (vs := us ++ zs) en (g2.append g4)
          exact ⟨_, _, us, zs, rfl, rfl, g1, g3, by rw [← RepL.length g2, ← RepL.length g4]; exact hl, h (w.putL n _ _) _ ok' rfl x' .non⟩
        · rw [if_neg hl] at h
          exact h.elim

/-! ### slices -/
abbrev VO := VS → VH → Res (Option Int × VH)
def oNone : VO := fun _ h => .ok (none, h)
def oSome (f : VE) : VO := fun s h => (f s h).bind fun p => match intD p.1 with
  | some i => .ok (some i, p.2)
  | none => .bad
def PstI' (X : Cx) (W : WX) (w : Wd) (r : Res (Option Int × VH)) (Q : Option Int → Hp → Prop) : Prop :=
  match r with
  | .ok p => ∀ w', w'.Ok X.K → w'.h = p.2 → Wd.Ext X.K w w' → Q p.1 w'.H
  | .ex x s h => PstX X W w x s h
  | .bad => False
def gO (X : Cx) (W : WX) (f : VO) : TO := fun σ H Q => ∃ w s, w.H = H ∧ w.Ok X.K ∧ Slots X.K w s σ ∧ PstI' X W w (f s w.h) Q
/-- a slice's items -/
def cutD (l : List D) (lo hi : Option Int) : List D := (l.drop (HT.sIx l.length 0 lo)).take (HT.sIx l.length l.length hi - HT.sIx l.length 0 lo)
def slD (x : D) (lo hi : Option Int) (h : VH) : Option (D × VH) := match x with
  | .tup l => some (.tup (cutD l lo hi), h)
  | .ref n => (lk h n).map fun l => (.ref h.length, h ++ [.lst (cutD l lo hi)])
  | _ => none
def vSl (x : VE) (lo hi : VO) : VE := fun s h => (x s h).bind fun p => (lo s p.2).bind fun q => (hi s q.2).bind fun r => lift (slD p.1 q.1 r.1 r.2)
section
variable {X : Cx} {W : WX} {e : Expr} {f : VE} {lo hi : Option Expr} {fl fh : VO} {pos p2 : Pos}
theorem POw {o : Option Expr} {t t' : TO} (h : PO X o t) (i : ∀ σ H Q, t' σ H Q → t σ H Q) : PO X o t' := ⟨fun pins s σ H Q I q => h.run pins s σ H Q I (i σ H Q q)⟩
theorem qo0 : PO X none (gO X W oNone) := POw po_none fun σ H Q ⟨w, s, hH, ok, sl, hp⟩ => by
  subst hH
  exact hp w ok rfl (.refl w)
theorem wO (w : Wd) (Q : Option Int → Hp → Prop) : Wants X W w (fun r => PstI' X W w r Q) := ⟨id, fun _ _ _ h => h⟩
theorem qo (h : PE X e (gE X W f)) : PO X (some e) (gO X W (oSome f)) := POw (po_some h) fun σ H Q ⟨w, s, hH, ok, sl, hp⟩ => by
  subst hH
  refine gE.seq ok sl (wO w Q) hp fun d w1 v ok1 x1 sl1 r1 hp1 => ?_
  simp only at hp1
  cases e1 : intD d with
  | none => rw [e1] at hp1; exact hp1.elim
  | some i =>
    rw [e1] at hp1
    exact ⟨i, (intD_rp r1 e1).2, hp1 w1 ok1 rfl x1⟩
theorem gO.seq {f : VO} {β : Type} {k : Option Int × VH → Res β} {P : Res β → Prop} {w : Wd} {s : VS} {σ : L2.St} {Q : Option Int → Hp → Prop} (ok : w.Ok X.K) (sl : Slots X.K w s σ) (hP : Wants X W w P) (hp : P ((f s w.h).bind k))
    (hq : ∀ d w1, w1.Ok X.K → Wd.Ext X.K w w1 → Slots X.K w1 s σ → P (k (d, w1.h)) → Q d w1.H) : gO X W f σ w.H Q := by
  refine ⟨w, s, rfl, ok, sl, ?_⟩
  cases e : f s w.h with
  | ok p =>
    rw [e] at hp
    obtain ⟨p1, p2⟩ := p
    intro w' ok' q x
    refine hq p1 w' ok' x (sl.ext x) ?_
    rw [show w'.h = p2 from q]
    exact hp
  | ex x s h => rw [e] at hp; exact hP.ex _ _ _ hp
  | bad => rw [e] at hp; exact (hP.bad hp).elim
theorem cut_rps {K : PySem.W.Frag} {w : Wd} {ds : List D} {vs : List V} (r : Rps K w ds vs) (lo hi : Option Int) : Rps K w (cutD ds lo hi) (cutV vs lo hi) := by
  unfold cutD cutV
  rw [← RepL.length r]
  exact (RepL.drop _ r).take _
theorem qSl (he : PE X e (gE X W f)) (hl : PO X lo (gO X W fl)) (hu : PO X hi (gO X W fh)) : PE X (.Subscript e (.Slice lo hi none p2) pos) (gE X W (vSl f fl fh)) :=
  PEw (pe_slice (SlR.or sl_list sl_tupA) he hl hu) fun σ H Q ⟨w, s, hH, ok, sl, hp⟩ => by
    subst hH
    refine gE.seq ok sl (wE w Q) hp fun d w1 v ok1 x1 sl1 r1 hp1 => ?_
    refine gO.seq ok1 sl1 ((wE w Q).mono x1) hp1 fun i w2 ok2 x2 sl2 hp2 => ?_
    refine gO.seq ok2 sl2 ((wE w Q).mono (x1.trans x2)) hp2 fun j w3 ok3 x3 sl3 hp3 => ?_
    have r3 := (x2.trans x3).rp r1
    have hp3 := (PstE.lift hp3).mono ((x1.trans x2).trans x3)
    unfold slD at hp3
    cases r3 with
    | @tup a vs ds hq rr =>
      simp only at hp3
      refine .inr ⟨a, vs, rfl, hq, fun z => ?_, fun z p hn => ?_⟩
      · have e : cutD ds i j = ds := by
          unfold cutD
          rw [RepL.length rr, z.1, z.2]
          simp [← RepL.length rr]
        rw [e] at hp3
        exact hp3 w3 _ ok3 rfl (.refl w3) (.tup hq rr)
      · exact hp3 (w3.tupAt p (.tup _)) _ (ok3.tupAt hn) rfl (Wd.ext_tupAt hn) (.tup (SqT.of upd_same) ((Wd.ext_tupAt hn).rps (cut_rps rr i j)))
    | @ref n hn =>
      simp only at hp3
      cases el : lk w3.h n with
      | none => rw [el] at hp3; exact hp3.elim
      | some l =>
        rw [el] at hp3
        obtain ⟨us, h1, h2⟩ := lk_sq ok3 el
        exact .inl ⟨_, us, rfl, h1, fun p hq => hp3 (w3.newL p _ _) _ (ok3.newL hq (cut_rps h2 i j)) rfl (Wd.ext_newL hq) at_newL⟩
    | _ => exact hp3.elim
end

/-! ### chains of two comparisons -/
def vChain (f g : D → D → VH → Option (D × VH)) (a b c : VE) : VE := fun s h => (a s h).bind fun p => (b s p.2).bind fun q => (lift (f p.1 q.1 q.2)).bind fun r => match boolD r.1 with
  | some true => (c s r.2).bind fun u => lift (g q.1 u.1 u.2)
  | some false => .ok (.bl false, r.2)
  | none => .bad
section
variable {X : Cx} {W : WX} {a b c : Expr} {fa fb fc : VE} {pos : Pos}
theorem chain_red {r r' : R2} {f g : D → D → VH → Option (D × VH)} (hf : OpD X.K r f) (hg : OpD X.K r' g) {σ : L2.St} {H : Hp} {Q : VK} (h : gE X W (vChain f g fa fb fc) σ H Q) : tChain r r' (gE X W fa) (gE X W fb) (gE X W fc) σ H Q := by
  obtain ⟨w, s, hH, ok, sl, hp⟩ := h
  subst hH
  refine gE.seq ok sl (wE w Q) hp fun d w1 v ok1 x1 sl1 r1 hp1 => ?_
  refine gE.seq ok1 sl1 ((wE w Q).mono x1) hp1 fun d2 w2 v2 ok2 x2 sl2 r2 hp2 => ?_
  refine hf w2 d d2 v v2 _ ok2 (x2.rp r1) r2 ?_
  simp only at hp2
  cases e : f d d2 w2.h with
  | none => rw [e] at hp2; exact hp2.elim
  | some p =>
    obtain ⟨z, h3⟩ := p
    rw [e] at hp2
    simp only [lift_some, Res.ok_bind] at hp2
    intro w3 vz ok3 e3 x3 rz
    have e3 : w3.h = h3 := e3
    subst e3
    cases rz with
    | bl k =>
      refine ⟨k, rfl, ?_⟩
      cases k with
      | false =>
        simp only [boolD, Bool.false_eq_true, if_false] at hp2 ⊢
        exact hp2 w3 _ ok3 rfl ((x1.trans x2).trans x3) (.bl _)
      | true =>
        simp only [boolD, if_true] at hp2 ⊢
        refine gE.seq ok3 (sl2.ext x3) ((wE w Q).mono ((x1.trans x2).trans x3)) hp2 fun d4 w4 v4 ok4 x4 sl4 r4 hp4 => ?_
        exact hg w4 d2 d4 v2 v4 Q ok4 ((x3.trans x4).rp r2) r4 ((PstE.lift hp4).mono (((x1.trans x2).trans x3).trans x4))
    | _ => exact hp2.elim
theorem qChain {op op' : CmpOp} {r r' : R2} {f g : D → D → VH → Option (D × VH)} (ho : OpR X (compareOp op) r) (hf : OpD X.K r f) (ho' : OpR X (compareOp op') r') (hg : OpD X.K r' g) (ha : PE X a (gE X W fa)) (hb : PE X b (gE X W fb)) (hc : PE X c (gE X W fc))
    (hm : lastMarks [op, op'] [b, c] = false := by with_unfolding_all rfl) : PE X (.Compare a [op, op'] [b, c] pos) (gE X W (vChain f g fa fb fc)) := PEw (pe_chain ho ho' ha hb hc hm) fun _ _ _ h => chain_red hf hg h
end

/-! ### a, b = x, y; a, b, c = x, y, z -/
def vPar3 (i j l : Nat) (a : VA) : VSt := fun s h => (a s h).bind fun p => match p.1 with
  | [x, y, z] => .ok (.nx, ((s.set i (some x)).set j (some y)).set l (some z), p.2)
  | _ => .bad
section
variable {X : Cx} {W : WX} {i j l : Nat} {x y z : Str} {a b c : Expr} {f : VA} {px py pz pt pos : Pos} {kt : Nat} {k2 : Nat} {pt2 : Pos}
theorem qPar2 (hc : X.calm = true) (hN : X.N.Nodup) (ha : PA X [a, b] (gA X W f)) (hi : X.N[i]? = some x := by rfl) (hj : X.N[j]? = some y := by rfl) (hij : i ≠ j := by decide)
    (hx : X.env.scope.names.lookup x = some .local := by rfl) (hy : X.env.scope.names.lookup y = some .local := by rfl)
    (hw : swappedStores [.Tuple [.Name x px, .Name y py] kt pt] (.Tuple [a, b] k2 pt2) X.env = pure (some [x, y]) := by rfl)
    (hs : swapsWithSole [.Tuple [.Name x px, .Name y py] kt pt] (.Tuple [a, b] k2 pt2) pos.line X.env = pure false := by rfl) :
    PS X (.Assign [.Tuple [.Name x px, .Name y py] kt pt] (.Tuple [a, b] k2 pt2) pos) (gS X W (vPar i j f)) :=
  qPar hc hN hi hj hij ha fun t h => ps_par hc hN hi hj hij hx hy h hw hs
theorem qPar3 (hc : X.calm = true) (hN : X.N.Nodup) (ha : PA X [a, b, c] (gA X W f)) (hi : X.N[i]? = some x := by rfl) (hj : X.N[j]? = some y := by rfl) (hl : X.N[l]? = some z := by rfl) (hij : i ≠ j := by decide) (hil : i ≠ l := by decide) (hjl : j ≠ l := by decide)
    (hx : X.env.scope.names.lookup x = some .local := by rfl) (hy : X.env.scope.names.lookup y = some .local := by rfl) (hz : X.env.scope.names.lookup z = some .local := by rfl)
    (hw : swappedStores [.Tuple [.Name x px, .Name y py, .Name z pz] kt pt] (.Tuple [a, b, c] k2 pt2) X.env = pure (some [x, y, z]) := by rfl)
    (hs : swapsWithSole [.Tuple [.Name x px, .Name y py, .Name z pz] kt pt] (.Tuple [a, b, c] k2 pt2) pos.line X.env = pure false := by rfl) :
    PS X (.Assign [.Tuple [.Name x px, .Name y py, .Name z pz] kt pt] (.Tuple [a, b, c] k2 pt2) pos) (gS X W (vPar3 i j l f)) :=
  PSw (ps_par3 hc hN hi hj hl hij hil hjl hx hy hz ha hw hs) fun D σ H ⟨w, s, hH, ok, sl, hp⟩ => by
    subst hH
    refine gA.seq ok sl (wS w D) hp fun d w1 v ok1 x1 sl1 r1 hp1 => ?_
    cases r1 with
    | nil => exact hp1.elim
    | cons r1 rr =>
      cases rr with
      | nil => exact hp1.elim
      | cons r2 rr =>
        cases rr with
        | nil => exact hp1.elim
        | cons r3 rr =>
          cases rr with
          | cons _ _ => exact hp1.elim
          | nil => exact ⟨_, _, _, rfl, hp1 w1 _ ok1 rfl x1 (((sl1.set i r1).set j r2).set l r3)⟩
end
end Vq

/-! Part 13: what the printed derivations use. -/
namespace Vq
open PySem PySem.Spec PyProof.Rows L2

theorem At.blk {X : Cx} {W : WX} {k : Nat} (a : At X W k) {s : Shared} {H : Hp} {scope : Scope} {cenv : Env} {fp : List Addr} : At (X.blk s H scope cenv fp) W0 k :=
  ⟨a.room, a.gd, fun u s' ⟨_, _, _, _, _, _, _, _, _, _, _, _, _, _, _, _, z⟩ => z.elim, PassesOwn.never⟩
theorem At.rp {X : Cx} {W : WX} {k : Nat} (a : At X W k) : X.A.units + 70 < cLine := by
  have := a.room.un
  omega
theorem At.hu {X : Cx} {W : WX} {k : Nat} (a : At X W k) : X.A.units + 64 < cLine := a.room.units

theorem bindP_of {K : PySem.W.Frag} {x qual : Str} {st : Stmt} {f : Addr} {fd : FuncData} {ps : List Str} (F : Fun K x qual st f fd)
    (h : ∀ (kV doc pm : Value) (an : Option Addr) (cdv ct : Value) (us : List Value), us.length = ps.length → bindArgs (PySem.W.fnOf x qual (defArgs st) (defBody st) (defScope st) .none kV doc pm an cdv ct) ⟨us, []⟩ = pure (ps.zip us)) : BindP K fd ps := by
  obtain ⟨oc, od, kV, doc, pm, an, cdv, ct, osl, rfl, _, _⟩ := F.ex
  exact fun us hl => h kV doc pm an cdv ct us hl

/-- the values in the parameters' order -/
def permL (ix : List Nat) {α : Type} (us ws : List α) : List α := ix.filterMap fun i => (us ++ ws)[i]?
theorem get_reps {K : PySem.W.Frag} {w : Wd} {ds : List D} {vs : List V} (r : Rps K w ds vs) : ∀ ix : List Nat, Rps K w (ix.filterMap fun i => ds[i]?) (ix.filterMap fun i => vs[i]?)
  | [] => .nil
  | i :: ix => by
    have ih := get_reps r ix
    cases e : ds[i]? with
    | none =>
      have e2 : vs[i]? = none := List.getElem?_eq_none (by rw [← RepL.length r]; exact List.getElem?_eq_none_iff.mp e)
      simp only [List.filterMap_cons, e, e2]
      exact ih
    | some d =>
      obtain ⟨v, e2, rv⟩ := RepL.get r e
      simp only [List.filterMap_cons, e, e2]
      exact .cons rv ih
theorem get_vals {vs : List V} {us : List Value} (r : Vals vs us) : ∀ ix : List Nat, Vals (ix.filterMap fun i => vs[i]?) (ix.filterMap fun i => us[i]?)
  | [] => .nil
  | i :: ix => by
    have ih := get_vals r ix
    cases e : vs[i]? with
    | none =>
      simp only [List.filterMap_cons, e, r.none_of e]
      exact ih
    | some v =>
      obtain ⟨u, e2, ru⟩ := r.get e
      simp only [List.filterMap_cons, e, e2]
      exact .cons ru ih
theorem bindK_of {K : PySem.W.Frag} {x qual : Str} {st : Stmt} {f : Addr} {fd : FuncData} {ps : List Str} (F : Fun K x qual st f fd) (ks : List Str) (n : Nat) (ix : List Nat)
    (h : ∀ (kV doc pm : Value) (an : Option Addr) (cdv ct : Value) (us ws : List Value), us.length = n → ws.length = ks.length →
      bindArgs (PySem.W.fnOf x qual (defArgs st) (defBody st) (defScope st) .none kV doc pm an cdv ct) ⟨us, ks.zip ws⟩ = pure (ps.zip (permL ix us ws))) : BindK fd ps ks n (permL ix) := by
  obtain ⟨oc, od, kV, doc, pm, an, cdv, ct, osl, rfl, _, _⟩ := F.ex
  exact ⟨fun us ws h1 h2 => h kV doc pm an cdv ct us ws h1 h2, fun K w ds es vs zs r1 r2 => get_reps (r1.append r2) ix, fun vs zs us ws r1 r2 => get_vals (r1.append r2) ix⟩
/-- the keywords' order as it stands in the printed text -/
def kwP (n m np : Nat) (ix : List Nat) : List D → List D → List D := fun a b => if a.length = n ∧ b.length = m then permL ix a b else List.replicate (np + 1) .non
end Vq

/-! Part 14: reckoning with denotations. -/
namespace Vq
open PySem

section
variable (s : VS) (h : VH)
@[simp] theorem vVar_ap (i : Nat) : vVar i s h = match s[i]? with
  | some (some d) => .ok (d, h)
  | _ => .bad := rfl
@[simp] theorem vC_ap (d : D) : vC d s h = .ok (d, h) := rfl
@[simp] theorem vNil_ap : vNil s h = .ok ([], h) := rfl
@[simp] theorem vCons_ap (f : VE) (g : VA) : vCons f g s h = (f s h).bind fun p => (g s p.2).bind fun q => .ok (p.1 :: q.1, q.2) := rfl
@[simp] theorem vTup_ap (g : VA) : vTup g s h = (g s h).bind fun p => if p.1.length ≤ sizeLine then .ok (.tup p.1, p.2) else .bad := rfl
@[simp] theorem vLst_ap (g : VA) : vLst g s h = (g s h).bind fun p => if p.1.length ≤ sizeLine then .ok (.ref p.2.length, p.2 ++ [.lst p.1]) else .bad := rfl
@[simp] theorem vOp_ap (f : D → D → VH → Option (D × VH)) (a b : VE) : vOp f a b s h = (a s h).bind fun p => (b s p.2).bind fun q => lift (f p.1 q.1 q.2) := rfl
@[simp] theorem vTr_ap (f : VE) : vTr f s h = (f s h).bind fun p => match p.1 with
  | .bl b => .ok (b, p.2)
  | _ => .bad := rfl
@[simp] theorem vNotT_ap (f : VT) : vNotT f s h = (f s h).bind fun p => .ok (!p.1, p.2) := rfl
@[simp] theorem vAndT_ap (f g : VT) : vAndT f g s h = (f s h).bind fun p => if p.1 = true then g s p.2 else .ok (false, p.2) := rfl
@[simp] theorem vOrT_ap (f g : VT) : vOrT f g s h = (f s h).bind fun p => if p.1 = true then .ok (true, p.2) else g s p.2 := rfl
@[simp] theorem vAnd_ap (f g : VE) : vAnd f g s h = (f s h).bind fun p => match p.1 with
  | .bl true => g s p.2
  | .bl false => .ok (.bl false, p.2)
  | _ => .bad := rfl
@[simp] theorem vOr_ap (f g : VE) : vOr f g s h = (f s h).bind fun p => match p.1 with
  | .bl true => .ok (.bl true, p.2)
  | .bl false => g s p.2
  | _ => .bad := rfl
@[simp] theorem vNot_ap (f : VE) : vNot f s h = (f s h).bind fun p => match p.1 with
  | .bl b => .ok (.bl (!b), p.2)
  | _ => .bad := rfl
@[simp] theorem vIf_ap (c : VT) (f g : VE) : vIf c f g s h = (c s h).bind fun p => if p.1 = true then f s p.2 else g s p.2 := rfl
@[simp] theorem vUn_ap (f : D → VH → Option (D × VH)) (a : VE) : vUn f a s h = (a s h).bind fun p => lift (f p.1 p.2) := rfl
@[simp] theorem vBl_ap (f : List D → VH → Option (D × VH)) (a : VA) : vBl f a s h = (a s h).bind fun p => lift (f p.1 p.2) := rfl
@[simp] theorem vSeq_ap (f g : VSt) : vSeq f g s h = (f s h).bind fun p => match p with
  | (.nx, s', h') => g s' h'
  | q => .ok q := rfl
@[simp] theorem vPass_ap : vPass s h = .ok (.nx, s, h) := rfl
@[simp] theorem vBreak_ap : vBreak s h = .ok (.bk, s, h) := rfl
@[simp] theorem vCont_ap : vCont s h = .ok (.ct, s, h) := rfl
@[simp] theorem vRet_ap (f : VE) : vRet f s h = (f s h).bind fun p => .ok (.rt p.1, s, p.2) := rfl
@[simp] theorem vRetN_ap : vRetN s h = .ok (.rt .non, s, h) := rfl
@[simp] theorem vDrop_ap (f : VE) : vDrop f s h = (f s h).bind fun p => .ok (.nx, s, p.2) := rfl
@[simp] theorem vIfS_ap (c : VT) (f g : VSt) : vIfS c f g s h = (c s h).bind fun p => if p.1 = true then f s p.2 else g s p.2 := rfl
@[simp] theorem vAsg_ap (f : VE) (g : VG) : vAsg f g s h = (f s h).bind fun p => (g p.1 s p.2).bind fun q => .ok (.nx, q.1, q.2) := rfl
@[simp] theorem gName_ap (i : Nat) (d : D) : gName i d s h = .ok (s.set i (some d), h) := rfl
@[simp] theorem gsNil_ap : gsNil [] s h = .ok (s, h) := rfl
@[simp] theorem gsCons_ap (g : VG) (k : VGs) (d : D) (r : List D) : gsCons g k (d :: r) s h = (g d s h).bind fun p => k r p.1 p.2 := rfl
@[simp] theorem gTupl_ap (n : Nat) (k : VGs) (l : List D) : gTupl n k (.tup l) s h = if l.length = n then k l s h else .bad := rfl
@[simp] theorem gSubs_ap (f : D → D → D → VH → Option VH) (o i : VE) (d : D) : gSubs f o i d s h = (o s h).bind fun p => (i s p.2).bind fun q => (lift (f p.1 q.1 d q.2)).bind fun h' => .ok (s, h') := rfl
@[simp] theorem vPar_ap (i j : Nat) (a : VA) : vPar i j a s h = (a s h).bind fun p => match p.1 with
  | [x, y] => .ok (.nx, (s.set i (some x)).set j (some y), p.2)
  | _ => .bad := rfl
@[simp] theorem vPar3_ap (i j l : Nat) (a : VA) : vPar3 i j l a s h = (a s h).bind fun p => match p.1 with
  | [x, y, z] => .ok (.nx, ((s.set i (some x)).set j (some y)).set l (some z), p.2)
  | _ => .bad := rfl
@[simp] theorem vIt_ap (f : VE) : vIt f s h = (f s h).bind fun p => match srcOf p.1 with
  | some src => .ok (src, p.2)
  | none => .bad := rfl
@[simp] theorem vMt_ap (T : String) (f : D → List D → VH → Option (D × VH)) (o : VE) (a : VA) : vMt T f o a s h = (o s h).bind fun p => if tyD T p.1 p.2 = true then (a s p.2).bind fun q => lift (f p.1 q.1 q.2) else .bad := rfl
@[simp] theorem vSl_ap (x : VE) (lo hi : VO) : vSl x lo hi s h = (x s h).bind fun p => (lo s p.2).bind fun q => (hi s q.2).bind fun r => lift (slD p.1 q.1 r.1 r.2) := rfl
@[simp] theorem oNone_ap : oNone s h = .ok (none, h) := rfl
@[simp] theorem oSome_ap (f : VE) : oSome f s h = (f s h).bind fun p => match intD p.1 with
  | some i => .ok (some i, p.2)
  | none => .bad := rfl
@[simp] theorem vChain_ap (f g : D → D → VH → Option (D × VH)) (a b c : VE) : vChain f g a b c s h = (a s h).bind fun p => (b s p.2).bind fun q => (lift (f p.1 q.1 q.2)).bind fun r => match boolD r.1 with
  | some true => (c s r.2).bind fun u => lift (g q.1 u.1 u.2)
  | some false => .ok (.bl false, r.2)
  | none => .bad := rfl
@[simp] theorem vCall_ap (n : Nat) (F : Fn) (a : VA) : vCall n F a s h = (a s h).bind fun p => if p.1.length = n then callR s (F p.1 p.2) else .bad := rfl
@[simp] theorem vCallK_ap (n : Nat) (F : Fn) (pl : List D → List D → List D) (a k : VA) : vCallK n F pl a k s h = (a s h).bind fun p => (k s p.2).bind fun q => if (pl p.1 q.1).length = n then callR s (F (pl p.1 q.1) q.2) else .bad := rfl
@[simp] theorem vYes_ap : vYes s h = .ok (true, h) := rfl
@[simp] theorem vLRev_ap (a : VA) : vLRev a s h = (a s h).bind fun p => match (one p.1) with
  | some (.ref n) => match lk p.2 n with
    | some l => .ok (.ref p.2.length, p.2 ++ [.lst l.reverse])
    | none => .bad
  | _ => .bad := rfl
end

/-! ### values -/
@[simp] theorem intD_i (i : Int) : intD (.int i) = some i := rfl
@[simp] theorem one_1 (d : D) : one [d] = some d := rfl
@[simp] theorem two_2 (d e : D) : two [d, e] = some (d, e) := rfl
@[simp] theorem int1_1 (i : Int) : int1 [.int i] = some i := rfl
@[simp] theorem int2_2 (i j : Int) : int2 [.int i, .int j] = some (i, j) := rfl
@[simp] theorem int2_1 (d : D) : int2 [d] = none := rfl
@[simp] theorem boolD_b (b : Bool) : boolD (.bl b) = some b := rfl
@[simp] theorem srcOf_t (l : List D) : srcOf (.tup l) = some fun _ => some l := rfl
@[simp] theorem srcOf_r (n : Nat) : srcOf (.ref n) = some fun h => lk h n := rfl
@[simp] theorem seqOf_t (h : VH) (l : List D) : seqOf h (.tup l) = some l := rfl
@[simp] theorem seqOf_r (h : VH) (n : Nat) : seqOf h (.ref n) = lk h n := rfl
@[simp] theorem aAdd_i (i j : Int) (h : VH) : aAdd (.int i) (.int j) h = some (.int (i + j), h) := rfl
@[simp] theorem aSub_i (i j : Int) (h : VH) : aSub (.int i) (.int j) h = some (.int (i - j), h) := rfl
@[simp] theorem dAdd_i (i j : Int) (h : VH) : dAdd (.int i) (.int j) h = some (.int (i + j), h) := rfl
@[simp] theorem dAdd_t (a b : List D) (h : VH) : dAdd (.tup a) (.tup b) h = if a.length + b.length ≤ sizeLine then some (.tup (a ++ b), h) else none := by
  unfold dAdd orD aAdd ii tAddT tAddL tAddS
  by_cases c : a.length + b.length ≤ sizeLine <;> simp [c]
@[simp] theorem aLt_i (i j : Int) (h : VH) : aLt (.int i) (.int j) h = some (.bl (decide (i < j)), h) := rfl
@[simp] theorem aLe_i (i j : Int) (h : VH) : aLe (.int i) (.int j) h = some (.bl (decide (i ≤ j)), h) := rfl
@[simp] theorem aGt_i (i j : Int) (h : VH) : aGt (.int i) (.int j) h = some (.bl (decide (j < i)), h) := rfl
@[simp] theorem aGe_i (i j : Int) (h : VH) : aGe (.int i) (.int j) h = some (.bl (decide (j ≤ i)), h) := rfl
@[simp] theorem uNeg_i (i : Int) (h : VH) : uNeg (.int i) h = some (.int (-i), h) := rfl
theorem aMod_i {i j : Int} {h : VH} (hj : j ≠ 0) : aMod (.int i) (.int j) h = some (.int (i.fmod j), h) := by
  simp [aMod, ii, hj]
theorem aFdv_i {i j : Int} {h : VH} (hj : divOk j = true) : aFdv (.int i) (.int j) h = some (.int (i.fdiv j), h) := by
  simp [aFdv, ii, hj]
theorem dMul_i {i j : Int} {h : VH} (hj : mulOk i j = true) : dMul (.int i) (.int j) h = some (.int (i * j), h) := by
  simp [dMul, orD, aMul, ii, hj]
theorem aPow_i {i j : Int} {h : VH} (hj : powOk i j = true) : aPow (.int i) (.int j) h = some (.int (i ^ j.toNat), h) := by
  simp [aPow, ii, hj]
@[simp] theorem dIx_i (x : D) (i : Int) (h : VH) : dIx x (.int i) h = (seqOf h x).bind fun l => (L2.atI l i).map fun d => (d, h) := rfl
@[simp] theorem bInt_i (i : Int) (h : VH) : bInt [.int i] h = some (.int i, h) := rfl
@[simp] theorem bInt_b (b : Bool) (h : VH) : bInt [.bl b] h = some (.int (if b = true then 1 else 0), h) := rfl
@[simp] theorem bAbs_i (i : Int) (h : VH) : bAbs [.int i] h = some (.int (if i < 0 then -i else i), h) := rfl
@[simp] theorem bTup_s (d : D) (h : VH) : bTup [d] h = ((seqOf h d).map .tup).map fun d => (d, h) := rfl
@[simp] theorem bList_s (d : D) (h : VH) : bList [d] h = (seqOf h d).map fun l => (.ref h.length, h ++ [.lst l]) := rfl
@[simp] theorem bLen_t (l : List D) (h : VH) : bLen [.tup l] h = some (.int l.length, h) := rfl
@[simp] theorem bLen_r (n : Nat) (h : VH) : bLen [.ref n] h = (lk h n).map fun l => (.int l.length, h) := by
  unfold bLen pureB
  simp [one]
  rfl
@[simp] theorem dIsN_n (x : D) (h : VH) : dIsN x .non h = some (.bl (isNon x), h) := rfl
@[simp] theorem dNotN_n (x : D) (h : VH) : dNotN x .non h = some (.bl (!isNon x), h) := rfl
@[simp] theorem isNon_n : isNon .non = true := rfl
@[simp] theorem isNon_t (l : List D) : isNon (.tup l) = false := rfl
@[simp] theorem isNon_i (i : Int) : isNon (.int i) = false := rfl
@[simp] theorem permL_ap (ix : List Nat) {α : Type} (us ws : List α) : permL ix us ws = ix.filterMap fun i => (us ++ ws)[i]? := rfl
@[simp] theorem kwP_ap (n m np : Nat) (ix : List Nat) (a b : List D) : kwP n m np ix a b = if a.length = n ∧ b.length = m then permL ix a b else List.replicate (np + 1) .non := rfl

section
variable {s : VS} {h h1 : VH} {a : VA}
theorem vRng1_of {j : Int} (e : a s h = .ok ([.int j], h1)) (hj : inRng j = true) : vRng1 a s h = .ok (fun _ => some (rangeD 0 1 j.toNat), h1) := by
  unfold vRng1
  rw [e]
  simp only [Res.ok_bind, int1_1, hj, if_true]
theorem vRng2_of {i j : Int} (e : a s h = .ok ([.int i, .int j], h1)) (hi : inRng i = true) (hj : inRng j = true) : vRng2 a s h = .ok (fun _ => some (rangeD i 1 (j - i).toNat), h1) := by
  unfold vRng2
  rw [e]
  simp only [Res.ok_bind, int2_2, hi, hj, Bool.and_self, if_true]
theorem vEnum_of {d : D} {src : VH → Option (List D)} (e : a s h = .ok ([d], h1)) (es : srcOf d = some src) : vEnum a s h = .ok (fun h => (src h).map enumD, h1) := by
  unfold vEnum
  rw [e]
  simp only [Res.ok_bind, one_1, Option.bind_some, es]
theorem vZip_of {d e : D} {src : VH → Option (List D)} (e1 : a s h = .ok ([d, e], h1)) (es : zipSrc (d, e) = some src) : vZip a s h = .ok (src, h1) := by
  unfold vZip
  rw [e1]
  simp only [Res.ok_bind, two_2, Option.bind_some, es]
end

/-! ### heaps that grow at their end -/
@[simp] theorem lk_at (h : VH) (l : List D) (r : VH) : lk (h ++ .lst l :: r) h.length = some l := by simp [lk]
@[simp] theorem lk_at1 (h : VH) (c : Cell) (l : List D) (r : VH) : lk (h ++ c :: .lst l :: r) (h.length + 1) = some l := by
  unfold lk
  rw [List.getElem?_append_right (by omega)]
  simp
@[simp] theorem lk_at2 (h : VH) (c c2 : Cell) (l : List D) (r : VH) : lk (h ++ c :: c2 :: .lst l :: r) (h.length + 2) = some l := by
  unfold lk
  rw [List.getElem?_append_right (by omega)]
  simp
theorem lk_app {h : VH} {n : Nat} {l : List D} (e : lk h n = some l) (g : VH) : lk (h ++ g) n = some l := by
  unfold lk at e ⊢
  have : n < h.length := by
    by_cases q : n < h.length
    · exact q
    · rw [List.getElem?_eq_none (by omega)] at e
      cases e
  rw [List.getElem?_append_left this]
  exact e
@[simp] theorem set_at (h : VH) (c d : Cell) (r : VH) : (h ++ c :: r).set h.length d = h ++ d :: r := by
  rw [List.set_append_right _ _ (Nat.le_refl _)]
  simp
@[simp] theorem set_at1 (h : VH) (b c d : Cell) (r : VH) : (h ++ b :: c :: r).set (h.length + 1) d = h ++ b :: d :: r := by
  rw [List.set_append_right _ _ (by omega)]
  simp

/-! ### loops -/
/-- one turn -/
def turn (g : VG) (body : VSt) (d : D) (s : VS) (h : VH) : Res (Out × VS × VH) := (g d s h).bind fun q => body q.1 q.2
/-- a turn that goes on to the next -/
def Goes (r : Res (Out × VS × VH)) (s : VS) (h : VH) : Prop := r = .ok (.nx, s, h) ∨ r = .ok (.ct, s, h)
/-- a for whose turns keep I, or hand something back -/
theorem loop_run {src : VH → Option (List D)} {g : VG} {body : VSt} {xs : List D} (I : Nat → VS → VH → Prop) (R : D → VS → VH → Prop)
    (hsrc : ∀ i s h, I i s h → src h = some xs)
    (step : ∀ i d s h, xs[i]? = some d → I i s h → (∃ s' h', Goes (turn g body d s h) s' h' ∧ I (i + 1) s' h') ∨ ∃ d' s' h', turn g body d s h = .ok (.rt d', s', h') ∧ R d' s' h') :
    ∀ (n i : Nat) (s : VS) (h : VH), i + n = xs.length → I i s h →
      (∃ s' h', loopF src g body n i s h = .ok (.nx, s', h') ∧ I xs.length s' h') ∨ ∃ d' s' h', loopF src g body n i s h = .ok (.rt d', s', h') ∧ R d' s' h'
  | 0, i, s, h, e, hi => by
    have e' : i = xs.length := by omega
    subst e'
    refine .inl ⟨s, h, ?_, hi⟩
    unfold loopF
    rw [hsrc _ _ _ hi]
    simp
  | n + 1, i, s, h, e, hi => by
    have hlt : i < xs.length := by omega
    have ei : xs[i]? = some xs[i] := List.getElem?_eq_getElem hlt
    unfold loopF
    simp only [hsrc _ _ _ hi, ei]
    rcases step i _ s h ei hi with ⟨s', h', go, hi'⟩ | ⟨d', s', h', er, hr⟩
    · have ih := loop_run I R hsrc step n (i + 1) s' h' (by omega) hi'
      unfold turn at go
      cases eg : g xs[i] s h with
      | bad => rw [eg] at go; rcases go with go | go <;> cases go
      | ex _ _ _ => rw [eg] at go; rcases go with go | go <;> cases go
      | ok q =>
        rw [eg] at go
        simp only [Res.ok_bind] at go ⊢
        rcases go with go | go <;> (rw [go]; exact ih)
    · refine .inr ⟨d', s', h', ?_, hr⟩
      unfold turn at er
      cases eg : g xs[i] s h with
      | bad => rw [eg] at er; cases er
      | ex _ _ _ => rw [eg] at er; cases er
      | ok q =>
        rw [eg] at er
        simp only [Res.ok_bind] at er ⊢
        rw [er]
        rfl
theorem for_run {it : VI} {g : VG} {body : VSt} {s : VS} {h h1 : VH} {src : VH → Option (List D)} {xs : List D} (I : Nat → VS → VH → Prop) (R : D → VS → VH → Prop)
    (hit : it s h = .ok (src, h1)) (hsrc : ∀ i s h, I i s h → src h = some xs) (h0 : I 0 s h1)
    (step : ∀ i d s h, xs[i]? = some d → I i s h → (∃ s' h', Goes (turn g body d s h) s' h' ∧ I (i + 1) s' h') ∨ ∃ d' s' h', turn g body d s h = .ok (.rt d', s', h') ∧ R d' s' h') :
    (∃ s' h', vFor it g body s h = .ok (.nx, s', h') ∧ I xs.length s' h') ∨ ∃ d' s' h', vFor it g body s h = .ok (.rt d', s', h') ∧ R d' s' h' := by
  have z := loop_run I R hsrc step xs.length 0 s h1 (by omega) h0
  unfold vFor
  simp only [hit, Res.ok_bind, hsrc _ _ _ h0]
  exact z
/-- .. that hands nothing back -/
theorem for_all {it : VI} {g : VG} {body : VSt} {s : VS} {h h1 : VH} {src : VH → Option (List D)} {xs : List D} (I : Nat → VS → VH → Prop)
    (hit : it s h = .ok (src, h1)) (hsrc : ∀ i s h, I i s h → src h = some xs) (h0 : I 0 s h1)
    (step : ∀ i d s h, xs[i]? = some d → I i s h → ∃ s' h', Goes (turn g body d s h) s' h' ∧ I (i + 1) s' h') :
    ∃ s' h', vFor it g body s h = .ok (.nx, s', h') ∧ I xs.length s' h' := by
  rcases for_run I (fun _ _ _ => False) hit hsrc h0 (fun i d s h e hi => .inl (step i d s h e hi)) with z | ⟨_, _, _, _, z⟩
  · exact z
  · exact z.elim

/-! ### comprehensions -/
/-- a fold that maps -/
def mapS {S α β : Type} (f : S → α → β × S) : List α → S → List β × S
  | [], s => ([], s)
  | a :: r, s => let p := f s a; let q := mapS f r p.2; (p.1 :: q.1, q.2)
theorem mapS_length {S α β : Type} (f : S → α → β × S) : ∀ (l : List α) (s : S), (mapS f l s).1.length = l.length
  | [], _ => rfl
  | a :: r, s => by simp [mapS, mapS_length f r]
/-- a comprehension without a test whose element turns a state; the heap by the state -/
theorem lc_st {S α : Type} {it : VI} {vs : List Nat} {g : VP} {e : VE} {s : VS} {h : VH} {src : VH → Option (List D)} {ys : List α} {c : α → D} (hp : S → VH) (f : S → α → D × S) (st : S)
    (hit : it s h = .ok (src, hp st)) (hlen : ∀ st', (hp st').length = (hp st).length) (hsrc : ∀ st' acc, src (hp st' ++ [.lst acc]) = some (ys.map c)) (hz : ys.length ≤ sizeLine)
    (step : ∀ y ∈ ys, ∀ st' acc, ∃ s', g (c y) (vwipe s vs) = some s' ∧ e s' (hp st' ++ [.lst acc]) = .ok ((f st' y).1, hp (f st' y).2 ++ [.lst acc])) :
    vLc it vs g vYes e s h = .ok (.ref (hp st).length, hp (mapS f ys st).2 ++ [.lst (mapS f ys st).1]) := by
  have gen : ∀ (k i : Nat) (st' : S) (acc : List D), i + k = ys.length → acc.length = i →
      lcF src vs g vYes e (hp st).length s k i (hp st' ++ [.lst acc]) = .ok (hp (mapS f (ys.drop i) st').2 ++ [.lst (acc ++ (mapS f (ys.drop i) st').1)]) := by
    intro k
    induction k with
    | zero =>
      intro i st' acc e1 e2
      unfold lcF
      rw [hsrc]
      simp only
      rw [if_pos (by rw [List.length_map]; omega), List.drop_eq_nil_of_le (by omega)]
      simp [mapS]
    | succ k ih =>
      intro i st' acc e1 e2
      have hlt : i < ys.length := by omega
      obtain ⟨s', eg, ee⟩ := step ys[i] (List.getElem_mem hlt) st' acc
      unfold lcF
      rw [hsrc]
      simp only [List.getElem?_map, List.getElem?_eq_getElem hlt, Option.map_some, eg, vYes_ap, noex_ok, Res.ok_bind, if_true, ee]
      have pa : putAt (hp st).length (f st' ys[i]).1 (hp (f st' ys[i]).2 ++ [.lst acc]) = .ok (hp (f st' ys[i]).2 ++ [.lst (acc ++ [(f st' ys[i]).1])]) := by
        unfold putAt
        rw [← hlen (f st' ys[i]).2]
        simp only [List.getElem?_concat_length]
        rw [if_pos (by omega)]
        rw [set_at]
      rw [pa]
      simp only [Res.ok_bind]
      rw [ih (i + 1) _ _ (by omega) (by simp [e2])]
      rw [List.drop_eq_getElem_cons hlt]
      simp [mapS]
  unfold vLc
  simp only [hit, Res.ok_bind, hsrc]
  rw [show (ys.map c).length = ys.length from List.length_map ..]
  rw [gen ys.length 0 st [] (by omega) rfl]
  simp
/-- .. whose element leaves the heap, with a test -/
theorem lc_pure {α : Type} {it : VI} {vs : List Nat} {g : VP} {t : VT} {e : VE} {s : VS} {h h1 : VH} {src : VH → Option (List D)} {ys : List α} {c : α → D} (p : α → Bool) (f : α → D)
    (hit : it s h = .ok (src, h1)) (hsrc : ∀ acc, src (h1 ++ [.lst acc]) = some (ys.map c)) (hz : ys.length ≤ sizeLine)
    (step : ∀ y ∈ ys, ∀ acc, ∃ s', g (c y) (vwipe s vs) = some s' ∧ t s' (h1 ++ [.lst acc]) = .ok (p y, h1 ++ [.lst acc]) ∧ (p y = true → e s' (h1 ++ [.lst acc]) = .ok (f y, h1 ++ [.lst acc]))) :
    vLc it vs g t e s h = .ok (.ref h1.length, h1 ++ [.lst ((ys.filter p).map f)]) := by
  have gen : ∀ (k i : Nat) (acc : List D), i + k = ys.length → acc.length ≤ i →
      lcF src vs g t e h1.length s k i (h1 ++ [.lst acc]) = .ok (h1 ++ [.lst (acc ++ ((ys.drop i).filter p).map f)]) := by
    intro k
    induction k with
    | zero =>
      intro i acc e1 e2
      unfold lcF
      rw [hsrc]
      simp only
      rw [if_pos (by rw [List.length_map]; omega), List.drop_eq_nil_of_le (by omega)]
      simp
    | succ k ih =>
      intro i acc e1 e2
      have hlt : i < ys.length := by omega
      obtain ⟨s', eg, et, ee⟩ := step ys[i] (List.getElem_mem hlt) acc
      unfold lcF
      rw [hsrc]
      simp only [List.getElem?_map, List.getElem?_eq_getElem hlt, Option.map_some, eg, et, noex_ok, Res.ok_bind]
      rw [List.drop_eq_getElem_cons hlt, List.filter_cons]
      cases hp : p ys[i] with
      | false =>
        simp only [Bool.false_eq_true, if_false]
        exact ih (i + 1) acc (by omega) (by omega)
      | true =>
        simp only [if_true, ee hp, noex_ok, Res.ok_bind]
        have pa : putAt h1.length (f ys[i]) (h1 ++ [.lst acc]) = .ok (h1 ++ [.lst (acc ++ [f ys[i]])]) := by
          unfold putAt
          simp only [List.getElem?_concat_length]
          rw [if_pos (by omega), set_at]
        rw [pa]
        simp only [Res.ok_bind]
        rw [ih (i + 1) _ (by omega) (by simp; omega)]
        simp
  unfold vLc
  simp only [hit, Res.ok_bind, hsrc]
  rw [show (ys.map c).length = ys.length from List.length_map ..]
  rw [gen ys.length 0 [] (by omega) (Nat.le_refl _)]
  simp

theorem le_line {n : Nat} (h : n ≤ 16777216) : n ≤ sizeLine := by
  rw [sizeLine_eq]
  exact h
theorem lt_line {n : Nat} (h : n < 16777216) : n < sizeLine := by
  rw [sizeLine_eq]
  exact h
@[simp] theorem rangeD_one (lo : Int) (n : Nat) : rangeD lo 1 n = (List.range n).map fun (k : Nat) => D.int (lo + (k : Int)) := by
  unfold rangeD
  simp only [Int.mul_one]
/-- over range(n), no test -/
theorem lc_rng1 {a : VA} {vs : List Nat} {g : VP} {e : VE} {s : VS} {h h1 : VH} {n : Int} (f : Nat → D) (ha : a s h = .ok ([.int n], h1)) (h0 : -1000000 ≤ n) (h2 : n ≤ 1000000)
    (step : ∀ k : Nat, (k : Int) < n → ∀ acc, ∃ s', g (.int (k : Int)) (vwipe s vs) = some s' ∧ e s' (h1 ++ [.lst acc]) = .ok (f k, h1 ++ [.lst acc])) :
    vLc (vRng1 a) vs g vYes e s h = .ok (.ref h1.length, h1 ++ [.lst ((List.range n.toNat).map f)]) := by
  have z := lc_pure (it := vRng1 a) (vs := vs) (g := g) (t := vYes) (e := e) (s := s) (h := h) (h1 := h1) (src := fun _ => some (rangeD 0 1 n.toNat)) (ys := List.range n.toNat) (c := fun (k : Nat) => D.int ((0 : Int) + (k : Int))) (fun _ => true) f
    (vRng1_of ha (by unfold inRng; exact decide_eq_true (by omega))) (fun acc => by rw [rangeD_one]) (by rw [List.length_range]; exact le_line (by omega)) (fun k hk acc => by
      have hk' : (k : Int) < n := by
        have := List.mem_range.mp hk
        omega
      obtain ⟨s', e1, e2⟩ := step k hk' acc
      exact ⟨s', by rw [Int.zero_add]; exact e1, rfl, fun _ => e2⟩)
  rw [z, List.filter_eq_self.mpr (fun _ _ => rfl)]
/-- over range(i, j) with a test -/
theorem lc_rng2 {a : VA} {vs : List Nat} {g : VP} {t : VT} {e : VE} {s : VS} {h h1 : VH} {i j : Int} (p : Nat → Bool) (f : Nat → D) (ha : a s h = .ok ([.int i, .int j], h1)) (h0 : -1000000 ≤ i) (h2 : i ≤ 1000000) (h3 : -1000000 ≤ j) (h4 : j ≤ 1000000)
    (step : ∀ k : Nat, i + (k : Int) < j → ∀ acc, ∃ s', g (.int (i + (k : Int))) (vwipe s vs) = some s' ∧ t s' (h1 ++ [.lst acc]) = .ok (p k, h1 ++ [.lst acc]) ∧ (p k = true → e s' (h1 ++ [.lst acc]) = .ok (f k, h1 ++ [.lst acc]))) :
    vLc (vRng2 a) vs g t e s h = .ok (.ref h1.length, h1 ++ [.lst (((List.range (j - i).toNat).filter p).map f)]) :=
  lc_pure (src := fun _ => some (rangeD i 1 (j - i).toNat)) p f
    (vRng2_of ha (by unfold inRng; exact decide_eq_true (by omega)) (by unfold inRng; exact decide_eq_true (by omega))) (fun acc => by rw [rangeD_one]) (by rw [List.length_range]; exact le_line (by omega)) (fun k hk acc => by
      have hk' : i + (k : Int) < j := by
        have := List.mem_range.mp hk
        omega
      exact step k hk' acc)
/-- over a tuple -/
theorem lc_tup {α : Type} {a : VE} {vs : List Nat} {g : VP} {t : VT} {e : VE} {s : VS} {h h1 : VH} {ys : List α} {c : α → D} (p : α → Bool) (f : α → D) (ha : a s h = .ok (.tup (ys.map c), h1)) (hz : ys.length ≤ 16777216)
    (step : ∀ y ∈ ys, ∀ acc, ∃ s', g (c y) (vwipe s vs) = some s' ∧ t s' (h1 ++ [.lst acc]) = .ok (p y, h1 ++ [.lst acc]) ∧ (p y = true → e s' (h1 ++ [.lst acc]) = .ok (f y, h1 ++ [.lst acc]))) :
    vLc (vIt a) vs g t e s h = .ok (.ref h1.length, h1 ++ [.lst ((ys.filter p).map f)]) :=
  lc_pure (src := fun _ => some (ys.map c)) p f (by simp [ha]) (fun _ => rfl) (le_line hz) step
/-- over a list that stands -/
theorem lc_lst {α : Type} {a : VE} {vs : List Nat} {g : VP} {t : VT} {e : VE} {s : VS} {h h1 : VH} {n : Nat} {ys : List α} {c : α → D} (p : α → Bool) (f : α → D) (ha : a s h = .ok (.ref n, h1)) (hn : lk h1 n = some (ys.map c)) (hz : ys.length ≤ 16777216)
    (step : ∀ y ∈ ys, ∀ acc, ∃ s', g (c y) (vwipe s vs) = some s' ∧ t s' (h1 ++ [.lst acc]) = .ok (p y, h1 ++ [.lst acc]) ∧ (p y = true → e s' (h1 ++ [.lst acc]) = .ok (f y, h1 ++ [.lst acc]))) :
    vLc (vIt a) vs g t e s h = .ok (.ref h1.length, h1 ++ [.lst ((ys.filter p).map f)]) :=
  lc_pure (src := fun h => lk h n) p f (by simp [ha]) (fun acc => lk_app hn _) (le_line hz) step
/-- over enumerate of a tuple -/
theorem lc_enum {α : Type} {a : VA} {vs : List Nat} {g : VP} {t : VT} {e : VE} {s : VS} {h h1 : VH} {ys : List α} {c : α → D} (p : α × Nat → Bool) (f : α × Nat → D) (ha : a s h = .ok ([.tup (ys.map c)], h1)) (hz : ys.length ≤ 16777216)
    (step : ∀ y ∈ ys.zipIdx, ∀ acc, ∃ s', g (.tup [.int (y.2 : Int), c y.1]) (vwipe s vs) = some s' ∧ t s' (h1 ++ [.lst acc]) = .ok (p y, h1 ++ [.lst acc]) ∧ (p y = true → e s' (h1 ++ [.lst acc]) = .ok (f y, h1 ++ [.lst acc]))) :
    vLc (vEnum a) vs g t e s h = .ok (.ref h1.length, h1 ++ [.lst ((ys.zipIdx.filter p).map f)]) :=
  lc_pure (src := fun _ => some (enumD (ys.map c))) (c := fun (y : α × Nat) => D.tup [.int (y.2 : Int), c y.1]) p f (vEnum_of ha rfl) (fun _ => by
    unfold enumD
    congr 1
    rw [List.zipIdx_map, List.map_map]
    rfl) (by rw [List.length_zipIdx]; exact le_line hz) step
/-- over zip of two tuples -/
theorem lc_zip {α β : Type} {a : VA} {vs : List Nat} {g : VP} {t : VT} {e : VE} {s : VS} {h h1 : VH} {ys : List α} {zs : List β} {c : α → D} {d : β → D} (p : α × β → Bool) (f : α × β → D) (ha : a s h = .ok ([.tup (ys.map c), .tup (zs.map d)], h1)) (hz : ys.length ≤ 16777216)
    (step : ∀ y ∈ ys.zip zs, ∀ acc, ∃ s', g (.tup [c y.1, d y.2]) (vwipe s vs) = some s' ∧ t s' (h1 ++ [.lst acc]) = .ok (p y, h1 ++ [.lst acc]) ∧ (p y = true → e s' (h1 ++ [.lst acc]) = .ok (f y, h1 ++ [.lst acc]))) :
    vLc (vZip a) vs g t e s h = .ok (.ref h1.length, h1 ++ [.lst (((ys.zip zs).filter p).map f)]) :=
  lc_pure (src := fun _ => some (zipD (ys.map c) (zs.map d))) (c := fun (y : α × β) => D.tup [c y.1, d y.2]) p f (vZip_of ha rfl) (fun _ => by
    unfold zipD
    congr 1
    rw [List.zip_map, List.map_map]
    rfl) (by rw [List.length_zip]; exact le_line (by omega)) step

/-! ### saying it plainly -/
/-- no address within -/
def D.flat (d : D) : Bool := D.lt 0 d
mutual
theorem lt_mono {m n : Nat} (h : m ≤ n) : ∀ d : D, D.lt m d = true → D.lt n d = true
  | .tup l, e => by simp only [D.lt] at e ⊢; exact ltAll_mono h l e
  | .ftup l, e => by simp only [D.lt] at e ⊢; exact ltAll_mono h l e
  | .dic _ l, e => by simp only [D.lt] at e ⊢; exact ltAll_mono h l e
  | .ref k, e => by simp only [D.lt, decide_eq_true_eq] at e ⊢; omega
  | .non, _ => by simp [D.lt]
  | .bl _, _ => by simp [D.lt]
  | .int _, _ => by simp [D.lt]
  | .str _, _ => by simp [D.lt]
theorem ltAll_mono {m n : Nat} (h : m ≤ n) : ∀ d : List D, D.ltAll m d = true → D.ltAll n d = true
  | [], _ => rfl
  | d :: r, e => by
    simp only [D.ltAll, Bool.and_eq_true] at e ⊢
    exact ⟨lt_mono h d e.1, ltAll_mono h r e.2⟩
end
def pureFn (f : List D → Option D) : Fn := fun ds h => match f ds with
  | some d => .ok (d, h)
  | none => .bad
theorem says_pure {f : List D → Option D} {F : Fn} (hp : ∀ ds d, f ds = some d → D.flat d = true) (hF : ∀ ds d h, closed h → f ds = some d → ∃ g, F ds h = .ok (d, h ++ g)) : Says (pureFn f) F := fun ds h hc hl => by
  unfold pureFn
  cases e : f ds with
  | none => trivial
  | some d => exact ⟨hF ds d h hc e, Nat.le_refl _, hc, lt_mono (Nat.zero_le _) d (hp ds d e)⟩
theorem mF_rt {N : Nat} {f : VSt} {ds : List D} {h h' : VH} {d : D} {s' : VS} (e : f (ds.map some ++ List.replicate (N - ds.length) none) h = .ok (.rt d, s', h')) : mF N f ds h = .ok (d, h') := by
  unfold mF
  rw [e]
theorem mF_nx {N : Nat} {f : VSt} {ds : List D} {h h' : VH} {s' : VS} (e : f (ds.map some ++ List.replicate (N - ds.length) none) h = .ok (.nx, s', h')) : mF N f ds h = .ok (.non, h') := by
  unfold mF
  rw [e]
end Vq

/-! Part 15: plain data: ints, truth values, tuples of such; == and repr of them. -/
namespace Vq
open PySem

@[simp] theorem pyD_i (f : Nat → Option PyData) (i : Int) : pyD f (.int i) = some (.int i) := by simp only [pyD]
@[simp] theorem pyD_b (f : Nat → Option PyData) (i : Bool) : pyD f (.bl i) = some (.bool i) := by simp only [pyD]
@[simp] theorem pyD_n (f : Nat → Option PyData) : pyD f .non = some .none := by simp only [pyD]
@[simp] theorem pyD_s (f : Nat → Option PyData) (i : Str) : pyD f (.str i) = some (.str i) := by simp only [pyD]
@[simp] theorem pyL_nil (f : Nat → Option PyData) : pyL f [] = some [] := by simp only [pyL]

/-- plain data of one kind -/
class Pl (α : Type) [DecidableEq α] where
  d : α → D
  p : α → PyData
  dep : Nat
  hp : ∀ f a, pyD f (d a) = some (p a)
  lay : ∀ a, (p a).canLay0 = true
  depth : ∀ a, (p a).depth ≤ dep
  fl : ∀ n a, D.lt n (d a) = true
  eq : ∀ a b, PyData.eqv (p a) (p b) = decide (a = b)
instance : Pl Int where
  d := .int
  p := .int
  dep := 0
  hp := fun f a => pyD_i f a
  lay := fun a => by simp only [PyData.canLay0]
  depth := fun a => by simp only [PyData.depth, Nat.le_refl]
  fl := fun n a => by simp only [D.lt]
  eq := fun a b => by simp only [PyData.eqv]; rfl
instance : Pl Bool where
  d := .bl
  p := .bool
  dep := 0
  hp := fun f a => pyD_b f a
  lay := fun a => by simp only [PyData.canLay0]
  depth := fun a => by simp only [PyData.depth, Nat.le_refl]
  fl := fun n a => by simp only [D.lt]
  eq := fun a b => by simp only [PyData.eqv]; cases a <;> cases b <;> rfl
section
variable {α : Type} [DecidableEq α] [Pl α]
theorem pl_pyL (f : Nat → Option PyData) : ∀ l : List α, pyL f (l.map Pl.d) = some (l.map Pl.p)
  | [] => by simp only [List.map_nil, pyL]
  | a :: r => by
    simp only [List.map_cons, pyL, Pl.hp, pl_pyL f r]
    rfl
theorem pl_lay : ∀ l : List α, PyData.canLayAll0 (l.map Pl.p) = true
  | [] => by simp only [List.map_nil, PyData.canLayAll0]
  | a :: r => by simp only [List.map_cons, PyData.canLayAll0, Pl.lay, pl_lay r, Bool.and_self]
theorem pl_depth : ∀ l : List α, PyData.depthAll (l.map Pl.p) ≤ Pl.dep α
  | [] => by simp only [List.map_nil, PyData.depthAll, Nat.zero_le]
  | a :: r => by
    simp only [List.map_cons, PyData.depthAll]
    exact Nat.max_le.mpr ⟨Pl.depth a, pl_depth r⟩
theorem pl_fl (n : Nat) : ∀ l : List α, D.ltAll n (l.map Pl.d) = true
  | [] => by simp only [List.map_nil, D.ltAll]
  | a :: r => by simp only [List.map_cons, D.ltAll, Pl.fl, pl_fl n r, Bool.and_self]
theorem pl_eq : ∀ l m : List α, PyData.eqvAll (l.map Pl.p) (m.map Pl.p) = decide (l = m)
  | [], [] => by simp [PyData.eqvAll]
  | [], _ :: _ => by simp [PyData.eqvAll]
  | _ :: _, [] => by simp [PyData.eqvAll]
  | a :: r, b :: s => by
    simp only [List.map_cons, PyData.eqvAll, Pl.eq, pl_eq r s, List.cons.injEq, Bool.decide_and]
end
instance {α : Type} [DecidableEq α] [Pl α] : Pl (List α) where
  d := fun l => .tup (l.map Pl.d)
  p := fun l => .tuple (l.map Pl.p)
  dep := Pl.dep α + 1
  hp := fun f l => by simp only [pyD, pl_pyL]; rfl
  lay := fun l => by simp only [PyData.canLay0, pl_lay]
  depth := fun l => by simp only [PyData.depth]; exact Nat.succ_le_succ (pl_depth l)
  fl := fun n l => by simp only [D.lt, pl_fl]
  eq := fun l m => by simp only [PyData.eqv, pl_eq]
instance {α β : Type} [DecidableEq α] [DecidableEq β] [Pl α] [Pl β] : Pl (α × β) where
  d := fun a => .tup [Pl.d a.1, Pl.d a.2]
  p := fun a => .tuple [Pl.p a.1, Pl.p a.2]
  dep := max (Pl.dep α) (Pl.dep β) + 1
  hp := fun f a => by simp only [pyD, pyL, Pl.hp]; rfl
  lay := fun a => by simp only [PyData.canLay0, PyData.canLayAll0, Pl.lay, Bool.and_self]
  depth := fun a => by
    simp only [PyData.depth, PyData.depthAll]
    have := Pl.depth a.1
    have := Pl.depth a.2
    omega
  fl := fun n a => by simp only [D.lt, D.ltAll, Pl.fl, Bool.and_self]
  eq := fun a b => by
    simp only [PyData.eqv, PyData.eqvAll, Pl.eq, Bool.and_true]
    obtain ⟨a1, a2⟩ := a
    obtain ⟨b1, b2⟩ := b
    simp only [Prod.mk.injEq, Bool.decide_and]
section
variable {α : Type} [DecidableEq α] [Pl α]
theorem pl_shaped (hd : Pl.dep α ≤ 64) (a : α) : SeqAt.shaped (Pl.p a) = true := by
  unfold SeqAt.shaped
  rw [Pl.lay, decide_eq_true (Nat.le_trans (Pl.depth a) hd)]
  rfl
theorem pl_py (h : VH) (a : α) : py h (Pl.d a) = some (Pl.p a) := Pl.hp _ a
theorem pl_eqW (neg : Bool) (h : VH) (hd : Pl.dep α ≤ 64) (a b : α) : eqWith neg (Pl.d a) (Pl.d b) h = some (.bl (if neg then !decide (a = b) else decide (a = b)), h) := by
  unfold eqWith
  simp only [pl_py, pl_shaped hd, Bool.and_self, if_true, Pl.eq]
end
@[simp] theorem eqWith_ii (neg : Bool) (h : VH) (a b : Int) : eqWith neg (.int a) (.int b) h = some (.bl (if neg then !decide (a = b) else decide (a = b)), h) := pl_eqW (α := Int) neg h (Nat.zero_le _) a b
@[simp] theorem dEq_i (h : VH) (a b : Int) : dEq (.int a) (.int b) h = some (.bl (decide (a = b)), h) := eqWith_ii false h a b
@[simp] theorem dNe_i (h : VH) (a b : Int) : dNe (.int a) (.int b) h = some (.bl (!decide (a = b)), h) := eqWith_ii true h a b
@[simp] theorem dEq_b (h : VH) (a b : Bool) : dEq (.bl a) (.bl b) h = some (.bl (decide (a = b)), h) := pl_eqW (α := Bool) false h (Nat.zero_le _) a b
@[simp] theorem dNe_b (h : VH) (a b : Bool) : dNe (.bl a) (.bl b) h = some (.bl (!decide (a = b)), h) := pl_eqW (α := Bool) true h (Nat.zero_le _) a b
@[simp] theorem dEq_s (h : VH) (a b : Str) : dEq (.str a) (.str b) h = some (.bl (decide (a = b)), h) := rfl
@[simp] theorem dNe_s (h : VH) (a b : Str) : dNe (.str a) (.str b) h = some (.bl (!decide (a = b)), h) := rfl
@[simp] theorem dEq_I (h : VH) (a b : List Int) : dEq (.tup (a.map .int)) (.tup (b.map .int)) h = some (.bl (decide (a = b)), h) := pl_eqW (α := List Int) false h (by decide) a b
@[simp] theorem dNe_I (h : VH) (a b : List Int) : dNe (.tup (a.map .int)) (.tup (b.map .int)) h = some (.bl (!decide (a = b)), h) := pl_eqW (α := List Int) true h (by decide) a b
@[simp] theorem dEq_In (h : VH) (a : List Int) : dEq (.tup (a.map .int)) (.tup []) h = some (.bl (decide (a = [])), h) := dEq_I h a []
@[simp] theorem dNe_In (h : VH) (a : List Int) : dNe (.tup (a.map .int)) (.tup []) h = some (.bl (!decide (a = [])), h) := dNe_I h a []
/-- lists of ints -/
theorem py_ref {h : VH} {n : Nat} {l : List D} {ps : List PyData} (e : lk h n = some l) (hp : ∀ f, pyL f l = some ps) : py h (.ref n) = some (.list ps) := by
  unfold py
  simp only [pyD, refPy, e, Option.bind_some, hp, Option.map_some]
theorem eqL (neg : Bool) {h : VH} {n m : Nat} {a b : List Int} (e1 : lk h n = some (a.map .int)) (e2 : lk h m = some (b.map .int)) : eqWith neg (.ref n) (.ref m) h = some (.bl (if neg then !decide (a = b) else decide (a = b)), h) := by
  have p1 := py_ref (ps := a.map .int) e1 fun f => pl_pyL (α := Int) f a
  have p2 := py_ref (ps := b.map .int) e2 fun f => pl_pyL (α := Int) f b
  have s1 : ∀ a : List Int, SeqAt.shaped (.list (a.map .int)) = true := fun a => by
    unfold SeqAt.shaped
    have h1 : PyData.canLay0 (.list (a.map .int)) = true := by
      simp only [PyData.canLay0]
      exact pl_lay (α := Int) a
    have h2 : PyData.depth (.list (a.map .int)) ≤ 64 := by
      simp only [PyData.depth]
      have : PyData.depthAll (a.map .int) ≤ 0 := pl_depth (α := Int) a
      omega
    rw [h1, decide_eq_true h2]
    rfl
  have e : PyData.eqv (.list (a.map .int)) (.list (b.map .int)) = decide (a = b) := by
    simp only [PyData.eqv]
    exact pl_eq (α := Int) a b
  unfold eqWith
  simp only [p1, p2, s1, Bool.and_self, if_true, e]
theorem dEq_L {h : VH} {n m : Nat} {a b : List Int} (e1 : lk h n = some (a.map .int)) (e2 : lk h m = some (b.map .int)) : dEq (.ref n) (.ref m) h = some (.bl (decide (a = b)), h) := eqL false e1 e2
theorem dNe_L {h : VH} {n m : Nat} {a b : List Int} (e1 : lk h n = some (a.map .int)) (e2 : lk h m = some (b.map .int)) : dNe (.ref n) (.ref m) h = some (.bl (!decide (a = b)), h) := eqL true e1 e2

/-! ### repr -/
mutual
/-- how large a thing is -/
def size : PyData → Nat
  | .none => 1
  | .bool _ => 1
  | .int _ => 1
  | .str x => x.length + 1
  | .list l => sizes l + 1
  | .tuple l => sizes l + 1
  | .dict _ => 0
def sizes : List PyData → Nat
  | [] => 0
  | x :: r => size x + sizes r
end
def noDict : PyData → Bool := fun d => d.canLay0
theorem strLen_app (a b : Str) : (a ++ b).length = a.length + b.length := strLen_append a b
mutual
theorem shown_len : ∀ d : PyData, d.canLay0 = true → d.showable = true → d.shown.length + 2 ≤ 2000 * size d
  | .none, _, _ => by simp only [PyData.shown, size]; decide
  | .bool b, _, _ => by
    simp only [PyData.shown, size]
    cases b <;> decide
  | .int i, _, h => by
    simp only [PyData.showable, decide_eq_true_eq] at h
    have h1 := int_text_length_le (a := i) (k := 1920) (by decide) h
    have h2 : (Str.ofString (toString i)).length = (toString i).length := ofString_length _
    simp only [PyData.shown, size]
    rw [h2]
    omega
  | .str x, h, _ => by
    simp only [PyData.shown, size]
    have h1 : (reprText x).length ≤ 10 * x.length + 2 := StrLaws.reprText_len x fun c hc => by
      simp only [PyData.canLay0, PyData.strOk] at h
      have h' := (Array.all_eq_true'.mp h) c (by simpa using hc)
      have h' : c < 0x110000 := by simpa using h'
      exact Nat.lt_trans h' (by decide)
    omega
  | .list l, h, g => by
    simp only [PyData.canLay0] at h
    simp only [PyData.showable] at g
    simp only [PyData.shown, size]
    have ih := shown_lens l h g
    cases l with
    | nil =>
      simp only [PyData.shownAll, sizes]
      decide
    | cons a r =>
      unfold listText
      rw [strLen_app]
      have z := textFrom_length_pos (PyData.shownAll (a :: r)) 1 "[" (by decide)
      have q : (textFrom 0 "[" (PyData.shownAll (a :: r))).length + 2 = (textFrom 1 "[" (PyData.shownAll (a :: r))).length := by
        simp only [PyData.shownAll, textFrom]
        rw [textFrom_length_pos _ 1 _ (by decide), textFrom_length_pos _ 2 _ (by decide)]
        simp only [strLen_app]
        have e1 : (Str.ofString (if 0 > 0 then ", " else "")).length = 0 := by decide
        have e2 : (Str.ofString (if 1 > 0 then ", " else "")).length = 2 := by decide
        omega
      have e3 : (Str.ofString "]").length = 1 := by decide
      have e4 : (Str.ofString "[").length = 1 := by decide
      omega
  | .tuple l, h, g => by
    simp only [PyData.canLay0] at h
    simp only [PyData.showable] at g
    simp only [PyData.shown, size]
    have ih := shown_lens l h g
    unfold tupleText
    simp only [strLen_app]
    have e4 : (Str.ofString "(").length = 1 := by decide
    have e5 : (Str.ofString (if ((PyData.shownAll l).length == 1) = true then ",)" else ")")).length ≤ 2 := by
      split <;> decide
    cases l with
    | nil =>
      simp only [PyData.shownAll, sizes] at *
      have : (Str.join ", " []).length = 0 := by decide
      omega
    | cons a r =>
      have z := join_length_add (PyData.shownAll (a :: r)) (by simp [PyData.shownAll])
      omega
  | .dict _, h, _ => by simp only [PyData.canLay0] at h; cases h
theorem shown_lens : ∀ l : List PyData, PyData.canLayAll0 l = true → PyData.showableAll l = true → piled (PyData.shownAll l) ≤ 2000 * sizes l
  | [], _, _ => by simp only [PyData.shownAll, sizes]; decide
  | a :: r, h, g => by
    simp only [PyData.canLayAll0, Bool.and_eq_true] at h
    simp only [PyData.showableAll, Bool.and_eq_true] at g
    simp only [PyData.shownAll, sizes, piled_cons]
    have h1 := shown_len a h.1 g.1
    have h2 := shown_lens r h.2 g.2
    omega
end
theorem reprOk_of {p : PyData} (h1 : SeqAt.shaped p = true) (h2 : p.showable = true) (h3 : size p ≤ 8000) : reprOk p = true := by
  unfold reprOk
  have z := shown_len p (depth_of_shaped h1).1 h2
  have q : p.shown.length ≤ sizeLine := le_line (by omega)
  rw [h1, h2, decide_eq_true q]
  rfl
theorem bRepr_of {h : VH} {d : D} {p : PyData} (e : py h d = some p) (hr : reprOk p = true) : bRepr [d] h = some (.str p.shown, h) := by
  unfold bRepr pureB
  simp only [one_1, Option.bind_some, e, hr, if_true, Option.map_some]
end Vq

/-! Part 16: a law's bag of cells: [cells still to come, what is left of the present one, a mixed number]. -/
namespace Vq
open PySem

/-- rc: the cells still to come, the next one first -/
structure Bag where
  rc : List Int
  m : Int
  x : Int
  hl : rc.length ≤ 63
def Bag.cells (B : Bag) : Cell := .lst (B.rc.reverse.map .int)
def Bag.top (B : Bag) (c : Nat) : Cell := .lst [.ref c, .int B.m, .int B.x]
structure IsBag (h : VH) (b c : Nat) (B : Bag) : Prop where
  hb : h[b]? = some (B.top c)
  hc : h[c]? = some B.cells
  ne : b ≠ c
def putBag (h : VH) (b c : Nat) (B : Bag) : VH := (h.set c B.cells).set b (B.top c)
section
variable {h g : VH} {b c : Nat} {B B' : Bag}
theorem lt_of_get {h : VH} {n : Nat} {d : Cell} (e : h[n]? = some d) : n < h.length := (List.getElem?_eq_some_iff.mp e).1
theorem IsBag.lb (q : IsBag h b c B) : b < h.length := lt_of_get q.hb
theorem IsBag.lc (q : IsBag h b c B) : c < h.length := lt_of_get q.hc
theorem IsBag.lkb (q : IsBag h b c B) : lk h b = some [.ref c, .int B.m, .int B.x] := by unfold lk; rw [q.hb]; rfl
theorem IsBag.lkc (q : IsBag h b c B) : lk h c = some (B.rc.reverse.map .int) := by unfold lk; rw [q.hc]; rfl
theorem put_length : (putBag h b c B).length = h.length := by simp [putBag]
theorem IsBag.put (q : IsBag h b c B) (B' : Bag) : IsBag (putBag h b c B') b c B' := by
  refine ⟨?_, ?_, q.ne⟩
  · unfold putBag
    rw [List.getElem?_set_self (by rw [List.length_set]; exact q.lb)]
  · unfold putBag
    rw [List.getElem?_set_ne q.ne, List.getElem?_set_self q.lc]
theorem put_put (hne : b ≠ c) : putBag (putBag h b c B) b c B' = putBag h b c B' := by
  unfold putBag
  rw [List.set_comm _ _ hne, List.set_set, List.set_set]
theorem IsBag.self (q : IsBag h b c B) : putBag h b c B = h := by
  unfold putBag
  have e1 : h.set c B.cells = h := by
    apply List.ext_getElem?
    intro i
    by_cases e : c = i
    · subst e
      rw [List.getElem?_set_self q.lc, q.hc]
    · rw [List.getElem?_set_ne e]
  rw [e1]
  apply List.ext_getElem?
  intro i
  by_cases e : b = i
  · subst e
    rw [List.getElem?_set_self q.lb, q.hb]
  · rw [List.getElem?_set_ne e]
theorem IsBag.app (q : IsBag h b c B) (g : VH) : IsBag (h ++ g) b c B :=
  ⟨by rw [List.getElem?_append_left q.lb]; exact q.hb, by rw [List.getElem?_append_left q.lc]; exact q.hc, q.ne⟩
theorem IsBag.put_app (q : IsBag h b c B) (g : VH) (B' : Bag) : putBag (h ++ g) b c B' = putBag h b c B' ++ g := by
  unfold putBag
  rw [List.set_append_left _ _ q.lc, List.set_append_left _ _ (by rw [List.length_set]; exact q.lb)]
theorem IsBag.lk_put (q : IsBag h b c B) {n : Nat} (h1 : n ≠ b) (h2 : n ≠ c) : lk (putBag h b c B') n = lk h n := by
  unfold lk putBag
  rw [List.getElem?_set_ne (Ne.symm h1), List.getElem?_set_ne (Ne.symm h2)]
theorem ints_lt (n : Nat) : ∀ l : List Int, D.ltAll n (l.map .int) = true
  | [] => by simp only [List.map_nil, D.ltAll]
  | a :: r => by simp only [List.map_cons, D.ltAll, D.lt, ints_lt n r, Bool.and_self]
theorem IsBag.closed (q : IsBag h b c B) (hc : Vq.closed h) (B' : Bag) : Vq.closed (putBag h b c B') := fun d hd => by
  rw [put_length]
  unfold putBag at hd
  rcases List.mem_or_eq_of_mem_set hd with hd | rfl
  · rcases List.mem_or_eq_of_mem_set hd with hd | rfl
    · exact hc d hd
    · simp only [Bag.cells, Cell.lt, ints_lt]
  · simp only [Bag.top, Cell.lt, D.ltAll, D.lt, Bool.and_true, decide_eq_true_eq]
    exact q.lc
end

def bagOf (h : VH) (b : Nat) : Option (Nat × Bag) := match h[b]? with
  | some (.lst [.ref c, .int m, .int x]) => match h[c]? with
    | some (.lst l) => if b = c then none else (intsOf l).bind fun cells => if hl : cells.length ≤ 63 then some (c, ⟨cells.reverse, m, x, by rw [List.length_reverse]; exact hl⟩) else none
    | _ => none
  | _ => none
theorem intsOf_inv : ∀ {l : List D} {ns : List Int}, intsOf l = some ns → l = ns.map .int
  | [], _, e => by cases e; rfl
  | d :: r, ns, e => by
    obtain ⟨i, e1, e⟩ := Option.bind_eq_some_iff.mp e
    obtain ⟨l, e2, rfl⟩ := Option.map_eq_some_iff.mp e
    cases d with
    | int j => cases e1; rw [intsOf_inv e2]; rfl
    | _ => cases e1
theorem bagOf_is {h : VH} {b c : Nat} {B : Bag} (e : bagOf h b = some (c, B)) : IsBag h b c B := by
  unfold bagOf at e
  split at e
  · rename_i c' m x e1
    split at e
    · rename_i l e2
      split at e
      · cases e
      · rename_i hne
        obtain ⟨ns, e3, e4⟩ := Option.bind_eq_some_iff.mp e
        by_cases hl : ns.length ≤ 63
        · rw [dif_pos hl] at e4
          cases e4
          refine ⟨e1, ?_, hne⟩
          rw [e2, intsOf_inv e3]
          simp [Bag.cells]
        · rw [dif_neg hl] at e4
          cases e4
    · cases e
  · cases e
theorem IsBag.of {h : VH} {b c : Nat} {B : Bag} (q : IsBag h b c B) : bagOf h b = some (c, B) := by
  unfold bagOf
  rw [q.hb]
  simp only [Bag.top, q.hc, Bag.cells, if_neg q.ne, intsOf_map, Option.bind_some, List.length_reverse, B.hl, dite_true, List.reverse_reverse]
theorem lstAt_of {h : VH} {n : Nat} {l : List D} (e : h[n]? = some (.lst l)) : lstAt h (.ref n) = some (n, l) := by
  show (match h[n]? with
    | some (.lst l) => some (n, l)
    | _ => none) = _
  rw [e]
theorem sLst_of {h : VH} {n : Nat} {l : List D} {k : Int} {j : Nat} (d : D) (e : h[n]? = some (.lst l)) (hj : L2.ixN l.length k = some j) : sLst (.ref n) (.int k) d h = some (h.set n (.lst (l.set j d))) := by
  show (match h[n]? with
    | some (.lst l) => (L2.ixN l.length k).map fun j => h.set n (.lst (l.set j d))
    | _ => none) = _
  rw [e]
  simp only [hj, Option.map_some]
section
variable {h : VH} {b c : Nat} {B : Bag}
theorem IsBag.setc (q : IsBag h b c B) (B' : Bag) (e : B'.rc = B.rc) : putBag h b c B' = h.set b (B'.top c) := by
  unfold putBag
  congr 1
  apply List.ext_getElem?
  intro i
  by_cases z : c = i
  · subst z
    rw [List.getElem?_set_self q.lc, q.hc]
    simp only [Bag.cells, e]
  · rw [List.getElem?_set_ne z]
theorem IsBag.set1 (q : IsBag h b c B) (v : Int) : sLst (.ref b) (.int 1) (.int v) h = some (putBag h b c ⟨B.rc, v, B.x, B.hl⟩) := by
  rw [sLst_of (j := 1) (.int v) q.hb rfl, q.setc ⟨B.rc, v, B.x, B.hl⟩ rfl]
  rfl
theorem IsBag.set2 (q : IsBag h b c B) (v : Int) : sLst (.ref b) (.int 2) (.int v) h = some (putBag h b c ⟨B.rc, B.m, v, B.hl⟩) := by
  rw [sLst_of (j := 2) (.int v) q.hb rfl, q.setc ⟨B.rc, B.m, v, B.hl⟩ rfl]
  rfl
theorem IsBag.pop {a : Int} {r : List Int} (q : IsBag h b c B) (e : B.rc = a :: r) (hl : r.length ≤ 63) : mPop (.ref c) [] h = some (.int a, putBag h b c ⟨r, B.m, B.x, hl⟩) := by
  unfold mPop
  rw [lstAt_of q.hc]
  have e1 : B.rc.reverse.map D.int = r.reverse.map D.int ++ [.int a] := by rw [e]; simp
  simp only [Option.bind_some, e1, List.isEmpty_nil, if_true, List.length_append, List.length_singleton, Nat.add_sub_cancel, List.getElem?_concat_length, Option.map_some, List.dropLast_concat]
  have e2 : putBag h b c ⟨r, B.m, B.x, hl⟩ = h.set c (.lst (r.reverse.map D.int)) := by
    unfold putBag
    apply List.ext_getElem?
    intro i
    by_cases z : b = i
    · subst z
      rw [List.getElem?_set_self (by rw [List.length_set]; exact q.lb), List.getElem?_set_ne (Ne.symm q.ne), q.hb]
      rfl
    · rw [List.getElem?_set_ne z]
      rfl
  rw [e2]
theorem IsBag.tyc (q : IsBag h b c B) : tyD "list" (.ref c) h = true := by simp [tyD, q.lkc]
end
/-- a def whose first argument is the bag, the others plain -/
def bagFn (f : List D → Bag → Option (D × Bag)) : Fn := fun ds h => match ds with
  | .ref b :: r => match bagOf h b with
    | some (c, B) => match f r B with
      | some (d, B') => .ok (d, putBag h b c B')
      | none => .bad
    | none => .bad
  | _ => .bad
theorem bagFn_of {f : List D → Bag → Option (D × Bag)} {h : VH} {b c : Nat} {B B' : Bag} {r : List D} {d : D} (q : IsBag h b c B) (e : f r B = some (d, B')) : bagFn f (.ref b :: r) h = .ok (d, putBag h b c B') := by
  unfold bagFn
  simp only [q.of, e]
theorem says_bag {f : List D → Bag → Option (D × Bag)} {F : Fn} (hp : ∀ r B d B', f r B = some (d, B') → D.flat d = true)
    (hF : ∀ h b c B r d B', closed h → IsBag h b c B → f r B = some (d, B') → ∃ g, F (.ref b :: r) h = .ok (d, putBag h b c B' ++ g)) : Says (bagFn f) F := fun ds h hc hl => by
  unfold bagFn
  split
  · rename_i d h' e
    split at e
    · rename_i b r
      cases e1 : bagOf h b with
      | none => rw [e1] at e; cases e
      | some p =>
        obtain ⟨c, B⟩ := p
        have q := bagOf_is e1
        rw [e1] at e
        simp only at e
        cases e2 : f r B with
        | none => rw [e2] at e; cases e
        | some p =>
          obtain ⟨d', B'⟩ := p
          rw [e2] at e
          cases e
          exact ⟨hF h b c B r d B' hc q e2, Nat.le_of_eq put_length.symm, q.closed hc B', lt_mono (Nat.zero_le _) d (hp r B d B' e2)⟩
    · cases e
  · rename_i x s h' e
    split at e
    · rename_i b r
      cases e1 : bagOf h b with
      | none => rw [e1] at e; cases e
      | some p =>
        rw [e1] at e
        simp only at e
        split at e <;> cases e
    · cases e
  · trivial
def offBag (b c : Nat) : D → Bool
  | .ref n => n != b && n != c
  | _ => true
/-- one whose second argument is a list or tuple of anything, of which it hands one item back: f tells which, by how many there are -/
def pickFn (f : Int → Bag → Int × Bag) : Fn := fun ds h => match ds with
  | [.ref b, s] => match bagOf h b with
    | some (c, B) => match seqOf h s with
      | some l => if offBag b c s = true ∧ l ≠ [] ∧ l.length ≤ 1000000 then (match l[(f l.length B).1.toNat]? with
        | some d => .ok (d, putBag h b c (f l.length B).2)
        | none => .bad) else .bad
      | none => .bad
    | none => .bad
  | _ => .bad
theorem pickFn_of {f : Int → Bag → Int × Bag} {h : VH} {b c : Nat} {B : Bag} {s : D} {l : List D} {d : D} (q : IsBag h b c B) (e : seqOf h s = some l) (o : offBag b c s = true) (hn : l ≠ []) (hz : l.length ≤ 1000000)
    (ed : l[(f l.length B).1.toNat]? = some d) : pickFn f [.ref b, s] h = .ok (d, putBag h b c (f l.length B).2) := by
  unfold pickFn
  simp only [q.of, e]
  rw [if_pos ⟨o, hn, hz⟩, ed]
theorem ltAll_get {n : Nat} : ∀ {l : List D} {i : Nat} {d : D}, D.ltAll n l = true → l[i]? = some d → D.lt n d = true
  | [], i, d, _, e => by simp at e
  | a :: r, 0, d, h, e => by
    simp only [D.ltAll, Bool.and_eq_true] at h
    simp at e
    rw [← e]
    exact h.1
  | a :: r, i + 1, d, h, e => by
    simp only [D.ltAll, Bool.and_eq_true] at h
    simp at e
    exact ltAll_get h.2 e
theorem seqOf_lt {h : VH} {s : D} {l : List D} (hc : closed h) (hs : D.lt h.length s = true) (e : seqOf h s = some l) : D.ltAll h.length l = true := by
  cases s with
  | tup m => cases e; simpa only [D.lt] using hs
  | ftup m => cases e; simpa only [D.lt] using hs
  | ref n =>
    have e : lk h n = some l := e
    unfold lk at e
    cases q : h[n]? with
    | none => rw [q] at e; cases e
    | some c =>
      have z := hc c (List.mem_of_getElem? q)
      rw [q] at e
      cases c <;> (cases e; exact z)
  | _ => cases e
theorem says_pick {f : Int → Bag → Int × Bag} {F : Fn}
    (hF : ∀ h b c B s l d, closed h → IsBag h b c B → seqOf h s = some l → offBag b c s = true → l ≠ [] → l.length ≤ 1000000 → l[(f l.length B).1.toNat]? = some d → ∃ g, F [.ref b, s] h = .ok (d, putBag h b c (f l.length B).2 ++ g)) : Says (pickFn f) F := fun ds h hc hl => by
  unfold pickFn
  split
  · rename_i d h' e
    split at e
    · rename_i b s
      cases e1 : bagOf h b with
      | none => rw [e1] at e; cases e
      | some p =>
        obtain ⟨c, B⟩ := p
        have q := bagOf_is e1
        rw [e1] at e
        simp only at e
        cases e2 : seqOf h s with
        | none => rw [e2] at e; cases e
        | some l =>
          rw [e2] at e
          simp only at e
          split at e
          · rename_i hcond
            obtain ⟨o, hn, hz⟩ := hcond
            cases e3 : l[(f l.length B).1.toNat]? with
            | none => rw [e3] at e; cases e
            | some d' =>
              rw [e3] at e
              cases e
              simp only [D.ltAll, Bool.and_true, Bool.and_eq_true] at hl
              exact ⟨hF h b c B s l d hc q e2 o hn hz e3, Nat.le_of_eq put_length.symm, q.closed hc _, by rw [put_length]; exact ltAll_get (seqOf_lt hc hl.2 e2) e3⟩
          · cases e
    · cases e
  · rename_i x s h' e
    split at e
    · split at e
      · split at e
        · split at e
          · split at e <;> cases e
          · cases e
        · cases e
      · cases e
    · cases e
  · trivial
end Vq

/-! Part 17: what a bag may have become; loops and comprehensions by what holds throughout. -/
namespace Vq
open PySem

@[simp] theorem le_lineS {n : Nat} (h : n ≤ 16777216) : n ≤ sizeLine := le_line h
@[simp] theorem lt_lineS {n : Nat} (h : n < 16777216) : n < sizeLine := lt_line h

/-- a bag lies here -/
def Hb (b c : Nat) (h : VH) : Prop := ∃ B, IsBag h b c B
/-- from h to h': all but the bag as it was -/
structure Keep (b c : Nat) (h h' : VH) : Prop where
  le : h.length ≤ h'.length
  bag : Hb b c h'
  get : ∀ i, i < h.length → i ≠ b → i ≠ c → h'[i]? = h[i]?
theorem Keep.refl {b c : Nat} {h : VH} (q : Hb b c h) : Keep b c h h := ⟨Nat.le_refl _, q, fun _ _ _ _ => rfl⟩
theorem Keep.trans {b c : Nat} {h h1 h2 : VH} (x : Keep b c h h1) (y : Keep b c h1 h2) : Keep b c h h2 :=
  ⟨Nat.le_trans x.le y.le, y.bag, fun i hi hb hc => (y.get i (Nat.lt_of_lt_of_le hi x.le) hb hc).trans (x.get i hi hb hc)⟩
theorem Hb.app {b c : Nat} {h : VH} (q : Hb b c h) (g : VH) : Hb b c (h ++ g) := q.elim fun B q => ⟨B, q.app g⟩
theorem Keep.app {b c : Nat} {h h1 : VH} (x : Keep b c h h1) (g : VH) : Keep b c h (h1 ++ g) :=
  x.trans ⟨by simp, x.bag.app g, fun i hi _ _ => List.getElem?_append_left hi⟩
theorem Hb.keep {b c : Nat} {h : VH} (q : Hb b c h) (g : VH) : Keep b c h (h ++ g) := (Keep.refl q).app g
theorem Hb.b_lt {b c : Nat} {h : VH} (q : Hb b c h) : b < h.length := q.elim fun _ q => q.lb
theorem Hb.c_lt {b c : Nat} {h : VH} (q : Hb b c h) : c < h.length := q.elim fun _ q => q.lc
theorem Keep.put {b c : Nat} {h : VH} {B : Bag} (q : IsBag h b c B) (B' : Bag) (g : VH) : Keep b c h (putBag h b c B' ++ g) :=
  Keep.app ⟨Nat.le_of_eq put_length.symm, ⟨B', q.put B'⟩, fun i _ hb hc => by unfold putBag; rw [List.getElem?_set_ne (Ne.symm hb), List.getElem?_set_ne (Ne.symm hc)]⟩ g
theorem lk_lt {h : VH} {n : Nat} {l : List D} (e : lk h n = some l) : n < h.length := by
  by_cases q : n < h.length
  · exact q
  · unfold lk at e
    rw [List.getElem?_eq_none (by omega)] at e
    cases e
theorem Keep.cells {b c : Nat} {h h' : VH} (x : Keep b c h h') {i : Nat} {l : List D} (hb : i ≠ b) (hc : i ≠ c) (e : lk h i = some l) : lk h' i = some l := by
  have z := x.get i (lk_lt e) hb hc
  unfold lk at e ⊢
  rw [z]
  exact e
/-- a cell that came later than the bag -/
theorem lk_new {b c n : Nat} {h0 h h' : VH} {l : List D} (q : Hb b c h0) (hn : h0.length ≤ n) (k : Keep b c h h') (e : lk h n = some l) : lk h' n = some l :=
  k.cells (by have := q.b_lt; omega) (by have := q.c_lt; omega) e
/-- a list of its own is set anew -/
theorem Keep.set {b c n : Nat} {h h' : VH} {l' : List D} (x : Keep b c h h') (hn : h.length ≤ n) (hb : n ≠ b) (hc : n ≠ c) : Keep b c h (h'.set n (.lst l')) := by
  refine ⟨by rw [List.length_set]; exact x.le, ?_, fun i l hb hc => ?_⟩
  · obtain ⟨B, q⟩ := x.bag
    refine ⟨B, ?_, ?_, q.ne⟩
    · rw [List.getElem?_set_ne hb]
      exact q.hb
    · rw [List.getElem?_set_ne hc]
      exact q.hc
  · rw [List.getElem?_set_ne (by omega)]
    exact x.get i l hb hc
theorem lk_set {h : VH} {n : Nat} {l l' : List D} (e : lk h n = some l) : lk (h.set n (.lst l')) n = some l' := by
  unfold lk
  rw [List.getElem?_set_self (lk_lt e)]
theorem lk_set_ne {h : VH} {m n : Nat} {l' : List D} (e : n ≠ m) : lk (h.set n (.lst l')) m = lk h m := by
  unfold lk
  rw [List.getElem?_set_ne e]

theorem atI_nn {α : Type} {l : List α} {i : Int} (h0 : 0 ≤ i) (h1 : i.toNat < l.length) : L2.atI l i = some l[i.toNat] := by
  unfold L2.atI L2.ixN
  rw [if_pos h0, if_pos (by omega)]
  simp [h1]
theorem atI_nat {α : Type} {l : List α} {i : Nat} (h1 : i < l.length) : L2.atI l (i : Int) = some l[i] := atI_nn (l := l) (i := (i : Int)) (by omega) (by omega)
theorem atI_end {α : Type} {l : List α} (h1 : l ≠ []) : L2.atI l (-1) = some (l.getLast h1) := by
  have : 0 < l.length := List.length_pos_iff.mpr h1
  unfold L2.atI L2.ixN
  rw [if_neg (by omega), if_pos (by omega)]
  have : (-1 + (l.length : Int)).toNat = l.length - 1 := by omega
  simp only [Option.bind_some, this]
  rw [List.getLast_eq_getElem, List.getElem?_eq_getElem]

theorem ixN_nn {n : Nat} {i : Int} (h0 : 0 ≤ i) (h1 : i.toNat < n) : L2.ixN n i = some i.toNat := by
  unfold L2.ixN
  rw [if_pos h0, if_pos (by omega)]
theorem ixN_end {n : Nat} (h1 : 0 < n) : L2.ixN n (-1) = some (n - 1) := by
  unfold L2.ixN
  rw [if_neg (by omega), if_pos (by omega)]
  congr 1
  omega
/-- stores in a list of ints -/
theorem sLst_I {h : VH} {n : Nat} {l : List Int} {i : Int} (e : h[n]? = some (.lst (l.map .int))) (h0 : 0 ≤ i) (h1 : i.toNat < l.length) (v : Int) : sLst (.ref n) (.int i) (.int v) h = some (h.set n (.lst ((l.set i.toNat v).map .int))) := by
  rw [sLst_of (.int v) e (ixN_nn h0 (by simpa using h1)), List.map_set]
theorem sLst_Ie {h : VH} {n : Nat} {l : List Int} (e : h[n]? = some (.lst (l.map .int))) (h1 : 0 < l.length) (v : Int) : sLst (.ref n) (.int (-1)) (.int v) h = some (h.set n (.lst ((l.set (l.length - 1) v).map .int))) := by
  rw [sLst_of (.int v) e (ixN_end (by simpa using h1)), List.length_map, List.map_set]
theorem lk_of {h : VH} {n : Nat} {l : List D} (e : h[n]? = some (.lst l)) : lk h n = some l := by
  unfold lk
  rw [e]
theorem set_get {h : VH} {n : Nat} {l l' : List D} (e : h[n]? = some (.lst l)) : (h.set n (.lst l'))[n]? = some (.lst l') := List.getElem?_set_self (lt_of_get e)
theorem ints_of {P : Int → Prop} : ∀ {l : List D}, (∀ d ∈ l, ∃ x, d = .int x ∧ P x) → ∃ r : List Int, l = r.map .int ∧ ∀ x ∈ r, P x
  | [], _ => ⟨[], rfl, by simp⟩
  | d :: l, h => by
    obtain ⟨x, rfl, hx⟩ := h d (List.mem_cons_self ..)
    obtain ⟨r, e, hr⟩ := ints_of (l := l) fun d hd => h d (List.mem_cons_of_mem _ hd)
    refine ⟨x :: r, by rw [e]; rfl, fun y hy => ?_⟩
    rcases List.mem_cons.mp hy with rfl | hy
    · exact hx
    · exact hr y hy
theorem Keep.cell {b c : Nat} {h0 h h' : VH} (q : Hb b c h0) {n : Nat} {cl : Cell} (hn : h0.length ≤ n) (k : Keep b c h h') (e : h[n]? = some cl) : h'[n]? = some cl := by
  have := q.b_lt
  have := q.c_lt
  rw [k.get n (lt_of_get e) (by omega) (by omega)]
  exact e
/-- only new cells -/
def Grow (h h' : VH) : Prop := ∃ g, h' = h ++ g
theorem Grow.refl (h : VH) : Grow h h := ⟨[], by simp⟩
theorem Grow.trans {h h1 h2 : VH} : Grow h h1 → Grow h1 h2 → Grow h h2
  | ⟨g, e⟩, ⟨g', e'⟩ => ⟨g ++ g', by rw [e', e, List.append_assoc]⟩
theorem Grow.app {h h1 : VH} (x : Grow h h1) (g : VH) : Grow h (h1 ++ g) := x.trans ⟨g, rfl⟩
theorem Grow.new (h g : VH) : Grow h (h ++ g) := ⟨g, rfl⟩
theorem Grow.lk {h h' : VH} (x : Grow h h') {n : Nat} {l : List D} (e : lk h n = some l) : Vq.lk h' n = some l := by
  obtain ⟨g, rfl⟩ := x
  exact lk_app e g
theorem Hb.grow {b c : Nat} {h h' : VH} (q : Hb b c h) (x : Grow h h') : Keep b c h h' := by
  obtain ⟨g, rfl⟩ := x
  exact q.keep g
/-! ### statements one after another -/
theorem turn_of {g : VG} {body : VSt} {d : D} {s s' : VS} {h h' : VH} (e : g d s h = .ok (s', h')) : turn g body d s h = body s' h' := by
  unfold turn
  rw [e]
  rfl
theorem turn_N (i : Nat) (body : VSt) (d : D) (s : VS) (h : VH) : turn (gP (pN i)) body d s h = body (s.set i (some d)) h := turn_of rfl
section
variable {f g : VSt} {s s' : VS} {h h' : VH} {d : D}
theorem seq_nx (e : f s h = .ok (.nx, s', h')) : vSeq f g s h = g s' h' := by simp [e]
theorem seq_rt (e : f s h = .ok (.rt d, s', h')) : vSeq f g s h = .ok (.rt d, s', h') := by simp [e]
end

/-! ### comprehensions, by what holds throughout -/
theorem lc_run {it : VI} {vs : List Nat} {g : VP} {t : VT} {e : VE} {s : VS} {h h1 : VH} {src : VH → Option (List D)} {ys : List D} (I : Nat → VH → List D → Prop)
    (hit : it s h = .ok (src, h1)) (hsrc : ∀ i h acc, I i h acc → src h = some ys) (hz : ys.length ≤ 16777216) (h0 : I 0 (h1 ++ [.lst []]) [])
    (hl : ∀ i h acc, I i h acc → h[h1.length]? = some (.lst acc))
    (step : ∀ i d h acc, ys[i]? = some d → I i h acc → acc.length ≤ i → ∃ s' b h2, g d (vwipe s vs) = some s' ∧ t s' h = .ok (b, h2) ∧
      if b = true then ∃ d' h3, e s' h2 = .ok (d', h3) ∧ h3[h1.length]? = some (.lst acc) ∧ I (i + 1) (h3.set h1.length (.lst (acc ++ [d']))) (acc ++ [d']) else I (i + 1) h2 acc) :
    ∃ h' acc, vLc it vs g t e s h = .ok (.ref h1.length, h') ∧ I ys.length h' acc := by
  have gen : ∀ (k i : Nat) (h : VH) (acc : List D), i + k = ys.length → acc.length ≤ i → I i h acc → ∃ h' acc', lcF src vs g t e h1.length s k i h = .ok h' ∧ I ys.length h' acc' := by
    intro k
    induction k with
    | zero =>
      intro i h acc e1 e2 hi
      have : i = ys.length := by omega
      subst this
      refine ⟨h, acc, ?_, hi⟩
      unfold lcF
      simp [hsrc _ _ _ hi]
    | succ k ih =>
      intro i h acc e1 e2 hi
      have hlt : i < ys.length := by omega
      have ei : ys[i]? = some ys[i] := List.getElem?_eq_getElem hlt
      obtain ⟨s', b, h2, eg, et, hb⟩ := step i _ h acc ei hi e2
      unfold lcF
      simp only [hsrc _ _ _ hi, ei, eg, et, noex_ok, Res.ok_bind]
      cases b with
      | false =>
        simp only [Bool.false_eq_true, if_false] at hb ⊢
        exact ih (i + 1) h2 acc (by omega) (by omega) hb
      | true =>
        simp only [if_true] at hb ⊢
        obtain ⟨d', h3, ee, e3, hi3⟩ := hb
        have pa : putAt h1.length d' h3 = .ok (h3.set h1.length (.lst (acc ++ [d']))) := by
          unfold putAt
          rw [e3]
          simp only
          rw [if_pos (lt_line (by omega))]
        simp only [ee, noex_ok, Res.ok_bind, pa]
        exact ih (i + 1) _ _ (by omega) (by simp; omega) hi3
  obtain ⟨h', acc, eq, hi⟩ := gen ys.length 0 _ [] (by omega) (Nat.zero_le _) h0
  refine ⟨h', acc, ?_, hi⟩
  unfold vLc
  simp only [hit, Res.ok_bind, hsrc _ _ _ h0, eq]
/-- each element a draw's worth: the bag may turn, the rest stands -/
theorem lc_bag {it : VI} {vs : List Nat} {g : VP} {e : VE} {s : VS} {h h1 : VH} {src : VH → Option (List D)} {ys : List D} {b c : Nat} (R : D → Prop) (q : Hb b c h1)
    (hit : it s h = .ok (src, h1)) (hsrc : ∀ h, src h = some ys) (hz : ys.length ≤ 16777216)
    (step : ∀ d h, d ∈ ys → Keep b c h1 h → ∃ s' d' h3, g d (vwipe s vs) = some s' ∧ e s' h = .ok (d', h3) ∧ R d' ∧ Keep b c h h3) :
    ∃ h' acc, vLc it vs g vYes e s h = .ok (.ref h1.length, h') ∧ h'[h1.length]? = some (.lst acc) ∧ acc.length = ys.length ∧ (∀ d ∈ acc, R d) ∧ Keep b c h1 h' := by
  have hb := q.b_lt
  have hc := q.c_lt
  obtain ⟨h', acc, e1, e2, e3, e4, e5⟩ := lc_run (t := vYes) (e := e) (vs := vs) (g := g) (fun i h acc => h[h1.length]? = some (.lst acc) ∧ acc.length = i ∧ (∀ d ∈ acc, R d) ∧ Keep b c h1 h) hit (fun _ h _ _ => hsrc h) hz
    ⟨by simp, rfl, by simp, q.keep _⟩ (fun _ _ _ i => i.1) (fun i d h acc ed hi _ => by
      obtain ⟨i1, i2, i3, i4⟩ := hi
      obtain ⟨s', d', h3, eg, ee, hr, hk⟩ := step d h (List.mem_of_getElem? ed) i4
      have lt : h1.length < h.length := lt_of_get i1
      have l3' : h3[h1.length]? = some (.lst acc) := (hk.get _ lt (by omega) (by omega)).trans i1
      refine ⟨s', true, h, eg, rfl, ?_⟩
      rw [if_pos rfl]
      refine ⟨d', h3, ee, l3', ?_, by simp [i2], ?_, ?_⟩
      · rw [List.getElem?_set_self (lt_of_get l3')]
      · intro d hd
        rcases List.mem_append.mp hd with hd | hd
        · exact i3 d hd
        · rw [List.mem_singleton.mp hd]
          exact hr
      · exact (i4.trans hk).set (Nat.le_refl _) (by omega) (by omega))
  exact ⟨h', acc, e1, e2, e3, e4, e5⟩
/-- a comprehension over range(n) that may draw -/
theorem lc_bagR {a : VA} {vs : List Nat} {g : VP} {e : VE} {s : VS} {h h1 : VH} {n : Int} {b c : Nat} (R : D → Prop) (q : Hb b c h1) (ha : a s h = .ok ([.int n], h1)) (hn : n ≤ 1000000) (h0 : -1000000 ≤ n)
    (step : ∀ (k : Nat) h, (k : Int) < n → Keep b c h1 h → ∃ s' d' h3, g (.int (k : Int)) (vwipe s vs) = some s' ∧ e s' h = .ok (d', h3) ∧ R d' ∧ Keep b c h h3) :
    ∃ h' acc, vLc (vRng1 a) vs g vYes e s h = .ok (.ref h1.length, h') ∧ h'[h1.length]? = some (.lst acc) ∧ acc.length = n.toNat ∧ (∀ d ∈ acc, R d) ∧ Keep b c h1 h' := by
  have z := lc_bag (it := vRng1 a) (vs := vs) (g := g) (e := e) (s := s) (h := h) (h1 := h1) (src := fun _ => some (rangeD 0 1 n.toNat)) (ys := rangeD 0 1 n.toNat) R q
    (vRng1_of ha (by unfold inRng; exact decide_eq_true (by omega))) (fun _ => rfl) (by simp; omega) (fun d h hd k => by
      rw [rangeD_one] at hd
      obtain ⟨i, hi, rfl⟩ := List.mem_map.mp hd
      have := List.mem_range.mp hi
      rw [Int.zero_add]
      exact step i h (by omega) k)
  rwa [show (rangeD 0 1 n.toNat).length = n.toNat by simp] at z
end Vq

/-! Part 18: list(range(..)), sorted, more methods, bits. -/
namespace Vq
open PySem PySem.Spec PyProof.Rows L2

/-! ### list(range(..)) -/
theorem reps_rng (K : PySem.W.Frag) (w : Wd) (a b : Int) : Rps K w (rangeD a 1 (b - a).toNat) (rgV a b) := by
  have gen : ∀ l : List Nat, Rps K w (l.map fun (k : Nat) => D.int (a + (k : Int) * 1)) (l.map fun i => V.int (a + (i : Nat))) := by
    intro l
    induction l with
    | nil => exact .nil
    | cons x r ih =>
      have e : a + (x : Int) * 1 = a + (x : Nat) := by omega
      refine .cons (show Rp K w (D.int (a + (x : Int) * 1)) (V.int (a + (x : Nat))) from ?_) ih
      rw [e]
      exact .int _
  exact gen _
def rgB (a b : Int) : Bool := inRng a && inRng b && decide (b - a ≤ 16777216)
theorem rgB_ok {a b : Int} (h : rgB a b = true) : RgOk a b := by
  unfold rgB inRng at h
  simp only [Bool.and_eq_true, decide_eq_true_eq] at h
  unfold RgOk
  omega
def vLR1 (f : VE) : VE := fun s h => (f s h).bind fun p => match intD p.1 with
  | some b => if rgB 0 b = true then .ok (.ref p.2.length, p.2 ++ [.lst (rangeD 0 1 (b - 0).toNat)]) else .bad
  | none => .bad
def vLR2 (f g : VE) : VE := fun s h => (f s h).bind fun p => (g s p.2).bind fun q => match intD p.1, intD q.1 with
  | some a, some b => if rgB a b = true then .ok (.ref q.2.length, q.2 ++ [.lst (rangeD a 1 (b - a).toNat)]) else .bad
  | _, _ => .bad
section
variable {X : Cx} {W : WX} {a b : Expr} {fa fb : VE} {p p2 pos pos2 : Pos}
theorem qLR1 (hc : X.calm = true) (hm : X.mg "list" = none) (hm2 : X.mg "range" = none) (ha : PE X a (gE X W fa)) (hg : Gl X "list" := by rfl) (hg2 : Gl X "range" := by rfl)
    (na : starEach [a] X.env = (false, eval a X.env) :: starEach [] X.env := by rfl)
    (nb : starEach [Expr.Call (.Name "range" p2) [a] [] pos2] X.env = (false, eval (Expr.Call (.Name "range" p2) [a] [] pos2) X.env) :: starEach [] X.env := by rfl) :
    PE X (.Call (.Name "list" p) [.Call (.Name "range" p2) [a] [] pos2] [] pos) (gE X W (vLR1 fa)) :=
  PEw (pe_listRg hc hg hm (prg_1 hg2 hm2 ha na) nb) fun σ H Q ⟨w, s, hH, ok, sl, hp⟩ => by
    subst hH
    refine gE.seq ok sl (wE w Q) hp fun d w1 v ok1 x1 sl1 r1 hp1 => ?_
    simp only at hp1
    cases e : intD d with
    | none => rw [e] at hp1; exact hp1.elim
    | some n =>
      obtain ⟨rfl, rfl⟩ := intD_rp r1 e
      rw [e] at hp1
      simp only at hp1
      by_cases h : rgB 0 n = true
      · rw [if_pos h] at hp1
        exact ⟨n, rfl, rgB_ok h, fun q hq => hp1 (w1.newL q _ _) _ (ok1.newL hq (reps_rng X.K w1 0 n)) rfl (x1.trans (Wd.ext_newL hq)) at_newL⟩
      · rw [if_neg h] at hp1
        exact hp1.elim
theorem qLR2 (hc : X.calm = true) (hm : X.mg "list" = none) (hm2 : X.mg "range" = none) (ha : PE X a (gE X W fa)) (hb : PE X b (gE X W fb)) (hg : Gl X "list" := by rfl) (hg2 : Gl X "range" := by rfl)
    (na : starEach [a, b] X.env = (false, eval a X.env) :: starEach [b] X.env := by rfl) (nb : starEach [b] X.env = (false, eval b X.env) :: starEach [] X.env := by rfl) (hp : (backTo pos2 (starEach [b] X.env)).any (·.1) = false := by rfl)
    (nc : starEach [Expr.Call (.Name "range" p2) [a, b] [] pos2] X.env = (false, eval (Expr.Call (.Name "range" p2) [a, b] [] pos2) X.env) :: starEach [] X.env := by rfl) :
    PE X (.Call (.Name "list" p) [.Call (.Name "range" p2) [a, b] [] pos2] [] pos) (gE X W (vLR2 fa fb)) :=
  PEw (pe_listRg hc hg hm (prg_2 hg2 hm2 ha hb na nb hp) nc) fun σ H Q ⟨w, s, hH, ok, sl, hp⟩ => by
    subst hH
    refine gE.seq ok sl (wE w Q) hp fun d w1 v ok1 x1 sl1 r1 hp1 => ?_
    simp only at hp1
    refine gE.seq ok1 sl1 ((wE w Q).mono x1) hp1 fun d2 w2 v2 ok2 x2 sl2 r2 hp2 => ?_
    simp only at hp2
    cases e : intD d with
    | none => rw [e] at hp2; exact hp2.elim
    | some i =>
      obtain ⟨rfl, rfl⟩ := intD_rp r1 e
      cases e2 : intD d2 with
      | none => rw [e, e2] at hp2; exact hp2.elim
      | some j =>
        obtain ⟨rfl, rfl⟩ := intD_rp r2 e2
        rw [e, e2] at hp2
        simp only at hp2
        by_cases h : rgB i j = true
        · rw [if_pos h] at hp2
          exact ⟨i, j, rfl, rfl, rgB_ok h, fun q hq => hp2 (w2.newL q _ _) _ (ok2.newL hq (reps_rng X.K w2 i j)) rfl ((x1.trans x2).trans (Wd.ext_newL hq)) at_newL⟩
        · rw [if_neg h] at hp2
          exact hp2.elim
end

/-! ### sorted: ints, pairs of ints -/
def leP (x y : Int × Int) : Bool := decide (x.1 < y.1) || (decide (x.1 = y.1) && decide (x.2 ≤ y.2))
def srtI (l : List Int) : List Int := l.mergeSort fun x y => decide (x ≤ y)
def srtP (l : List (Int × Int)) : List (Int × Int) := l.mergeSort leP
theorem srtI_perm (l : List Int) : (srtI l).Perm l := List.mergeSort_perm ..
theorem srtP_perm (l : List (Int × Int)) : (srtP l).Perm l := List.mergeSort_perm ..
theorem srtI_sorted (l : List Int) : (srtI l).Pairwise (· ≤ ·) := by
  have z := List.pairwise_mergeSort (le := fun (x y : Int) => decide (x ≤ y)) (fun a b c h1 h2 => by simp at *; omega) (fun a b => by simp; omega) l
  exact z.imp fun h => by simpa using h
theorem leP_trans (a b c : Int × Int) (h1 : leP a b = true) (h2 : leP b c = true) : leP a c = true := by
  unfold leP at *
  simp at *
  omega
theorem leP_total (a b : Int × Int) : (leP a b || leP b a) = true := by
  unfold leP
  simp
  omega
theorem srtP_sorted (l : List (Int × Int)) : (srtP l).Pairwise fun x y => leP x y = true := List.pairwise_mergeSort leP_trans leP_total l
theorem sortedI_uniq {l m : List Int} (p : l.Perm m) (h1 : l.Pairwise (· ≤ ·)) (h2 : m.Pairwise (· ≤ ·)) : l = m :=
  p.eq_of_pairwise (fun a b _ _ h g => Int.le_antisymm h g) h1 h2
theorem leP_anti {a b : Int × Int} (h : leP a b = true) (g : leP b a = true) : a = b := by
  unfold leP at *
  obtain ⟨a1, a2⟩ := a
  obtain ⟨b1, b2⟩ := b
  simp at *
  omega
theorem sortedP_uniq {l m : List (Int × Int)} (p : l.Perm m) (h1 : l.Pairwise fun x y => leP x y = true) (h2 : m.Pairwise fun x y => leP x y = true) : l = m :=
  p.eq_of_pairwise (fun a b _ _ h g => leP_anti h g) h1 h2
end Vq
namespace Vq
open PySem PySem.Spec PyProof.Rows L2
def rSortedPT (K : PySem.W.Frag) : List V → Hp → VK → Prop := fun vs H Q => ∃ (a : Addr) (xs : List V) (k : V → Int × Int), vs = [V.ref a] ∧ SqL K H a xs ∧ (∀ x ∈ xs, ∃ t, x = V.ref t ∧ SqT K H t [.int (k x).1, .int (k x).2]) ∧
  ∀ ys p, SrtO.Srtd (ltP k) ys → SrtO.Stb (ltP k) ys xs → H p = none → Q (.ref p) (upd H p (.lst ys))
section
variable {X : Cx}
theorem cr_sortedPT : CallR X (.builtin "sorted") (rSortedPT X.K) := by
  intro pins s σ H vs us Q I r h
  obtain ⟨a, xs, k, rfl, hs, hx, q⟩ := h
  obtain ⟨its, rv, hl, hz⟩ := I.list hs
  obtain ⟨u, rfl, ru⟩ := vals1 r
  obtain rfl : u = Value.ref a := ru
  obtain ⟨e1, e2⟩ := refs_back rv fun x m => by
    obtain ⟨t, e, _⟩ := hx x m
    exact ⟨t, e⟩
  refine SrtO.sorted_pairsO (k := fun u => k (backV u)) hl.isList (by rw [← rv.length]; exact hz) (fun v hv => ?_) fun h' d out h1 h2 kp hd hn => ?_
  · obtain ⟨t, rfl⟩ := e2 v hv
    have hm : V.ref t ∈ xs := by rw [e1]; exact List.mem_map.mpr ⟨_, hv, rfl⟩
    obtain ⟨t', e, ht⟩ := hx _ hm
    cases e
    obtain ⟨its2, r2, ⟨o, ho, hc, n, hd⟩, _⟩ := I.tuple ht
    obtain ⟨u1, u2, e3, ri, rj⟩ := vals2 r2
    obtain ⟨t1, rfl⟩ := ri
    obtain ⟨t2, rfl⟩ := rj
    subst e3
    exact ⟨t, o, t1, t2, n, rfl, ho, hc, hd⟩
  · have h3 : ∀ u ∈ out, ∃ a, u = Value.ref a := fun u hu => e2 u (h2.perm.mem_iff.mp hu)
    obtain ⟨n, hn⟩ := hn
    have hb : SrtO.Stb (ltP k) (out.map backV) xs := by
      rw [e1]
      exact SrtO.Stb.map (ltP_swo k) backV h2
    refine ⟨.ref d, upd H d (.lst (out.map backV)), I.laid (t' := s.toks) kp hd ⟨?_, out, n, vals_back h3, hn⟩, rfl, q _ d (SrtO.srtd_map h1) hb (I.hok.fresh hd)⟩
    rw [hb.len]
    exact hz
/-- pairs of ints, at their addresses -/
inductive PairAt (K : PySem.W.Frag) (H : Hp) : List V → List (Int × Int) → Prop where
  | nil : PairAt K H [] []
  | cons {t : Addr} {p : Int × Int} {xs : List V} {ps : List (Int × Int)} (h : SqT K H t [.int p.1, .int p.2]) (r : PairAt K H xs ps) : PairAt K H (V.ref t :: xs) (p :: ps)
open Classical in
noncomputable def keyOf (K : PySem.W.Frag) (H : Hp) (x : V) : Int × Int := if h : ∃ p : Int × Int, ∃ t, x = V.ref t ∧ SqT K H t [.int p.1, .int p.2] then choose h else (0, 0)
theorem keyOf_is {pins : List (Addr × Obj)} {s : Shared} {σ : L2.St} {H : Hp} (I : Inv X pins σ H s) {t : Addr} {p : Int × Int} (h : SqT X.K H t [.int p.1, .int p.2]) : keyOf X.K H (V.ref t) = p := by
  have hex : ∃ p : Int × Int, ∃ t', V.ref t = V.ref t' ∧ SqT X.K H t' [.int p.1, .int p.2] := ⟨p, t, rfl, h⟩
  unfold keyOf
  rw [dif_pos hex]
  obtain ⟨t', e, q⟩ := Classical.choose_spec hex
  cases e
  have := I.tuple_inj q h
  simp only [List.cons.injEq, V.int.injEq, and_true] at this
  exact Prod.ext this.1 this.2
theorem keys_of {pins : List (Addr × Obj)} {s : Shared} {σ : L2.St} {H : Hp} (I : Inv X pins σ H s) : ∀ {xs : List V} {ps : List (Int × Int)}, PairAt X.K H xs ps →
    xs.map (keyOf X.K H) = ps ∧ ∀ x ∈ xs, ∃ t, x = V.ref t ∧ SqT X.K H t [.int (keyOf X.K H x).1, .int (keyOf X.K H x).2]
  | _, _, .nil => ⟨rfl, by simp⟩
  | _, _, .cons (t := t) (p := p) h r => by
    obtain ⟨e, hx⟩ := keys_of I r
    have k := keyOf_is I h
    refine ⟨by rw [List.map_cons, k, e], fun x hm => ?_⟩
    rcases List.mem_cons.mp hm with rfl | hm
    · exact ⟨t, rfl, by rw [k]; exact h⟩
    · exact hx x hm
def rSorted2 (K : PySem.W.Frag) : List V → Hp → VK → Prop := fun vs H Q => L2.rSortedI K vs H Q ∨ ∃ (a : Addr) (xs : List V) (ps : List (Int × Int)), vs = [V.ref a] ∧ SqL K H a xs ∧ PairAt K H xs ps ∧
  ∀ (k : V → Int × Int) ys p, xs.map k = ps → SrtO.Srtd (ltP k) ys → ys.Perm xs → H p = none → Q (.ref p) (upd H p (.lst ys))
theorem cr_sorted2 : CallR X (.builtin "sorted") (rSorted2 X.K) := by
  rintro pins s σ H vs us Q I r (h | ⟨a, xs, ps, rfl, h1, h2, q⟩)
  · exact cr_sortedI pins s σ H vs us Q I r h
  · obtain ⟨e, hx⟩ := keys_of I h2
    exact cr_sortedPT pins s σ H _ us Q I r ⟨a, xs, _, rfl, h1, hx, fun ys p so st hp => q _ ys p e so st.perm hp⟩
end
def pD (p : Int × Int) : D := .tup [.int p.1, .int p.2]
def pairD : D → Option (Int × Int)
  | .tup [.int i, .int j] => some (i, j)
  | _ => none
theorem pairD_inv {d : D} {p : Int × Int} (e : pairD d = some p) : d = pD p := by
  unfold pairD at e
  split at e
  · cases e; rfl
  · cases e
def pairsOf : List D → Option (List (Int × Int))
  | [] => some []
  | d :: r => (pairD d).bind fun i => (pairsOf r).map fun l => i :: l
theorem pairsOf_inv : ∀ {l : List D} {ps : List (Int × Int)}, pairsOf l = some ps → l = ps.map pD
  | [], ps, e => by cases e; rfl
  | d :: r, ps, e => by
    obtain ⟨i, e1, e⟩ := Option.bind_eq_some_iff.mp e
    obtain ⟨l, e2, rfl⟩ := Option.map_eq_some_iff.mp e
    rw [pairD_inv e1, pairsOf_inv e2]
    rfl
@[simp] theorem pairsOf_map (ps : List (Int × Int)) : pairsOf (ps.map pD) = some ps := by
  induction ps with
  | nil => rfl
  | cons p r ih => simp [pairsOf, ih, pairD, pD]
/-- which pair lies at an address -/

def bSorted : List D → VH → Option (D × VH) := fun xs h => (one xs).bind fun d => match d with
  | .ref n => (lk h n).bind fun l => match intsOf l with
    | some ns => some (.ref h.length, h ++ [.lst ((srtI ns).map .int)])
    | none => (pairsOf l).map fun ps => (.ref h.length, h ++ [.lst ((srtP ps).map pD)])
  | _ => none
theorem pairAt_of {K : PySem.W.Frag} {w : Wd} : ∀ {ps : List (Int × Int)} {vs : List V}, Rps K w (ps.map pD) vs → PairAt K w.H vs ps
  | [], _, .nil => .nil
  | p :: ps, _, .cons h r => by
    cases h with
    | tup hs rs =>
      cases rs with
      | cons a rs =>
        cases a
        cases rs with
        | cons b rs =>
          cases b
          cases rs
          exact .cons hs (pairAt_of r)
/-- a rearrangement keeps what each stands for -/
theorem reps_perm {K : PySem.W.Frag} {w : Wd} {ps : List (Int × Int)} {us ys : List V} {k : V → Int × Int} (r : Rps K w (ps.map pD) us) (e : us.map k = ps) (st : ys.Perm us) : Rps K w ((ys.map k).map pD) ys := by
  have one : ∀ {us : List V} {ps : List (Int × Int)}, Rps K w (ps.map pD) us → us.map k = ps → ∀ z ∈ us, Rp K w (pD (k z)) z := by
    intro us
    induction us with
    | nil => intro ps _ _ z hz; cases hz
    | cons u us ih =>
      intro ps r e z hz
      subst e
      cases r with
      | cons h r =>
        rcases List.mem_cons.mp hz with rfl | hz
        · exact h
        · exact ih r rfl z hz
  have gen : ∀ zs : List V, (∀ z ∈ zs, z ∈ us) → Rps K w ((zs.map k).map pD) zs := by
    intro zs
    induction zs with
    | nil => intro _; exact .nil
    | cons z r' ih =>
      intro hz
      exact .cons (one r e z (hz z (List.mem_cons_self ..))) (ih fun x hx => hz x (List.mem_cons_of_mem _ hx))
  exact gen ys fun z hz => st.mem_iff.mp hz
theorem sorted_cd (K : PySem.W.Frag) : CallD K (rSorted2 K) bSorted := fun w xs vs Q ok r h => by
  unfold bSorted at h
  cases e1 : one xs with
  | none => rw [e1] at h; exact h.elim
  | some d =>
    obtain ⟨v, _, rfl, rd⟩ := one_rps r e1
    rw [e1] at h
    simp only [Option.bind_some] at h
    cases rd with
    | @ref n hn =>
      simp only at h
      cases e2 : lk w.h n with
      | none => rw [e2] at h; exact h.elim
      | some l =>
        rw [e2] at h
        simp only [Option.bind_some] at h
        obtain ⟨us, h1, h2⟩ := lk_sq ok e2
        cases e3 : intsOf l with
        | some ns =>
          rw [e3] at h
          have hu : us = ns.map V.int := intsOf_rps h2 e3
          rw [hu] at h1
          refine .inl ⟨_, ns, rfl, h1, fun ns' p pm so hp => ?_⟩
          have e : ns' = srtI ns := sortedI_uniq (pm.trans (srtI_perm ns).symm) so (srtI_sorted ns)
          rw [e]
          exact h (w.newL p _ _) _ (ok.newL hp (reps_ints K w.ι w.h.length w.H (srtI ns))) rfl (Wd.ext_newL hp) at_newL
        | none =>
          rw [e3] at h
          simp only at h
          cases e4 : pairsOf l with
          | none => rw [e4] at h; exact h.elim
          | some ps =>
            rw [e4] at h
            simp only [Option.map_some] at h
            rw [pairsOf_inv e4] at h2
            refine .inr ⟨_, us, ps, rfl, h1, pairAt_of h2, fun k ys p k1 so st hp => ?_⟩
            have e : ys.map k = srtP ps := by
              refine sortedP_uniq ?_ ?_ (srtP_sorted ps)
              · rw [← k1]
                exact (st.map k).trans (srtP_perm _).symm
              · rw [List.pairwise_map]
                exact so.imp fun {x y} hh => by
                  have := SrtO.lexB_no.mp hh
                  unfold leP
                  simp
                  omega
            have ry := reps_perm h2 k1 st
            rw [e] at ry
            exact h (w.newL p _ _) _ (ok.newL hp ry) rfl (Wd.ext_newL hp) at_newL
    | _ => exact h.elim
end Vq

namespace Vq
open PySem PySem.Spec PyProof.Rows L2
/-- xs.extend(t), t a tuple of whatever making -/
theorem ext_tup {l b : Addr} {xs ys : Array Value} {n k : Nat} {dd : Option Addr} {sl : Array (Option Value)} (h0 : ¬(!xs.isEmpty && Builtin.List.listTooLong (xs.size + ys.size)) = true) (h1 : xs.size ≤ sizeLine) (h2 : xs.size + ys.size ≤ sizeLine + 1) :
    Meets (Builtin.«list.extend» ⟨[.ref l, .ref b], []⟩) fun _ R s => s.heap.get? l = some ⟨.type "list", none, .seq xs n, #[]⟩ ∧ s.heap.get? b = some ⟨.type "tuple", dd, .seq ys k, sl⟩ ∧
      R (.ok (.ret Value.none)) { s with heap := s.heap.update l (Obj.mapSeq fun z => z ++ ys), toks := s.toks } :=
  .of_wp fun prog w A R s h => by
    obtain ⟨hp, g, dr, tk, os⟩ := s
    obtain ⟨hl, hb, h⟩ := h
    have e1 := AutoSeq1.idx_int
    have e2 := AutoSeq1.sub_tuple_tuple
    have e3 := AutoSeq1.sub_list_list
    have e4 := AutoSeq1.sub_tuple_list
    have e5 := AutoSeq1.sub_list_tuple
    have hz : (xs ++ ys).size ≤ sizeLine + 1 := by rw [Array.size_append]; exact h2
    wp_walk using (wpAny_updateSeq hl rfl (hz := h1) (_hz' := hz)), AutoSeq1.wpAny_loadPart' hl, AutoSeq1.wpAny_loadPart' hb
    exact ⟨_, rfl, h⟩
variable {X : Cx}
def rExtT (K : PySem.W.Frag) : V → List V → Hp → VK → Prop := fun x vs H Q => ∃ l b xs zs, x = V.ref l ∧ vs = [V.ref b] ∧ H l = some (.lst xs) ∧ SqT K H b zs ∧ xs.length + zs.length ≤ sizeLine ∧ Q .non (upd H l (.lst (xs ++ zs)))
theorem mt_extT : MtR X "list.extend" (rExtT X.K) := by
  intro pins s σ H x vs v us Q I rx rv h
  obtain ⟨l, b, xs, zs, rfl, rfl, hH, hB, hz, q⟩ := h
  cases rx
  obtain ⟨u, rfl, ru⟩ := rv.one
  cases ru
  obtain ⟨z, its, n, r, hl, e⟩ := I.lstM hH
  obtain ⟨its2, r2, ⟨⟨cls, dd, data, sl⟩, e2, hc, n2, hd⟩, hz2⟩ := I.tuple hB
  simp only at hc hd
  subst hc hd
  have l2 := r2.length
  have hsz : its.toArray.size + its2.toArray.size ≤ sizeLine := by
    rw [List.size_toArray, List.size_toArray]
    omega
  have hlong : ¬(!its.toArray.isEmpty && Builtin.List.listTooLong (its.toArray.size + its2.toArray.size)) = true := by
    rw [notLongL hsz, Bool.and_false]
    exact Bool.false_ne_true
  refine call_meets F.slot_list_extend ⟨_, e, rfl⟩ F.entry_list_extend (F.args_list_extend_2 _ _) (ext_tup (k := n2) (dd := dd) (sl := sl) hlong (by rw [List.size_toArray]; omega) (by omega)) ⟨e, e2, ?_⟩
  refine ⟨.non, _, I.lset (its' := its ++ its2) hH e (by simp) (r.append r2) ?_, rfl, q⟩
  rw [List.length_append]
  omega

theorem mt_ext2 : MtR X "list.extend" (fun x vs H Q => rExtend x vs H Q ∨ rExtT X.K x vs H Q) := by
  intro pins s σ H x vs v us Q I rx rv h
  rcases h with h | h
  · exact mt_extend pins s σ H x vs v us Q I rx rv h
  · exact mt_extT pins s σ H x vs v us Q I rx rv h
def mExt2 (x : D) (xs : List D) (h : VH) : Option (D × VH) := (lstAt h x).bind fun p => (one xs).bind fun d => match d with
  | .tup l => if p.2.length + l.length ≤ sizeLine then some (.non, h.set p.1 (.lst (p.2 ++ l))) else none
  | _ => mExtend x xs h
theorem ext2_mtd (K : PySem.W.Frag) : MtD K (fun x vs H Q => rExtend x vs H Q ∨ rExtT K x vs H Q) mExt2 := fun w x xs vx vs Q ok rx rs h => by
  unfold mExt2 at h
  cases e1 : lstAt w.h x with
  | none => rw [e1] at h; exact h.elim
  | some p =>
    rw [e1] at h
    simp only [Option.bind_some] at h
    cases e2 : one xs with
    | none => rw [e2] at h; exact h.elim
    | some d =>
      rw [e2] at h
      simp only [Option.bind_some] at h
      cases d with
      | tup k =>
        obtain ⟨n, l⟩ := p
        obtain ⟨rfl, en, rfl, us, g1, g2⟩ := lstAt_rp ok rx e1
        obtain ⟨v, _, rfl, rd⟩ := one_rps rs e2
        simp only at h
        by_cases hl : l.length + k.length ≤ sizeLine
        · rw [if_pos hl] at h
          cases rd with
          | tup ht rt =>
            rename_i a zs
            obtain ⟨ok', x'⟩ := ok.putL (ds := l ++ k) (vs := us ++ zs) en (g2.append rt)
            exact .inr ⟨_, _, us, zs, rfl, rfl, g1, ht, by rw [← RepL.length g2, ← RepL.length rt]; exact hl, h (w.putL n _ _) _ ok' rfl x' .non⟩
        · rw [if_neg hl] at h
          exact h.elim
      | _ => exact .inl (extend_mtd K w x xs vx vs Q ok rx rs h)
/-- xs.pop(i), i not below 0 -/
def mPopI (x : D) (xs : List D) (h : VH) : Option (D × VH) := (lstAt h x).bind fun p => (int1 xs).bind fun i => if 0 ≤ i ∧ i < 2 ^ 62 then (p.2[i.toNat]?).map fun d => (d, h.set p.1 (.lst (p.2.eraseIdx i.toNat))) else none
theorem popI_mtd (K : PySem.W.Frag) : MtD K rPopAt mPopI := fun w x xs vx vs Q ok rx rs h => by
  unfold mPopI at h
  cases e1 : lstAt w.h x with
  | none => rw [e1] at h; exact h.elim
  | some p =>
    obtain ⟨n, l⟩ := p
    obtain ⟨rfl, en, rfl, us, g1, g2⟩ := lstAt_rp ok rx e1
    rw [e1] at h
    simp only [Option.bind_some] at h
    cases e2 : int1 xs with
    | none => rw [e2] at h; exact h.elim
    | some i =>
      have ev := int1_rps rs e2
      subst ev
      rw [e2] at h
      simp only [Option.bind_some] at h
      by_cases hi : 0 ≤ i ∧ i < 2 ^ 62
      · rw [if_pos hi] at h
        cases e3 : l[i.toNat]? with
        | none => rw [e3] at h; exact h.elim
        | some d =>
          rw [e3] at h
          obtain ⟨v, ev, rv⟩ := RepL.get g2 e3
          obtain ⟨ok', x'⟩ := ok.putL (ds := l.eraseIdx i.toNat) (vs := us.eraseIdx i.toNat) en (RepL.eraseIdx _ g2)
          have hlt : i.toNat < us.length := (List.getElem?_eq_some_iff.mp ev).1
          refine ⟨_, us, i, i.toNat, v, rfl, rfl, g1, by omega, by omega, ?_, ev, h (w.putL n _ _) v ok' rfl x' (x'.rp rv)⟩
          unfold seqIndex?
          rw [if_neg (show ¬ i < 0 by omega)]
          have : (decide (0 ≤ i) && decide (i < (us.length : Int))) = true := by
            rw [decide_eq_true hi.1, decide_eq_true (show i < (us.length : Int) by omega)]
            rfl
          rw [if_pos this]
      · rw [if_neg hi] at h
        exact h.elim
/-- where the first like y stands -/
def findF (y : D) : List D → Option Nat
  | [] => none
  | d :: r => if eqF d y = true then some 0 else (findF y r).map (· + 1)
theorem findF_is {y : D} : ∀ {l : List D} {j : Nat}, findF y l = some j → ∃ d, l[j]? = some d ∧ eqF d y = true ∧ ∀ (m : Nat) (z : D), m < j → l[m]? = some z → eqF z y = false
  | [], _, e => by cases e
  | d :: r, j, e => by
    unfold findF at e
    by_cases h : eqF d y = true
    · rw [if_pos h] at e
      cases e
      exact ⟨d, rfl, h, fun m z hm => absurd hm (Nat.not_lt_zero _)⟩
    · rw [if_neg h] at e
      obtain ⟨k, ek, rfl⟩ := Option.map_eq_some_iff.mp e
      obtain ⟨x, h1, h2, h3⟩ := findF_is ek
      refine ⟨x, by simpa using h1, h2, fun m z hm hz => ?_⟩
      cases m with
      | zero =>
        cases hz
        simpa using h
      | succ m => exact h3 m z (by omega) (by simpa using hz)
def mIndex (x : D) (xs : List D) (h : VH) : Option (D × VH) := (seqOf h x).bind fun l => (one xs).bind fun y => if (flatD y && l.all flatD) = true then (findF y l).map fun j => (.int (j : Nat), h) else none
def mIdx (x : D) (xs : List D) (h : VH) : Option (D × VH) := match x with
  | .ref n => mIndex (.ref n) xs h
  | _ => none
theorem index_mtd (K : PySem.W.Frag) : MtD K (rIndex K) mIdx := fun w x xs vx vs Q ok rx rs h => by
  unfold mIdx at h
  cases x with
  | ref n =>
    simp only at h
    unfold mIndex at h
    cases e1 : lk w.h n with
    | none => rw [show seqOf w.h (.ref n) = lk w.h n from rfl, e1] at h; exact h.elim
    | some l =>
      rw [show seqOf w.h (.ref n) = lk w.h n from rfl, e1] at h
      simp only [Option.bind_some] at h
      cases rx
      obtain ⟨us, h1, h2⟩ := lk_sq ok e1
      cases e2 : one xs with
      | none => rw [e2] at h; exact h.elim
      | some y =>
        obtain ⟨v, _, rfl, ry⟩ := one_rps rs e2
        rw [e2] at h
        simp only [Option.bind_some] at h
        by_cases hf : (flatD y && l.all flatD) = true
        · rw [if_pos hf] at h
          rw [Bool.and_eq_true] at hf
          cases e3 : findF y l with
          | none => rw [e3] at h; exact h.elim
          | some j =>
            rw [e3] at h
            obtain ⟨d, g1, g2, g3⟩ := findF_is e3
            obtain ⟨z, ez, rz⟩ := RepL.get h2 g1
            have fl : ∀ {i : Nat} {e : D}, l[i]? = some e → flatD e = true := fun he => List.all_eq_true.mp hf.2 _ (List.mem_of_getElem? he)
            refine ⟨_, us, v, j, z, rfl, rfl, h1, flat_rp ry hf.1, all_flat h2 hf.2, ez, by rw [eqF_rp rz ry (fl g1) hf.1]; exact g2, fun m z' hm hz' => ?_, h w _ ok rfl (.refl w) (.int _)⟩
            have hm' : m < l.length := by
              rw [RepL.length h2]
              exact (List.getElem?_eq_some_iff.mp hz').1
            obtain ⟨u, eu, ru⟩ := RepL.get h2 (List.getElem?_eq_getElem hm')
            rw [hz'] at eu
            cases eu
            rw [eqF_rp ru ry (fl (List.getElem?_eq_getElem hm')) hf.1]
            exact g3 m _ hm (List.getElem?_eq_getElem hm')
        · rw [if_neg hf] at h
          exact h.elim
  | _ => exact h.elim
end Vq

/-! Part 19: walks from behind, bits. -/
namespace Vq
open PySem PySem.Spec PyProof.Rows L2
section
variable {X : Cx} {W : WX}
/-- from behind: the length must stay -/
def revOf (h0 : VH) (d : D) : Option (VH → Option (List D)) := match d with
  | .tup l => some fun _ => some l.reverse
  | .ref n => (lk h0 n).map fun l0 h => (lk h n).bind fun l => if l.length = l0.length then some l.reverse else none
  | _ => none
def vRev (f : VE) : VI := fun s h => (f s h).bind fun p => match revOf p.2 p.1 with
  | some src => .ok (src, p.2)
  | none => .bad
theorem rev_get {α : Type} {l : List α} {i n : Nat} (hn : l.length = n) : (l.reverse[i]? = none → n ≤ i) ∧ ∀ d, l.reverse[i]? = some d → i < n ∧ l[n - 1 - i]? = some d := by
  subst hn
  refine ⟨fun h => by simpa using h, fun d h => ?_⟩
  have hi : i < l.length := by
    have := (List.getElem?_eq_some_iff.mp h).1
    simpa using this
  rw [List.getElem?_reverse hi] at h
  exact ⟨hi, h⟩
theorem qRev {tg e : Expr} {f : VE} {p pos : Pos} (hm : X.mg "reversed" = none) (he : PE X e (gE X W f)) (hg : Gl X "reversed" := by rfl) (hs : starEach [e] X.env = (false, eval e X.env) :: starEach [] X.env := by rfl) :
    PI X tg (.Call (.Name "reversed" p) [e] [] pos) (gI X W (vRev f)) :=
  PIw (RT.pi_revA hg hm he hs) fun σ H R ⟨w, s, hH, ok, sl, hp⟩ => by
    subst hH
    unfold vRev at hp
    refine ⟨w, s, rfl, ok, sl, ?_⟩
    cases e1 : f s w.h with
    | bad => rw [e1] at hp; exact hp.elim
    | ex x s' h' => rw [e1] at hp; exact hp
    | ok p =>
      obtain ⟨d, h1⟩ := p
      rw [e1] at hp
      simp only [Res.ok_bind] at hp
      intro w1 v ok1 eh x1 r1
      cases d with
      | tup ds =>
        have r1' : RepV X.K w1.ι w1.h.length w1.H (.tup ds) v := r1
        cases r1' with
        | @tup a vs _ hq rr =>
          refine ⟨a, vs, rfl, .inr ⟨hq, hp w1 _ ok1 eh x1 fun w' i ys x' ok' e' => ?_⟩⟩
          cases e'
          have h' := x'.tup _ _ hq
          have hl := RepL.length rr
          have g := rev_get (l := ds) (i := i) hl
          refine ⟨g.1, fun d ed => ?_⟩
          obtain ⟨hi, ed'⟩ := g.2 d ed
          obtain ⟨v, ev, rv⟩ := (x'.rps rr).get ed'
          refine ⟨⟨hi, vs, v, h', ev⟩, fun x2 H' ⟨eH, ex⟩ => ⟨w', eH.symm, rfl, ok', .refl w', ?_⟩⟩
          have z := ex vs h'
          rw [ev] at z
          cases z
          exact rv
      | ref n =>
        have eh' : w1.h = h1 := eh
        have r1' : RepV X.K w1.ι w1.h.length w1.H (.ref n) v := r1
        cases r1' with
        | ref hn =>
          cases el : lk h1 n with
          | none => simp only [revOf, el, Option.map_none] at hp; exact hp.elim
          | some l0 =>
            simp only [revOf, el, Option.map_some] at hp
            obtain ⟨vs, g1, g2⟩ := lk_sq ok1 (by rw [eh']; exact el)
            refine ⟨_, vs, rfl, .inl ⟨g1, hp w1 _ ok1 eh x1 fun w' i ys x' ok' e' => ?_⟩⟩
            obtain ⟨l, e2, e3⟩ := Option.bind_eq_some_iff.mp e'
            by_cases hl : l.length = l0.length
            · rw [if_pos hl] at e3
              cases e3
              obtain ⟨us, k1, k2⟩ := lk_sq ok' e2
              rw [x'.ι n hn] at k1
              have hlv : l.length = vs.length := by rw [hl, RepL.length g2]
              have g := rev_get (l := l) (i := i) hlv
              refine ⟨g.1, fun d ed => ?_⟩
              obtain ⟨hi, ed'⟩ := g.2 d ed
              obtain ⟨v, ev, rv⟩ := RepL.get k2 ed'
              refine ⟨⟨hi, us, v, k1, ev⟩, fun x2 H' ⟨eH, ex⟩ => ⟨w', eH.symm, rfl, ok', .refl w', ?_⟩⟩
              have z := ex us k1
              rw [ev] at z
              cases z
              exact rv
            · rw [if_neg hl] at e3
              cases e3
      | _ => exact hp.elim
end

/-! ### bits -/
def shlOk (i j : Int) : Bool := decide (0 ≤ j) && decide ((Builtin.Int.intBits i : Int) + j ≤ 2 ^ 27)
def aShl := ii fun i j => if shlOk i j then some (.int (i * 2 ^ j.toNat)) else none
theorem shl_ii (K : PySem.W.Frag) : OpD K (rI CShl fun i j => .int (i * 2 ^ j.toNat)) aShl := opd_ii fun i j d H Q e q => by
  by_cases h : shlOk i j = true
  · rw [if_pos h] at e
    cases e
    unfold shlOk at h
    simp only [Bool.and_eq_true, decide_eq_true_eq] at h
    exact ⟨i, j, rfl, rfl, h, q _ fun _ => .int _⟩
  · rw [if_neg h] at e
    cases e
def aShr := ii fun i j => if 0 ≤ j then some (.int (i / 2 ^ j.toNat)) else none
theorem shr_ii (K : PySem.W.Frag) : OpD K (rI (fun _ j => 0 ≤ j) fun i j => .int (i / 2 ^ j.toNat)) aShr := opd_ii fun i j d H Q e q => by
  by_cases h : 0 ≤ j
  · rw [if_pos h] at e
    cases e
    exact ⟨i, j, rfl, rfl, h, q _ fun _ => .int _⟩
  · rw [if_neg h] at e
    cases e
def aAnd := ii fun i j => some (.int (Builtin.bitAnd i j))
theorem and_ii (K : PySem.W.Frag) : OpD K (rI0 fun i j => .int (Builtin.bitAnd i j)) aAnd := opd_ii fun i j d H Q e q => by
  cases e
  exact ⟨i, j, rfl, rfl, q _ fun _ => .int _⟩
def aOr := ii fun i j => some (.int (Builtin.bitOr i j))
theorem or_ii (K : PySem.W.Frag) : OpD K (rI0 fun i j => .int (Builtin.bitOr i j)) aOr := opd_ii fun i j d H Q e q => by
  cases e
  exact ⟨i, j, rfl, rfl, q _ fun _ => .int _⟩
def aXor := ii fun i j => some (.int (Builtin.bitXor i j))
theorem xor_ii (K : PySem.W.Frag) : OpD K (rI0 fun i j => .int (Builtin.bitXor i j)) aXor := opd_ii fun i j d H Q e q => by
  cases e
  exact ⟨i, j, rfl, rfl, q _ fun _ => .int _⟩
end Vq

/-! Part 20: constants of the text's top, isinstance, more methods. -/
namespace Vq
open PySem PySem.Spec PyProof.Rows L2
section
variable {X : Cx} {W : WX}
/-- a name that the text's top has made, an int -/
theorem qGi {x : Str} {i : Int} {pos : Pos} (hm : ∃ t, X.mg x = some (.int i t)) (hg : Gl X x := by rfl) (hd : (x == ("__debug__" : Str)) = false := by decide) : PE X (.Name x pos) (gE X W (vC (.int i))) := by
  obtain ⟨t, hm⟩ := hm
  exact PEw (pe_glob (v := .int i) hg hm ⟨t, rfl⟩ hd) fun σ H Q ⟨w, s, hH, ok, sl, hp⟩ => by
    subst hH
    exact hp w (.int i) ok rfl (.refl w) (.int i)
/-- .. a truth value -/
theorem qGb {x : Str} {b : Bool} {pos : Pos} (hm : X.mg x = some (.bool b)) (hg : Gl X x := by rfl) (hd : (x == ("__debug__" : Str)) = false := by decide) : PE X (.Name x pos) (gE X W (vC (.bl b))) :=
  PEw (pe_glob (v := .bl b) hg hm rfl hd) fun σ H Q ⟨w, s, hH, ok, sl, hp⟩ => by
    subst hH
    exact hp w (.bl b) ok rfl (.refl w) (.bl b)
/-- .. a text -/
theorem qGs {x y : Str} {pos : Pos} (hm : ∃ t, X.mg x = some (.str y t)) (hg : Gl X x := by rfl) (hd : (x == ("__debug__" : Str)) = false := by decide) : PE X (.Name x pos) (gE X W (vC (.str y))) := by
  obtain ⟨t, hm⟩ := hm
  exact PEw (pe_glob (v := .str y) hg hm ⟨t, rfl⟩ hd) fun σ H Q ⟨w, s, hH, ok, sl, hp⟩ => by
    subst hH
    exact hp w (.str y) ok rfl (.refl w) (.str y)

/-! ### isinstance -/
def tyNm : D → String
  | .non => "NoneType"
  | .bl _ => "bool"
  | .int _ => "int"
  | .str _ => "str"
  | .tup _ => "tuple"
  | .ftup _ => "tuple"
  | .dic _ _ => "dict"
  | .ref _ => "list"
theorem tyNm_is {K : PySem.W.Frag} {w : Wd} {d : D} {v : V} (ok : w.Ok K) (r : Rp K w d v) : TyX K w.H v (.type (tyNm d)) := by
  cases r with
  | non => exact .base .non
  | bl b => exact .base (.bl b)
  | int i => exact .base (.int i)
  | str s => exact .base (.str s)
  | tup h r =>
    rcases h with (h | ⟨ob, h⟩) | ⟨o, its, n, hk, hc, _⟩
    · exact .base (.tup h)
    · exact .fTuple h
    · exact .kTuple hk hc
  | ftup h r => exact .fTuple h.choose_spec.1
  | dic h r => exact .fDict h.2.choose_spec
  | @ref n hn =>
    have : ∃ ds, lk w.h n = some ds := by
      unfold lk
      rw [List.getElem?_eq_getElem hn]
      cases w.h[n] <;> exact ⟨_, rfl⟩
    obtain ⟨ds, e⟩ := this
    obtain ⟨vs, h, _⟩ := lk_sq ok e
    rcases h with (h | ⟨ob, h⟩) | ⟨o, its, n, hk, hc, _⟩
    · exact .base (.lst h)
    · exact .base (.frz h)
    · exact .kList hk hc
def vIsi (T : String) (f : VE) : VE := fun s h => (f s h).bind fun p => match kitB (tyNm p.1) T with
  | some b => .ok (.bl b, p.2)
  | none => .bad
theorem qIsi {e : Expr} {f : VE} {T : Str} {Ts : String} {p p2 pos : Pos} (hm : X.mg "isinstance" = none) (hmT : X.mg T = none) (he : PE X e (gE X W f)) (hv : bootBuiltins T = some (.type Ts) := by decide +kernel)
    (hg : Gl X "isinstance" := by rfl) (hgT : Gl X T := by rfl) (hn : T ≠ "__name__" := by decide) (hd : (T == ("__debug__" : Str)) = false := by decide)
    (h1 : starEach [e, .Name T p2] X.env = (false, eval e X.env) :: starEach [.Name T p2] X.env := by rfl) (h2 : starEach [.Name T p2] X.env = (false, eval (.Name T p2) X.env) :: starEach [] X.env := by rfl)
    (h3 : (backTo pos (starEach [.Name T p2] X.env)).any (·.1) = false := by rfl) :
    PE X (.Call (.Name "isinstance" p) [e, .Name T p2] [] pos) (gE X W (vIsi Ts f)) :=
  PEw (pe_callB call_isi hg hm (by decide +kernel) (pa_cons he (pa_cons (pe_bltn (v := .ty Ts) hgT hmT hv rfl hn hd) pa_nil h2) h1) (by decide) (by decide) h1 h3) fun σ H Q ⟨w, s, hH, ok, sl, hp⟩ => by
    subst hH
    refine gE.seq ok sl (wE w Q) hp fun d w1 v ok1 x1 sl1 r1 hp1 => ?_
    simp only at hp1
    cases e : kitB (tyNm d) Ts with
    | none => rw [e] at hp1; exact hp1.elim
    | some b =>
      rw [e] at hp1
      exact ⟨v, .ty Ts, .type (tyNm d), .type Ts, b, rfl, .ty Ts, tyNm_is ok1 r1, kit_ty e, hp1 w1 _ ok1 rfl x1 (.bl b)⟩
end
end Vq

/-! Part 21: values of the new words. -/
namespace Vq
open PySem PySem.Spec PyProof.Rows L2
theorem tyL_of {h : VH} {n : Nat} {l : List D} (e : lk h n = some l) : tyD "list" (.ref n) h = true := by simp [tyD, e]
theorem mAppend_of {h : VH} {n : Nat} {l : List D} {d : D} (e : h[n]? = some (.lst l)) (hz : l.length < 16777216) : mAppend (.ref n) [d] h = some (.non, h.set n (.lst (l ++ [d]))) := by
  unfold mAppend
  rw [lstAt_of e]
  simp [lt_line hz]
theorem mPopI_of {h : VH} {n : Nat} {l : List D} {i : Int} {d : D} (e : h[n]? = some (.lst l)) (h0 : 0 ≤ i) (h1 : i ≤ 1000000) (ed : l[i.toNat]? = some d) : mPopI (.ref n) [.int i] h = some (d, h.set n (.lst (l.eraseIdx i.toNat))) := by
  unfold mPopI
  rw [lstAt_of e]
  have : 0 ≤ i ∧ i < 2 ^ 62 := ⟨h0, by omega⟩
  simp only [Option.bind_some, int1_1]
  rw [if_pos this, ed]
  rfl
theorem mExt2_t {h : VH} {n : Nat} {l k : List D} (e : h[n]? = some (.lst l)) (hz : l.length + k.length ≤ 16777216) : mExt2 (.ref n) [.tup k] h = some (.non, h.set n (.lst (l ++ k))) := by
  unfold mExt2
  rw [lstAt_of e]
  simp [le_line hz]
theorem mExt2_r {h : VH} {n m : Nat} {l k : List D} (e : h[n]? = some (.lst l)) (e2 : h[m]? = some (.lst k)) (hz : l.length + k.length ≤ 16777216) : mExt2 (.ref n) [.ref m] h = some (.non, h.set n (.lst (l ++ k))) := by
  unfold mExt2 mExtend
  rw [lstAt_of e]
  simp [le_line hz, lstAt_of e2]
theorem intsOf_pD (p : Int × Int) (r : List (Int × Int)) : intsOf ((p :: r).map pD) = none := rfl
theorem bSorted_I {h : VH} {n : Nat} {l : List Int} (e : lk h n = some (l.map .int)) : bSorted [.ref n] h = some (.ref h.length, h ++ [.lst ((srtI l).map .int)]) := by
  unfold bSorted
  simp [e]
theorem bSorted_P {h : VH} {n : Nat} {l : List (Int × Int)} (e : lk h n = some (l.map pD)) : bSorted [.ref n] h = some (.ref h.length, h ++ [.lst ((srtP l).map pD)]) := by
  cases l with
  | nil =>
    have z := bSorted_I (l := []) e
    rw [z]
    have a1 : srtI [] = [] := by simp [srtI]
    have a2 : srtP [] = [] := by simp [srtP]
    rw [a1, a2]
    rfl
  | cons p r =>
    unfold bSorted
    have : intsOf (pD p :: r.map pD) = none := intsOf_pD p r
    have h2 : pairsOf (pD p :: r.map pD) = some (p :: r) := pairsOf_map (p :: r)
    simp [e, this, h2]
theorem dAdd_L {h : VH} {n m : Nat} {a b : List D} (e1 : h[n]? = some (.lst a)) (e2 : h[m]? = some (.lst b)) (hz : a.length + b.length ≤ 16777216) : dAdd (.ref n) (.ref m) h = some (.ref h.length, h ++ [.lst (a ++ b)]) := by
  unfold dAdd orD aAdd ii tAddT tAddL
  simp [e1, e2, le_line hz]
theorem sIx_nn {n d : Nat} {i : Int} (h0 : 0 ≤ i) : HT.sIx n d (some i) = min i.toNat n := by
  show (if i < 0 then (i + (n : Int)).toNat else min i.toNat n) = _
  rw [if_neg (by omega)]
theorem cut_to (l : List D) {i : Int} (h0 : 0 ≤ i) : cutD l none (some i) = l.take i.toNat := by
  unfold cutD
  rw [sIx_nn h0, show HT.sIx l.length 0 none = 0 from rfl]
  simp only [List.drop_zero, Nat.sub_zero]
  rcases Nat.le_total i.toNat l.length with h | h
  · rw [Nat.min_eq_left h]
  · rw [Nat.min_eq_right h, List.take_of_length_le (Nat.le_refl _), List.take_of_length_le h]
theorem cut_from (l : List D) {i : Int} (h0 : 0 ≤ i) : cutD l (some i) none = l.drop i.toNat := by
  unfold cutD
  rw [sIx_nn h0, show HT.sIx l.length l.length none = l.length from rfl]
  rcases Nat.le_total i.toNat l.length with h | h
  · rw [Nat.min_eq_left h, List.take_of_length_le (by simp)]
  · rw [Nat.min_eq_right h, List.drop_eq_nil_of_le h, List.drop_eq_nil_of_le (Nat.le_refl _)]
    simp
theorem slD_to {h : VH} {n : Nat} {l : List D} {i : Int} (e : lk h n = some l) (h0 : 0 ≤ i) : slD (.ref n) none (some i) h = some (.ref h.length, h ++ [.lst (l.take i.toNat)]) := by
  unfold slD
  simp [e, cut_to l h0]
theorem slD_from {h : VH} {n : Nat} {l : List D} {i : Int} (e : lk h n = some l) (h0 : 0 ≤ i) : slD (.ref n) (some i) none h = some (.ref h.length, h ++ [.lst (l.drop i.toNat)]) := by
  unfold slD
  simp [e, cut_from l h0]
/-- lists of plain data of one kind -/
theorem eqLp {α : Type} [DecidableEq α] [Pl α] (hd : Pl.dep α ≤ 60) (neg : Bool) {h : VH} {n m : Nat} {a b : List α} (e1 : lk h n = some (a.map Pl.d)) (e2 : lk h m = some (b.map Pl.d)) :
    eqWith neg (.ref n) (.ref m) h = some (.bl (if neg then !decide (a = b) else decide (a = b)), h) := by
  have p1 := py_ref (ps := a.map Pl.p) e1 fun f => pl_pyL f a
  have p2 := py_ref (ps := b.map Pl.p) e2 fun f => pl_pyL f b
  have sh : ∀ a : List α, SeqAt.shaped (.list (a.map Pl.p)) = true := fun a => by
    unfold SeqAt.shaped
    have h1 : PyData.canLay0 (.list (a.map Pl.p)) = true := by
      simp only [PyData.canLay0]
      exact pl_lay a
    have h2 : PyData.depth (.list (a.map Pl.p)) ≤ 64 := by
      simp only [PyData.depth]
      have : PyData.depthAll (a.map Pl.p) ≤ Pl.dep α := pl_depth a
      omega
    rw [h1, decide_eq_true h2]
    rfl
  have e : PyData.eqv (.list (a.map Pl.p)) (.list (b.map Pl.p)) = decide (a = b) := by
    simp only [PyData.eqv]
    exact pl_eq a b
  unfold eqWith
  simp only [p1, p2, sh, Bool.and_self, if_true, e]
theorem dNe_P {h : VH} {n m : Nat} {a b : List (Int × Int)} (e1 : lk h n = some (a.map pD)) (e2 : lk h m = some (b.map pD)) : dNe (.ref n) (.ref m) h = some (.bl (!decide (a = b)), h) := eqLp (α := Int × Int) (by decide) true e1 e2
theorem dEq_P {h : VH} {n m : Nat} {a b : List (Int × Int)} (e1 : lk h n = some (a.map pD)) (e2 : lk h m = some (b.map pD)) : dEq (.ref n) (.ref m) h = some (.bl (decide (a = b)), h) := eqLp (α := Int × Int) (by decide) false e1 e2
end Vq

/-! Part 22: repr of plain data of any mixture. -/
namespace Vq
open PySem PySem.Spec PyProof.Rows L2
def pyOf (d : D) : PyData := (pyD (fun _ => none) d).getD .none
/-- plain: no list within, at most k deep, all of it may be shown -/
structure PlD (k : Nat) (d : D) : Prop where
  hp : ∀ f, pyD f d = some (pyOf d)
  lay : (pyOf d).canLay0 = true
  dep : (pyOf d).depth ≤ k
  sho : (pyOf d).showable = true
def sz (d : D) : Nat := size (pyOf d)
theorem PlD.mono {k j : Nat} {d : D} (h : PlD k d) (hk : k ≤ j) : PlD j d := ⟨h.hp, h.lay, Nat.le_trans h.dep hk, h.sho⟩
theorem PlD.of {k : Nat} {d : D} {p : PyData} (hp : ∀ f, pyD f d = some p) (lay : p.canLay0 = true) (dep : p.depth ≤ k) (sho : p.showable = true) : PlD k d := by
  have e : pyOf d = p := by
    unfold pyOf
    rw [hp]
    rfl
  refine ⟨fun f => ?_, ?_, ?_, ?_⟩ <;> rw [e]
  · exact hp f
  · exact lay
  · exact dep
  · exact sho
theorem pyOf_i (i : Int) : pyOf (.int i) = .int i := rfl
theorem pl_non : PlD 0 .non := .of (p := .none) (fun f => pyD_n f) (by simp only [PyData.canLay0]) (by simp only [PyData.depth, Nat.le_refl]) (by simp only [PyData.showable])
theorem pl_bl (b : Bool) : PlD 0 (.bl b) := .of (p := .bool b) (fun f => pyD_b f b) (by simp only [PyData.canLay0]) (by simp only [PyData.depth, Nat.le_refl]) (by simp only [PyData.showable])
theorem pl_str {x : Str} (h : PyData.strOk x = true) : PlD 0 (.str x) := .of (p := .str x) (fun f => pyD_s f x) (by simp only [PyData.canLay0]; exact h) (by simp only [PyData.depth, Nat.le_refl]) (by simp only [PyData.showable])
theorem pl_int {i : Int} (h : i.natAbs.log2 < 1920) : PlD 0 (.int i) := .of (p := .int i) (fun f => pyD_i f i) (by simp only [PyData.canLay0]) (by simp only [PyData.depth, Nat.le_refl]) (by simp only [PyData.showable, decide_eq_true_eq]; exact h)
theorem pl_small {i : Int} (h0 : -(10 ^ 400) ≤ i) (h1 : i ≤ 10 ^ 400) : PlD 0 (.int i) := by
  refine pl_int ?_
  have t : (10 ^ 400 : Nat) < 2 ^ 1920 := by decide +kernel
  by_cases h : i.natAbs = 0
  · rw [h]
    decide
  · rw [Nat.log2_lt h]
    have : i.natAbs ≤ 10 ^ 400 := by omega
    omega
theorem plL {k : Nat} : ∀ {l : List D}, (∀ d ∈ l, PlD k d) → (∀ f, pyL f l = some (l.map pyOf)) ∧ PyData.canLayAll0 (l.map pyOf) = true ∧ PyData.depthAll (l.map pyOf) ≤ k ∧ PyData.showableAll (l.map pyOf) = true
  | [], _ => ⟨fun f => pyL_nil f, by simp only [List.map_nil, PyData.canLayAll0], by simp only [List.map_nil, PyData.depthAll, Nat.zero_le], by simp only [List.map_nil, PyData.showableAll]⟩
  | d :: r, h => by
    obtain ⟨a, b, c, e⟩ := plL (l := r) fun x hx => h x (List.mem_cons_of_mem _ hx)
    have q := h d (List.mem_cons_self ..)
    refine ⟨fun f => ?_, ?_, ?_, ?_⟩
    · simp only [pyL, q.hp, a, List.map_cons]
      rfl
    · simp only [List.map_cons, PyData.canLayAll0, q.lay, b, Bool.and_self]
    · simp only [List.map_cons, PyData.depthAll]
      exact Nat.max_le.mpr ⟨q.dep, c⟩
    · simp only [List.map_cons, PyData.showableAll, q.sho, e, Bool.and_self]
theorem pyOf_tup {k : Nat} {l : List D} (h : ∀ d ∈ l, PlD k d) : pyOf (.tup l) = .tuple (l.map pyOf) := by
  unfold pyOf
  simp only [pyD, (plL h).1]
  rfl
theorem pl_tup {k : Nat} {l : List D} (h : ∀ d ∈ l, PlD k d) : PlD (k + 1) (.tup l) := by
  obtain ⟨a, b, c, e⟩ := plL h
  refine .of (p := .tuple (l.map pyOf)) (fun f => ?_) ?_ ?_ ?_
  · simp only [pyD, a]
    rfl
  · simp only [PyData.canLay0]
    exact b
  · simp only [PyData.depth]
    exact Nat.succ_le_succ c
  · simp only [PyData.showable]
    exact e
theorem sizes_map : ∀ l : List D, sizes (l.map pyOf) = (l.map sz).sum
  | [] => by simp only [List.map_nil, sizes, List.sum_nil]
  | d :: r => by
    simp only [List.map_cons, sizes, List.sum_cons, sizes_map r]
    rfl
theorem sz_tup {k : Nat} {l : List D} (h : ∀ d ∈ l, PlD k d) : sz (.tup l) = (l.map sz).sum + 1 := by
  unfold sz
  rw [pyOf_tup h]
  simp only [size]
  rw [sizes_map]
  rfl
theorem sz_int (i : Int) : sz (.int i) = 1 := by
  unfold sz
  rw [pyOf_i]
  simp only [size]
theorem repr_D {k : Nat} {d : D} (q : PlD k d) (hk : k ≤ 64) (hs : sz d ≤ 8000) (h : VH) : bRepr [d] h = some (.str (pyOf d).shown, h) := by
  refine bRepr_of (q.hp _) (reprOk_of ?_ q.sho hs)
  unfold SeqAt.shaped
  rw [q.lay, decide_eq_true (Nat.le_trans q.dep hk)]
  rfl
def txtL (l : List D) : Str := (PyData.list (l.map pyOf)).shown
theorem repr_L {k : Nat} {h : VH} {n : Nat} {l : List D} (e : lk h n = some l) (q : ∀ d ∈ l, PlD k d) (hk : k ≤ 60) (hs : (l.map sz).sum + 1 ≤ 8000) : bRepr [.ref n] h = some (.str (txtL l), h) := by
  obtain ⟨a, b, c, s⟩ := plL q
  refine bRepr_of (py_ref e a) (reprOk_of ?_ ?_ ?_)
  · unfold SeqAt.shaped
    have h1 : PyData.canLay0 (.list (l.map pyOf)) = true := by
      simp only [PyData.canLay0]
      exact b
    have h2 : PyData.depth (.list (l.map pyOf)) ≤ 64 := by
      simp only [PyData.depth]
      omega
    rw [h1, decide_eq_true h2]
    rfl
  · simp only [PyData.showable]
    exact s
  · simp only [size]
    rw [sizes_map]
    exact hs
/-- a list whose items may be lists -/
theorem repr_ps {h : VH} {n : Nat} {l : List D} {ps : List PyData} (e : lk h n = some l) (hp : pyL (refPy h 5) l = some ps) (lay : PyData.canLayAll0 ps = true) (dep : PyData.depthAll ps ≤ 60) (sho : PyData.showableAll ps = true) (hs : sizes ps + 1 ≤ 8000) :
    bRepr [.ref n] h = some (.str (PyData.list ps).shown, h) := by
  have pe : py h (.ref n) = some (.list ps) := by
    unfold py
    simp only [pyD]
    show (lk h n).bind (fun l => (pyL (refPy h 5) l).map PyData.list) = _
    rw [e]
    simp only [Option.bind_some, hp, Option.map_some]
  refine bRepr_of pe (reprOk_of ?_ ?_ ?_)
  · unfold SeqAt.shaped
    have h1 : PyData.canLay0 (.list ps) = true := by
      simp only [PyData.canLay0]
      exact lay
    have h2 : PyData.depth (.list ps) ≤ 64 := by
      simp only [PyData.depth]
      omega
    rw [h1, decide_eq_true h2]
    rfl
  · simp only [PyData.showable]
    exact sho
  · simp only [size]
    exact hs
theorem refPy_I {h : VH} {a : Nat} {r : List Int} (e : lk h a = some (r.map .int)) : refPy h 5 a = some (.list (r.map .int)) := by
  have z := pl_pyL (α := Int) (refPy h 4) r
  have z' : pyL (refPy h 4) (r.map D.int) = some (r.map PyData.int) := z
  show (lk h a).bind (fun l => (pyL (refPy h 4) l).map PyData.list) = _
  rw [e]
  simp only [Option.bind_some, z', Option.map_some]
def listI (r : List Int) : PyData := .list (r.map .int)
theorem pyL_refs {h : VH} : ∀ {as : List Nat} {rs : List (List Int)}, as.length = rs.length → (∀ (k : Nat) (h1 : k < as.length) (h2 : k < rs.length), lk h as[k] = some (rs[k].map .int)) → pyL (refPy h 5) (as.map .ref) = some (rs.map listI)
  | [], [], _, _ => by simp only [List.map_nil, pyL]
  | [], _ :: _, e, _ => by simp at e
  | _ :: _, [], e, _ => by simp at e
  | a :: as, r :: rs, e, q => by
    have h0 := refPy_I (q 0 (by simp) (by simp))
    have ih := pyL_refs (h := h) (as := as) (rs := rs) (by simpa using e) fun k h1 h2 => q (k + 1) (by simpa using h1) (by simpa using h2)
    simp only [List.map_cons, pyL, pyD, ih]
    rw [show refPy h 5 a = some (listI r) from h0]
    rfl
end Vq

/-! Q23: a tuple display times a number, 0 and less too. -/
namespace Vq
open PySem PySem.Spec PyProof.Rows L2

theorem tuple_mul0 (l : Addr) (items : Array Value) (n : Nat) (dd : Option Addr) (sl : Array (Option Value)) (x : Int) (u : Tok)
    (c0 : (decide (x < -(2 ^ 63)) || decide (x ≥ 2 ^ 63)) = false) (c1 : (items.isEmpty || x == 1) = false) (c2 : (decide (x ≤ 0) || items.isEmpty) = true) :
    Meets (Builtin.«tuple.__mul__» ⟨[.ref l, .int x u], []⟩) (fun _ R s => s.heap.get? l = some { cls := .type "tuple", dict := dd, data := .seq items n, slots := sl } ∧
      R (.ok (.ret (Value.ref s.heap.objs.size))) { s with heap := s.heap.push { cls := Value.type "tuple", data := Data.seq #[] }, toks := s.toks }) := by
  refine .of_wp fun prog w A R s h => ?_
  obtain ⟨hp, g, d, tk, os⟩ := s
  obtain ⟨hl, h⟩ := h
  have f1 := AutoSeq1.idx_int
  wp_walk using wpAny_loadPart' hl
  repeat (first
    | (refine wpAny_ite_false (decide_eq_false (by rw [c0]; exact fun z => nomatch z)) ?_; wp_walk using wpAny_loadPart' hl)
    | (refine wpAny_ite_false (decide_eq_false (by rw [c1]; exact Bool.false_ne_true)) ?_; wp_walk using wpAny_loadPart' hl)
    | (refine wpAny_ite_true (decide_eq_true c2) ?_; wp_walk using wpAny_loadPart' hl))
  exact ⟨_, rfl, h⟩
/-- t * k, k at most 0: a new empty tuple -/
def rRep0 (K : PySem.W.Frag) : R2 := fun x y H Q => ∃ l k xs, x = .ref l ∧ y = .int k ∧ SqT K H l xs ∧ xs ≠ [] ∧ -(2 ^ 63) ≤ k ∧ k ≤ 0 ∧ ∀ p, H p = none → Q (.ref p) (upd H p (.tup []))
theorem op_rep0 {X : Cx} : OpR X (binaryOp .Mult) (rRep0 X.K) := by
  rintro pins s σ H x y v u Q I rx ry ⟨l, k, xs, rfl, rfl, hT, hne, k1, k2, q⟩
  cases rx
  obtain ⟨t, rfl⟩ := ry
  obtain ⟨its, r, ⟨⟨cls, dd, data, sl⟩, ho, hc, n, hd⟩, hs⟩ := I.tuple hT
  simp only at hc hd
  subst hc hd
  have hle : its.length = xs.length := r.length.symm
  have hn : its ≠ [] := fun e => hne (by
    rw [e] at hle
    exact List.eq_nil_of_length_eq_zero hle.symm)
  have hi : its.toArray.isEmpty = false := by
    cases its with
    | nil => exact absurd rfl hn
    | cons a b => rfl
  have c0 : (decide (k < -(2 ^ 63)) || decide (k ≥ 2 ^ 63)) = false := by
    rw [decide_eq_false (by omega), decide_eq_false (by omega)]
    rfl
  have c1 : (its.toArray.isEmpty || k == 1) = false := by
    rw [hi, Bool.false_or]
    exact beq_eq_false_iff_ne.mpr (by omega)
  have c2 : (decide (k ≤ 0) || its.toArray.isEmpty) = true := by
    rw [decide_eq_true k2]
    rfl
  refine wpAny_binaryOp_repeat_ref (T := "tuple") (U := "int") (by decide) ⟨_, ho, rfl⟩ (fun s' => typeIs_int s' k t) noFill_tuple_mul F.fills_int_mul F.slot_int_rmul repeat_tuple F.slot_int_index.lookup
    (call_meets F.slot_int_rmul (typeIs_int s k t) F.entry_int_rmul (F.args_int_rmul_2 _ _) (int_rmul_tuple k t l its.toArray n dd sl)
      ⟨ho, rfl, ⟨_, ho, rfl⟩, call_meets F.slot_tuple_mul ⟨_, ho, rfl⟩ F.entry_tuple_mul (F.args_tuple_mul_2 _ _) (tuple_mul0 l its.toArray n dd sl k t c0 c1 c2) ⟨ho, ?_⟩⟩)
  refine ⟨.ref s.heap.objs.size, _, I.laid (t' := s.toks) (o := .tup []) (fun b ob q => Heap.get?_push_of_some _ q) (Nat.le_refl _) ?_, rfl, q _ (I.hok.fresh (Nat.le_refl _))⟩
  exact ⟨Nat.zero_le _, _, .nil, IsTup.new _ _⟩
def tMulZ : D → D → VH → Option (D × VH) := fun x y h => match x, y with
  | .tup l, .int k => if -(2 ^ 63) ≤ k ∧ k ≤ 0 ∧ l ≠ [] then some (.tup [], h) else none
  | _, _ => none
theorem mulZ_opd (K : PySem.W.Frag) : OpD K (rRep0 K) tMulZ := fun w x y vx vy Q ok rx ry h => by
  cases rx with
  | @tup a vs ds hx rx =>
    cases ry with
    | int k =>
      unfold tMulZ at h
      simp only at h
      by_cases h2 : -(2 ^ 63) ≤ k ∧ k ≤ 0 ∧ ds ≠ []
      · rw [if_pos h2] at h
        refine ⟨a, k, vs, rfl, rfl, hx, fun z => h2.2.2 ?_, h2.1, h2.2.1, fun p hp => ?_⟩
        · subst z
          cases rx
          rfl
        · exact h (w.tupAt p (.tup _)) _ (ok.tupAt hp) rfl (Wd.ext_tupAt hp) (.tup (SqT.of upd_same) .nil)
      · rw [if_neg h2] at h
        exact h.elim
    | _ => exact h.elim
  | _ => cases ry <;> exact h.elim
/-- a tuple display times a number -/
def dMulZ : D → D → VH → Option (D × VH) := orD tMulZ tMulT
theorem mulZ_opdd (K : PySem.W.Frag) : OpD K (orR (rRep0 K) (orR (rRep1 K) (rRepT K))) dMulZ := opd_orD (mulZ_opd K) (mulT_opd K)
theorem mulZ_opr {X : Cx} : OpR X (binaryOp .Mult) (orR (rRep0 X.K) (orR (rRep1 X.K) (rRepT X.K))) := OpR.or op_rep0 (OpR.or op_rep1 op_repT)
end Vq

/-! Part 24: bit_length, tuple(reversed(..)). -/
namespace Vq
open PySem PySem.Spec PyProof.Rows L2
section
variable {X : Cx} {W : WX} {o e : Expr} {fo fe : VE} {p p2 pos pos2 apos : Pos}
def vBits (o : VE) : VE := fun s h => (o s h).bind fun p => match p.1 with
  | .int i => .ok (.int (Builtin.Int.intBits i : Nat), p.2)
  | _ => .bad
theorem qBits (ho : PE X o (gE X W fo)) (hbase : attributeBase o "bit_length" X.env (eval o X.env) = eval o X.env := by rfl) (hline : (apos.endLine == pos.line) = true := by rfl) : PE X (.Call (.Attribute o "bit_length" apos) [] [] pos) (gE X W (vBits fo)) :=
  PEw (pe_bits ho hbase hline) fun σ H Q ⟨w, s, hH, ok, sl, hp⟩ => by
    subst hH
    refine gE.seq ok sl (wE w Q) hp fun d w1 v ok1 x1 sl1 r1 hp1 => ?_
    cases r1 with
    | int i => exact ⟨i, rfl, hp1 w1 _ ok1 rfl x1 (.int _)⟩
    | _ => exact hp1.elim
def vTRev (f : VE) : VE := fun s h => (f s h).bind fun p => match p.1 with
  | .ref n => match lk p.2 n with
    | some l => .ok (.tup l.reverse, p.2)
    | none => .bad
  | _ => .bad
theorem qTRev (hc : X.calm = true) (hm : X.mg "tuple" = none) (hm2 : X.mg "reversed" = none) (he : PE X e (gE X W fe)) (hg : Gl X "tuple" := by rfl) (hg2 : Gl X "reversed" := by rfl)
    (hs : starEach [e] X.env = (false, eval e X.env) :: starEach [] X.env := by rfl)
    (hs2 : starEach [.Call (.Name "reversed" p2) [e] [] pos2] X.env = (false, eval (.Call (.Name "reversed" p2) [e] [] pos2) X.env) :: starEach [] X.env := by rfl) :
    PE X (.Call (.Name "tuple" p) [.Call (.Name "reversed" p2) [e] [] pos2] [] pos) (gE X W (vTRev fe)) :=
  PEw (RT.pe_tupRev hc hg hm hg2 hm2 he hs hs2) fun σ H Q ⟨w, s, hH, ok, sl, hp⟩ => by
    subst hH
    refine gE.seq ok sl (wE w Q) hp fun d w1 v ok1 x1 sl1 r1 hp1 => ?_
    cases r1 with
    | @ref n hn =>
      simp only at hp1
      cases el : lk w1.h n with
      | none => rw [el] at hp1; exact hp1.elim
      | some l =>
        rw [el] at hp1
        obtain ⟨us, h1, h2⟩ := lk_sq ok1 el
        exact ⟨_, us, rfl, h1, fun q hq => hp1 (w1.tupAt q (.tup us.reverse)) _ (ok1.tupAt hq) rfl (x1.trans (Wd.ext_tupAt hq)) (.tup (SqT.of upd_same) ((Wd.ext_tupAt hq).rps h2.reverse))⟩
    | _ => exact hp1.elim
end
section
variable {s : VS} {h : VH}
@[simp] theorem vBits_ap (o : VE) : vBits o s h = (o s h).bind fun p => match p.1 with
  | .int i => .ok (.int (Builtin.Int.intBits i : Nat), p.2)
  | _ => .bad := rfl
@[simp] theorem vTRev_ap (f : VE) : vTRev f s h = (f s h).bind fun p => match p.1 with
  | .ref n => match lk p.2 n with
    | some l => .ok (.tup l.reverse, p.2)
    | none => .bad
  | _ => .bad := rfl
end
end Vq

/-! Part 25: tuples whose object is known, their index method. -/
namespace Vq
open PySem PySem.Spec PyProof.Rows L2
section
variable {X : Cx}
/-- tuple(e) of a list, the new object told -/
def rFz (K : PySem.W.Frag) : List V → Hp → VK → Prop := fun xs H Q => ∃ p ys, xs = [.ref p] ∧ SqL K H p ys ∧ ∀ (l : Addr) (ob : Obj), ob.cls = .type "tuple" → ob.dict = none → H l = none → Q (.ref l) (upd H l (.frz ob (.tup ys)))
theorem call_tuple_fz : CallR X (.type "tuple") (rFz X.K) := by
  intro pins s σ H xs us Q I r h
  obtain ⟨p, ys, rfl, hq, q⟩ := h
  obtain ⟨u, rfl, rx⟩ := vals1 r
  cases rx
  obtain ⟨its, r', pl, hz⟩ := I.list hq
  have hlen := r'.length
  refine call_tuple_list pl.isList (fun h' kp => ?_) (by simp only [List.size_toArray] <;> omega)
  have I1 : Inv X pins σ H { s with heap := h' } := I.kept (t' := s.toks) kp
  have I2 : Inv X pins σ (upd H h'.objs.size (.frz { cls := .type "tuple", data := .seq its.toArray } (.tup ys))) { s with heap := h'.push { cls := .type "tuple", data := .seq its.toArray } } :=
    I1.laid (t' := s.toks) (fun b o e => Heap.get?_push_of_some _ e) (Nat.le_refl _) (show ObjOk X.prog X.w _ _ _ (.frz { cls := .type "tuple", data := .seq its.toArray } (.tup ys)) from ⟨Heap.get?_push_size _ rfl, hz, its, r', IsTup.new _ _⟩)
  exact ⟨.ref h'.objs.size, _, I2, rfl, q _ _ rfl rfl (I1.hok.fresh (Nat.le_refl _))⟩
def bFz : List D → VH → Option (D × VH) := pureB fun l h => (one l).bind fun d => match d with
  | .ref n => (lk h n).map .ftup
  | _ => none
theorem fz_cd (K : PySem.W.Frag) : CallD K (rFz K) bFz := fun w xs vs Q ok r h => by
  unfold bFz pureB at h
  cases e1 : one xs with
  | none => simp only [e1] at h; exact h.elim
  | some d =>
    obtain ⟨v, _, rfl, rd⟩ := one_rps r e1
    simp only [e1, Option.bind_some] at h
    cases rd with
    | @ref n hn =>
      cases e2 : lk w.h n with
      | none => simp only [e2] at h; exact h.elim
      | some l =>
        simp only [e2, Option.map_some] at h
        obtain ⟨us, h1, h2⟩ := lk_sq ok e2
        exact ⟨_, us, rfl, h1, fun p ob c dn hp => h (w.tupAt p (.frz ob (.tup us))) _ (ok.tupAt hp) rfl (Wd.ext_tupAt hp) (.ftup ⟨ob, upd_same, c, dn⟩ ((Wd.ext_tupAt hp).rps h2))⟩
    | _ => exact h.elim
/-! ### t.index(x), flat items -/
def rTIdx (K : PySem.W.Frag) : V → List V → Hp → VK → Prop := fun x xs H Q => ∃ (a : Addr) (ys : List V) (y : V) (j : Nat) (z : V), x = V.ref a ∧ xs = [y] ∧ SqT K H a ys ∧ flatV y = true ∧ ys.all flatV = true ∧ ys[j]? = some z ∧ eqV z y = true ∧
  (∀ (m : Nat) (z' : V), m < j → ys[m]? = some z' → eqV z' y = false) ∧ Q (.int (j : Nat)) H
theorem mt_tindex : MtR X "tuple.index" (rTIdx X.K) := by
  intro pins s σ H x xs v us Q I rx rxs h
  obtain ⟨a, ys, y, j, z, rfl, rfl, hs, fy, fys, hz, hzj, hno, q⟩ := h
  cases rx
  cases rxs with
  | cons ry rt =>
    rename_i uy ut
    cases rt
    obtain ⟨its, rv, pl, hlen⟩ := I.tuple hs
    obtain ⟨⟨cls, dd, data, sl⟩, ho, hc, n, hd⟩ := pl
    simp only at hc hd
    subst hc hd
    obtain ⟨u, hu, ru⟩ := rv.get hz
    obtain ⟨hjl, hje⟩ := List.getElem?_eq_some_iff.mp hu
    have hvl := rv.length
    have hj : j < its.toArray.size := by simpa using hjl
    refine call_meets PySem.F.slot_tuple_index ⟨_, ho, rfl⟩ PySem.F.entry_tuple_index (PySem.F.args_tuple_index_2 _ _)
      (TI.tuple_indexAt a its.toArray n dd sl uy (eqU y) j hj ?_ ?_) ⟨ho, fun u' hu' => mem_eqAt ry fy rv fys u' (by simpa using hu'), ?_⟩
    · have e1 : its.toArray[j] = u := by simpa using hje
      rw [e1, eqU_of ru (flat_at fys hz)]
      exact hzj
    · intro m hm hmj
      have hml : m < its.length := by simpa using hm
      have hmy : m < ys.length := by omega
      have hy' : ys[m]? = some ys[m] := List.getElem?_eq_getElem hmy
      obtain ⟨u2, hu2, ru2⟩ := rv.get hy'
      obtain ⟨_, hme⟩ := List.getElem?_eq_some_iff.mp hu2
      have e1 : its.toArray[m] = u2 := by simpa using hme
      rw [e1, eqU_of ru2 (flat_at fys hy')]
      exact hno m _ hmj hy'
    · exact ⟨.int (j : Nat), H, I.tok _, ⟨_, rfl⟩, q⟩
def tTBM (K : PySem.W.Frag) (r : V → List V → Hp → VK → Prop) (to : TE) (t : TA) : TE := fun σ H Q => to σ H fun x H1 => (∃ a vs, x = .ref a ∧ TpL H1 a vs) ∧ t σ H1 fun xs H2 => r x xs H2 Q
variable {o e : Expr} {es : List Expr} {to : TE} {t : TA} {name : Str} {apos cpos : Pos} {id : String} {r : V → List V → Hp → VK → Prop}
theorem pe_tbm (slot : Slot "tuple" name id) (hty : typeOf (.builtin id) = pure (.type "method_descriptor")) (hm : MtR X id r) (ho : PE X o to) (ha : PA X (e :: es) t)
    (hbase : attributeBase o name X.env (eval o X.env) = eval o X.env := by rfl)
    (hfew : ((backTo cpos (starEach (e :: es) X.env)).all (fun x => !x.1) && (backToKw cpos (keywordEach [] X.env)).all (fun x => x.1.isSome)
      && decide ((e :: es).length + ([] : List Keyword).length + (if ([] : List Keyword).isEmpty then 0 else 1) < 30)) = true := by rfl)
    (hline : (apos.endLine == cpos.line) = true := by rfl) (hs : starEach (e :: es) X.env = (false, eval e X.env) :: starEach es X.env := by rfl) (hplain : (backTo cpos (starEach es X.env)).any (·.1) = false := by rfl) :
    PE X (.Call (.Attribute o name apos) (e :: es) [] cpos) (tTBM X.K r to t) := by
  refine ⟨fun pins s σ H Q I h => ?_⟩
  refine wpAny_Call_method_late hbase hfew hline rfl (thn (ho.run pins s σ H _ I h) fun v s1 ⟨x, H1, I1, r1, ty, q1⟩ => ?_)
  have r0 := r1
  obtain ⟨a, vs, rfl, ob, hk, hc, hd⟩ := ty
  cases r1
  obtain ⟨ho1, _⟩ := (show ObjOk X.prog X.w H1 s1.heap a (.frz ob (.tup vs)) from I1.hok a _ hk)
  refine ⟨"tuple", id, PySem.F.plainAttrs_tuple, slot, hty, ⟨ob, ho1, hc⟩, fun b e => by cases e; exact ⟨ob, ho1, hd⟩, ?_⟩
  have hA := ha.run cpos pins s1 σ H1 _ I1 q1
  rw [hs] at hA ⊢
  refine Calls.callWith_builtin (by show (false || (backTo cpos (starEach es X.env)).any (·.1)) = false; rw [hplain] <;> rfl) (Calls.evalArgs_plain ?_)
  exact thn hA fun us s2 ⟨vs, H2, I2, r2, q2⟩ => hm pins s2 σ H2 _ vs _ us Q I2 r0 r2 q2
variable {W : WX} {fo : VE} {g : VA}
def mTIdx (l : List D) (xs : List D) (h : VH) : Option (D × VH) := (one xs).bind fun y => if (flatD y && l.all flatD) = true then (findF y l).map fun j => (.int (j : Nat), h) else none
def vTIdx (o : VE) (a : VA) : VE := fun s h => (o s h).bind fun p => match p.1 with
  | .ftup l => (a s p.2).bind fun q => lift (mTIdx l q.1 q.2)
  | _ => .bad
theorem qTIdx (ho : PE X o (gE X W fo)) (ha : PA X (e :: es) (gA X W g))
    (hbase : attributeBase o "index" X.env (eval o X.env) = eval o X.env := by rfl)
    (hfew : ((backTo cpos (starEach (e :: es) X.env)).all (fun x => !x.1) && (backToKw cpos (keywordEach [] X.env)).all (fun x => x.1.isSome)
      && decide ((e :: es).length + ([] : List Keyword).length + (if ([] : List Keyword).isEmpty then 0 else 1) < 30)) = true := by rfl)
    (hline : (apos.endLine == cpos.line) = true := by rfl) (hs : starEach (e :: es) X.env = (false, eval e X.env) :: starEach es X.env := by rfl) (hplain : (backTo cpos (starEach es X.env)).any (·.1) = false := by rfl) :
    PE X (.Call (.Attribute o "index" apos) (e :: es) [] cpos) (gE X W (vTIdx fo g)) :=
  PEw (pe_tbm PySem.F.slot_tuple_index PySem.F.type_tuple_index mt_tindex ho ha hbase hfew hline hs hplain) fun σ H Q ⟨w, s, hH, ok, sl, hp⟩ => by
    subst hH
    refine gE.seq ok sl (wE w Q) hp fun d w1 v ok1 x1 sl1 r1 hp1 => ?_
    simp only at hp1
    cases r1 with
    | @ftup a vs l hk rr =>
      refine ⟨⟨a, vs, rfl, hk⟩, ?_⟩
      simp only at hp1
      refine gA.seq ok1 sl1 ((wE w Q).mono x1) hp1 fun ds w2 us ok2 x2 sl2 r2 hp2 => ?_
      have hp3 := (PstE.lift hp2).mono (x1.trans x2)
      unfold mTIdx at hp3
      cases e2 : one ds with
      | none => rw [e2] at hp3; exact hp3.elim
      | some y =>
        obtain ⟨v, _, rfl, ry⟩ := one_rps r2 e2
        rw [e2] at hp3
        simp only [Option.bind_some] at hp3
        by_cases hf : (flatD y && l.all flatD) = true
        · rw [if_pos hf] at hp3
          rw [Bool.and_eq_true] at hf
          cases e3 : findF y l with
          | none => rw [e3] at hp3; exact hp3.elim
          | some j =>
            rw [e3] at hp3
            obtain ⟨d, g1, g2, g3⟩ := findF_is e3
            have rr2 := x2.rps rr
            obtain ⟨z, ez, rz⟩ := RepL.get rr2 g1
            have fl : ∀ {i : Nat} {e : D}, l[i]? = some e → flatD e = true := fun he => List.all_eq_true.mp hf.2 _ (List.mem_of_getElem? he)
            refine ⟨_, vs, v, j, z, rfl, rfl, (x2.tp _ _ hk).sq, flat_rp ry hf.1, all_flat rr2 hf.2, ez, by rw [eqF_rp rz ry (fl g1) hf.1]; exact g2, fun m z' hm hz' => ?_, hp3 w2 _ ok2 rfl (.refl w2) (.int _)⟩
            have hm' : m < l.length := by
              rw [RepL.length rr2]
              exact (List.getElem?_eq_some_iff.mp hz').1
            obtain ⟨u', eu, ru⟩ := RepL.get rr2 (List.getElem?_eq_getElem hm')
            rw [hz'] at eu
            cases eu
            rw [eqF_rp ru ry (fl (List.getElem?_eq_getElem hm')) hf.1]
            exact g3 m _ hm (List.getElem?_eq_getElem hm')
        · rw [if_neg hf] at hp3
          exact hp3.elim
    | _ => exact hp1.elim
end
section
variable {s : VS} {h : VH}
@[simp] theorem vTIdx_ap (o : VE) (a : VA) : vTIdx o a s h = (o s h).bind fun p => match p.1 with
  | .ftup l => (a s p.2).bind fun q => lift (mTIdx l q.1 q.2)
  | _ => .bad := rfl
@[simp] theorem bFz_r (n : Nat) : bFz [.ref n] h = ((lk h n).map .ftup).map fun d => (d, h) := rfl
@[simp] theorem seqOf_f (l : List D) : seqOf h (.ftup l) = some l := rfl
end
end Vq

/-! Part 26: dicts that nobody writes to: {}, {k: v}; repr of data with such. -/
namespace Vq
open PySem PySem.Spec PyProof.Rows L2
section
variable {X : Cx} {W : WX} {e k v : Expr} {fk fv : VE} {pos : Pos}
def tLockD (te : TE) : TE := fun σ H Q => te σ H fun v H1 => ∃ p kvs, v = .ref p ∧ H1 p = some (.dK kvs) ∧ ∀ ob, Q (.ref p) (upd H1 p (.frz ob (.dK kvs)))
theorem pe_lock {te : TE} (he : PE X e te) : PE X e (tLockD te) := ⟨fun pins s σ H Q I h => thn (he.run pins s σ H _ I h) fun u s1 ⟨v, H1, I1, r1, p, kvs, ev, hp, q⟩ => by
  subst ev
  obtain ⟨ob, I2⟩ := I1.lock hp True.intro
  exact ⟨.ref p, _, I2, r1, q ob⟩⟩
def vDic0 : VE := fun _ h => .ok (.dic [] [], h)
theorem qDic0 : PE X (.Dict [] [] pos) (gE X W vDic0) :=
  PEw (pe_lock pe_dnewK) fun σ H Q ⟨w, s, hH, ok, sl, hp⟩ => by
    subst hH
    intro p hn
    refine ⟨p, [], rfl, upd_same, fun ob => ?_⟩
    have ok1 := ok.tupAt (o := .dK []) hn
    have e1 : (w.tupAt p (.dK [])).H p = some (.dK []) := upd_same
    have ok2 := ok1.dkAt (o := .frz ob (.dK [])) e1
    exact hp _ (.ref p) ok2 rfl ((Wd.ext_tupAt hn).dkAt hn e1) (.dic ⟨rfl, ob, upd_same⟩ .nil)
def keyW : D → Option Key
  | .int i => some (.inl i)
  | .str s => some (.inr s)
  | _ => none
theorem keyW_rp {K : PySem.W.Frag} {w : Wd} {d : D} {v : V} {k : Key} (r : Rp K w d v) (e : keyW d = some k) : v = kV k := by
  cases r with
  | int i => cases e; rfl
  | str s => cases e; rfl
  | _ => cases e
def vDic1 (fk fv : VE) : VE := fun s h => (fk s h).bind fun p => match keyW p.1 with
  | some k => (fv s p.2).bind fun q => .ok (.dic [k] [q.1], q.2)
  | none => .bad
theorem qDic1 (hk : PE X k (gE X W fk)) (hv : PE X v (gE X W fv)) : PE X (.Dict [some k] [v] pos) (gE X W (vDic1 fk fv)) :=
  PEw (pe_lock (pe_disp (pps_cons hk hv pps_nil) rfl rfl (by simp) (by simp))) fun σ H Q ⟨w, s, hH, ok, sl, hp⟩ => by
    subst hH
    intro p hn
    have x1 : Wd.Ext X.K w (w.tupAt p (.dK [])) := Wd.ext_tupAt hn
    have ok1 := ok.tupAt (o := .dK []) hn
    have e1 : (w.tupAt p (.dK [])).H p = some (.dK []) := upd_same
    show gE X W fk σ (w.tupAt p (.dK [])).H _
    refine gE.seq ok1 (sl.ext x1) ((wE w Q).mono x1) hp fun d w2 v1 ok2 x2 sl2 r2 hp2 => ?_
    simp only at hp2
    cases ek : keyW d with
    | none => rw [ek] at hp2; exact hp2.elim
    | some kk =>
      rw [ek] at hp2
      have ev := keyW_rp r2 ek
      refine gE.seq ok2 sl2 ((wE w Q).mono (x1.trans x2)) hp2 fun d' w3 v2 ok3 x3 sl3 r3 hp3 => ?_
      have e3 : w3.H p = some (.dK []) := x3.dp _ _ (x2.dp _ _ e1)
      refine ⟨e3, [(kk, v2)], by rw [ev]; rfl, by simp, p, mergeK [] [(kk, v2)], rfl, upd_same, fun ob => ?_⟩
      have mk : mergeK [] [(kk, v2)] = [kk].zip [v2] := rfl
      have x13 := (x1.trans x2).trans x3
      have ok4 := ok3.dkAt (o := .dK (mergeK [] [(kk, v2)])) e3
      have e4 : (w3.tupAt p (.dK (mergeK [] [(kk, v2)]))).H p = some (.dK (mergeK [] [(kk, v2)])) := upd_same
      have ok5 := ok4.dkAt (o := .frz ob (.dK (mergeK [] [(kk, v2)]))) e4
      have x4 := x13.dkAt (o := .dK (mergeK [] [(kk, v2)])) hn e3
      refine hp3 _ (.ref p) ok5 rfl (x4.dkAt hn e4) (.dic ⟨rfl, ob, ?_⟩ (.cons (Wd.rp_dk e4 (Wd.rp_dk e3 r3)) .nil))
      rw [← mk]
      exact upd_same
end
/-! ### data with dicts -/
def keyPy : Key → PyData
  | .inl i => .int i
  | .inr s => .str s
def kzip (ks : List Key) (ds : List PyData) : List (PyData × PyData) := (ks.map keyPy).zip ds
mutual
inductive Dq (K : PySem.W.Frag) (H : Hp) : V → PyData → Prop
  | non : Dq K H .non .none
  | bl (b : Bool) : Dq K H (.bl b) (.bool b)
  | int (i : Int) : Dq K H (.int i) (.int i)
  | str (x : Str) : Dq K H (.str x) (.str x)
  | lst {a : Addr} {xs : List V} {ds : List PyData} : Rd H a (.lst xs) → DqAll K H xs ds → Dq K H (.ref a) (.list ds)
  | tup {a : Addr} {xs : List V} {ds : List PyData} : SqT K H a xs → DqAll K H xs ds → Dq K H (.ref a) (.tuple ds)
  | dic {a : Addr} {ks : List Key} {xs : List V} {ds : List PyData} : DkL H a ks xs → DqAll K H xs ds → Dq K H (.ref a) (.dict (kzip ks ds))
inductive DqAll (K : PySem.W.Frag) (H : Hp) : List V → List PyData → Prop
  | nil : DqAll K H [] []
  | cons {v : V} {vs : List V} {d : PyData} {ds : List PyData} : Dq K H v d → DqAll K H vs ds → DqAll K H (v :: vs) (d :: ds)
end
theorem DqAll.length {K : PySem.W.Frag} {H : Hp} : ∀ {vs : List V} {ds : List PyData}, DqAll K H vs ds → vs.length = ds.length
  | _, _, .nil => rfl
  | _, _, .cons _ r => congrArg (· + 1) r.length
section
variable {X : Cx} {pins : List (Addr × Obj)} {σ : L2.St} {H : Hp} {s : Shared}
theorem no_sys (hs : X.base.get? sysModules ≠ none) (I : Inv X pins σ H s) {a : Addr} (h : H a ≠ none) : sysModules ≠ a := by
  intro z
  cases e : X.base.get? sysModules with
  | none => exact hs e
  | some o => exact h (z ▸ (I.bs _ _ e).2)
theorem keys_read (I : Inv X pins σ H s) : ∀ {ks : List Key} {vs : List V} {us : List (Key × Value)} {es : List DictEntry}, ks.length = vs.length → KV (ks.zip vs) us → Pairs (mixKind X.prog X.w) es us →
    ReadsAll s.heap (es.map (·.key)) (ks.map keyPy) [] ∧ Vals vs (es.map (·.val))
  | [], [], _, _, _, k, p => by
    cases k
    cases p
    exact ⟨.nil, .nil⟩
  | kk :: ks, v :: vs, _, _, hl, k, p => by
    rw [List.zip_cons_cons] at k
    cases k with
    | @cons a b as bs h t =>
      cases p with
      | @cons en kv es kvs h1 h2 hp =>
        obtain ⟨r1, r2⟩ := keys_read I (by simpa using hl) t hp
        obtain ⟨g1, g2⟩ := h
        simp only at g1 g2
        refine ⟨?_, .cons (by show RelV v en.val; rw [h2]; exact g2) r2⟩
        rw [List.map_cons, List.map_cons]
        have h1 : keyIs b.1 en.key = true := h1
        rw [← g1] at h1
        have rk : Reads s.heap en.key (keyPy kk) [] := by
          rcases keyIs_shape h1 with ⟨i, t, rfl, e⟩ | ⟨x, t, rfl, e⟩
          · rw [e]
            exact Reads.int i t
          · rw [e]
            exact Reads.str x t
        have := ReadsAll.cons rk r1
        simpa using this
  | [], _ :: _, _, _, hl, _, _ => by simp at hl
  | _ :: _, [], _, _, hl, _, _ => by simp at hl
mutual
theorem Dq.reads (hsy : X.base.get? sysModules ≠ none) (I : Inv X pins σ H s) : ∀ {v : V} {d : PyData} {u : Value}, Dq X.K H v d → RelV v u → ∃ as, Reads s.heap u d as ∧ sysModules ∉ as
  | _, _, _, .non, r => by
    cases r
    exact ⟨_, Reads.none, List.not_mem_nil⟩
  | _, _, _, .bl b, r => by
    cases r
    exact ⟨_, Reads.bool b, List.not_mem_nil⟩
  | _, _, _, .int i, r => by
    obtain ⟨t, rfl⟩ := r
    exact ⟨_, Reads.int i t, List.not_mem_nil⟩
  | _, _, _, .str x, r => by
    obtain ⟨t, rfl⟩ := r
    exact ⟨_, Reads.str x t, List.not_mem_nil⟩
  | _, _, _, .lst hs ha, r => by
    cases r
    have hn := no_sys hsy I (by rcases hs with h | ⟨o, h⟩ <;> (rw [h]; exact fun z => nomatch z))
    obtain ⟨its, rv, ⟨o, n, ho, hc, _, hd⟩, _⟩ := I.list (.inl hs)
    obtain ⟨as, hr, hm⟩ := DqAll.reads hsy I ha rv
    refine ⟨_, Reads.list ho hc hd hr, fun z => ?_⟩
    rcases List.mem_cons.mp z with z | z
    · exact hn z
    · exact hm z
  | _, _, _, .tup hs ha, r => by
    cases r
    obtain ⟨its, rv, ⟨o, ho, hc, n, hd⟩, _⟩ := I.tuple hs
    obtain ⟨as, hr, hm⟩ := DqAll.reads hsy I ha rv
    exact ⟨_, Reads.tuple ho hc hd hr, hm⟩
  | _, _, _, @Dq.dic _ _ a ks xs ds h ha, r => by
    cases r
    obtain ⟨hl, ob, he⟩ := h
    have hn := no_sys hsy I (by rw [he]; exact fun z => nomatch z)
    obtain ⟨ho, _, _, us, kv, o, es, ep, h1, h2, h3, _, h5, _⟩ := (show ObjOk X.prog X.w H s.heap a (.frz ob (.dK (ks.zip xs))) from I.hok a _ he)
    obtain ⟨k1, k2⟩ := keys_read I hl kv h5
    obtain ⟨bs, hr, hm⟩ := DqAll.reads hsy I ha k2
    have le : (ks.map keyPy).length = ds.length := by
      rw [List.length_map, hl]
      exact DqAll.length ha
    have e1 : (kzip ks ds).map (·.1) = ks.map keyPy := by
      unfold kzip
      exact List.map_fst_zip (by omega)
    have e2 : (kzip ks ds).map (·.2) = ds := by
      unfold kzip
      exact List.map_snd_zip (by omega)
    refine ⟨_, Reads.dict (as := []) (bs := bs) h1 h2.1 h3 (by rw [e1]; exact k1) (by rw [e2]; exact hr), fun z => ?_⟩
    rcases List.mem_cons.mp z with z | z
    · exact hn z
    · exact hm (by simpa using z)
theorem DqAll.reads (hsy : X.base.get? sysModules ≠ none) (I : Inv X pins σ H s) : ∀ {vs : List V} {ds : List PyData} {us : List Value}, DqAll X.K H vs ds → Vals vs us → ∃ as, ReadsAll s.heap us ds as ∧ sysModules ∉ as
  | _, _, _, .nil, r => by
    cases r
    exact ⟨_, ReadsAll.nil, List.not_mem_nil⟩
  | _, _, _, .cons h1 h2, r => by
    cases r with
    | cons r1 r2 =>
      obtain ⟨as, q1, m1⟩ := Dq.reads hsy I h1 r1
      obtain ⟨bs, q2, m2⟩ := DqAll.reads hsy I h2 r2
      exact ⟨_, ReadsAll.cons q1 q2, fun z => (List.mem_append.mp z).elim m1 m2⟩
end
end
def reprOkQ (p : PyData) : Bool := p.showable && decide (p.depth ≤ 64) && decide (p.shown.length ≤ sizeLine)
def rReprQ (K : PySem.W.Frag) : List V → Hp → VK → Prop := fun xs H Q => ∃ a d, xs = [.ref a] ∧ Dq K H (.ref a) d ∧ reprOkQ d = true ∧ Q (.str d.shown) H
theorem cr_reprQ {X : Cx} (hsy : X.base.get? sysModules ≠ none) (hg : X.A.guards = some []) (hu : X.A.units + 70 < cLine) : CallR X (.builtin "repr") (rReprQ X.K) := by
  rintro pins s σ H vs us Q I r ⟨a, d, rfl, hd, hr, q⟩
  unfold reprOkQ at hr
  simp only [Bool.and_eq_true, decide_eq_true_eq] at hr
  obtain ⟨⟨h2, hdep⟩, h3⟩ := hr
  obtain ⟨u, rfl, rv⟩ := vals1 r
  cases rv
  obtain ⟨as, rds, hm⟩ := Dq.reads hsy I hd rfl
  exact repr_of_reads' rds h2 (fun _ => hm) hg (by omega) (fun b o e => e) (fun h' u tk hk => ⟨.str _, H, I.kept hk, ⟨_, rfl⟩, q⟩) h3
/-! ### .. as denoted -/
mutual
def pyQ (f : Nat → Option PyData) : D → Option PyData
  | .non => some .none
  | .bl b => some (.bool b)
  | .int i => some (.int i)
  | .str s => some (.str s)
  | .tup l => (pyQs f l).map .tuple
  | .ftup l => (pyQs f l).map .tuple
  | .dic ks l => (pyQs f l).map fun ds => .dict (kzip ks ds)
  | .ref n => f n
def pyQs (f : Nat → Option PyData) : List D → Option (List PyData)
  | [] => some []
  | d :: r => (pyQ f d).bind fun a => (pyQs f r).map fun b => a :: b
end
def lkL (h : VH) (n : Nat) : Option (List D) := match h[n]? with
  | some (.lst l) => some l
  | _ => none
def refQ (h : VH) : Nat → Nat → Option PyData
  | 0, _ => none
  | k + 1, n => (lkL h n).bind fun l => (pyQs (refQ h k) l).map .list
mutual
theorem pyQ_dq {K : PySem.W.Frag} {w : Wd} {f : Nat → Option PyData} (hf : ∀ n p, f n = some p → Dq K w.H (.ref (w.ι n)) p) : ∀ {d : D} {v : V} {p : PyData}, Rp K w d v → pyQ f d = some p → Dq K w.H v p
  | _, _, _, .non, e => by simp only [pyQ] at e; cases e; exact .non
  | _, _, _, .bl b, e => by simp only [pyQ] at e; cases e; exact .bl b
  | _, _, _, .int i, e => by simp only [pyQ] at e; cases e; exact .int i
  | _, _, _, .str s, e => by simp only [pyQ] at e; cases e; exact .str s
  | _, _, _, .tup h r, e => by
    simp only [pyQ] at e
    obtain ⟨ps, e1, rfl⟩ := Option.map_eq_some_iff.mp e
    exact .tup h (pyQs_dq hf r e1)
  | _, _, _, .ftup h r, e => by
    simp only [pyQ] at e
    obtain ⟨ps, e1, rfl⟩ := Option.map_eq_some_iff.mp e
    exact .tup h.sq (pyQs_dq hf r e1)
  | _, _, _, .dic h r, e => by
    simp only [pyQ] at e
    obtain ⟨ps, e1, rfl⟩ := Option.map_eq_some_iff.mp e
    exact .dic h (pyQs_dq hf r e1)
  | _, _, _, .ref _, e => by simp only [pyQ] at e; exact hf _ _ e
theorem pyQs_dq {K : PySem.W.Frag} {w : Wd} {f : Nat → Option PyData} (hf : ∀ n p, f n = some p → Dq K w.H (.ref (w.ι n)) p) : ∀ {d : List D} {v : List V} {p : List PyData}, Rps K w d v → pyQs f d = some p → DqAll K w.H v p
  | _, _, _, .nil, e => by simp only [pyQs] at e; cases e; exact .nil
  | _, _, _, .cons h r, e => by
    simp only [pyQs] at e
    obtain ⟨a, ea, e⟩ := Option.bind_eq_some_iff.mp e
    obtain ⟨b, eb, rfl⟩ := Option.map_eq_some_iff.mp e
    exact .cons (pyQ_dq hf h ea) (pyQs_dq hf r eb)
end
theorem refQ_dq {K : PySem.W.Frag} {w : Wd} (ok : w.Ok K) : ∀ (k n : Nat) (p : PyData), refQ w.h k n = some p → Dq K w.H (.ref (w.ι n)) p
  | 0, _, _, e => by cases e
  | k + 1, n, p, e => by
    simp only [refQ] at e
    obtain ⟨l, el, e⟩ := Option.bind_eq_some_iff.mp e
    obtain ⟨ps, ep, rfl⟩ := Option.map_eq_some_iff.mp e
    unfold lkL at el
    cases q : w.h[n]? with
    | none => rw [q] at el; cases el
    | some c =>
      rw [q] at el
      cases c with
      | lst l' =>
        cases el
        obtain ⟨vs, h1, h2⟩ := ok.cell n _ q
        exact .lst (.inl h1) (pyQs_dq (refQ_dq ok k) h2 ep)
      | _ => cases el
def isRef : D → Bool
  | .tup _ => true
  | .ftup _ => true
  | .dic _ _ => true
  | .ref _ => true
  | _ => false
theorem isRef_rp {K : PySem.W.Frag} {w : Wd} {d : D} {v : V} (r : Rp K w d v) (h : isRef d = true) : ∃ a, v = .ref a := by
  cases r <;> first | exact ⟨_, rfl⟩ | cases h
def bReprQ : List D → VH → Option (D × VH) := pureB fun l h => (one l).bind fun d => if isRef d = true then (pyQ (refQ h 6) d).bind fun p => if reprOkQ p = true then some (.str p.shown) else none else none
theorem reprQ_cd (K : PySem.W.Frag) : CallD K (rReprQ K) bReprQ := fun w xs vs Q ok r h => by
  unfold bReprQ pureB at h
  cases e1 : one xs with
  | none => simp only [e1] at h; exact h.elim
  | some d =>
    obtain ⟨v, _, rfl, rd⟩ := one_rps r e1
    simp only [e1, Option.bind_some] at h
    by_cases hr : isRef d = true
    · rw [if_pos hr] at h
      obtain ⟨a, rfl⟩ := isRef_rp rd hr
      cases e2 : pyQ (refQ w.h 6) d with
      | none => rw [e2] at h; exact h.elim
      | some p =>
        rw [e2] at h
        simp only [Option.bind_some] at h
        by_cases hok : reprOkQ p = true
        · rw [if_pos hok] at h
          exact ⟨a, p, rfl, pyQ_dq (refQ_dq ok 6) rd e2, hok, h w _ ok rfl (.refl w) (.str _)⟩
        · rw [if_neg hok] at h
          exact h.elim
    · rw [if_neg hr] at h
      exact h.elim
/-- repr of plain data, else of data with dicts -/
def bReprD : List D → VH → Option (D × VH) := fun l h => (bRepr l h).or (bReprQ l h)
def rReprD (K : PySem.W.Frag) : List V → Hp → VK → Prop := fun xs H Q => rRepr K xs H Q ∨ rReprQ K xs H Q
theorem cr_reprD {X : Cx} (hsy : X.base.get? sysModules ≠ none) (hg : X.A.guards = some []) (hu : X.A.units + 70 < cLine) : CallR X (.builtin "repr") (rReprD X.K) := by
  rintro pins s σ H vs us Q I r (h | h)
  · exact cr_repr hg hu pins s σ H vs us Q I r h
  · exact cr_reprQ hsy hg hu pins s σ H vs us Q I r h
theorem reprD_cd (K : PySem.W.Frag) : CallD K (rReprD K) bReprD := fun w xs vs Q ok r h => by
  unfold bReprD at h
  cases e : bRepr xs w.h with
  | some p =>
    refine .inl (repr_cd K w xs vs Q ok r ?_)
    rw [e, Option.some_or] at h
    rw [e]
    exact h
  | none =>
    refine .inr (reprQ_cd K w xs vs Q ok r ?_)
    rw [e, Option.none_or] at h
    exact h
section
variable {s : VS} {h : VH}
@[simp] theorem vDic0_ap : vDic0 s h = .ok (.dic [] [], h) := rfl
@[simp] theorem vDic1_ap (fk fv : VE) : vDic1 fk fv s h = (fk s h).bind fun p => match keyW p.1 with
  | some k => (fv s p.2).bind fun q => .ok (.dic [k] [q.1], q.2)
  | none => .bad := rfl
@[simp] theorem bReprD_ap (l : List D) : bReprD l h = (bRepr l h).or (bReprQ l h) := rfl
@[simp] theorem keyW_i (i : Int) : keyW (.int i) = some (.inl i) := rfl
@[simp] theorem keyW_s (x : Str) : keyW (.str x) = some (.inr x) := rfl
end
end Vq

/-! Part 27: shown texts are good texts; lists of equal texts are equal. -/
namespace Vq
open PySem PySem.Spec PyProof.Rows L2
theorem ok_of (s : String) : PyData.strOk (Str.ofString s) = true := by
  rw [Str.ofString_eq_toList]
  unfold PyData.strOk
  rw [← Array.all_toList]
  show (s.toList.map Char.toNat).all _ = true
  rw [List.all_map, List.all_eq_true]
  intro c _
  refine decide_eq_true ?_
  have := c.valid
  simp only [Function.comp, Char.toNat]
  have hv := c.valid
  unfold UInt32.isValidChar Nat.isValidChar at hv
  omega
theorem ok_app {a b : Str} (ha : PyData.strOk a = true) (hb : PyData.strOk b = true) : PyData.strOk (a ++ b) = true := by
  unfold PyData.strOk at *
  have e : (a ++ b).cps = a.cps ++ b.cps := rfl
  rw [e, Array.all_append, ha, hb]
  rfl
theorem ok_join {sep : Str} (hs : PyData.strOk sep = true) : ∀ {l : List Str}, (∀ t ∈ l, PyData.strOk t = true) → PyData.strOk (Str.join sep l) = true
  | [], _ => by
    show PyData.strOk Str.empty = true
    unfold PyData.strOk
    simp [Str.empty]
  | [x], h => h x (List.mem_singleton.mpr rfl)
  | x :: y :: r, h => by
    show PyData.strOk (x ++ sep ++ Str.join sep (y :: r)) = true
    exact ok_app (ok_app (h x (List.mem_cons_self ..)) hs) (ok_join hs fun t ht => h t (List.mem_cons_of_mem _ ht))
theorem ok_text : ∀ {l : List Str} {k : Nat} {acc : Str}, PyData.strOk acc = true → (∀ t ∈ l, PyData.strOk t = true) → PyData.strOk (textFrom k acc l) = true
  | [], _, _, ha, _ => ha
  | t :: r, k, acc, ha, h => by
    show PyData.strOk (textFrom (k + 1) (acc ++ (if k > 0 then ", " else "" : String) ++ t) r) = true
    exact ok_text (ok_app (ok_app ha (ok_of _)) (h t (List.mem_cons_self ..))) fun x hx => h x (List.mem_cons_of_mem _ hx)
mutual
/-- every text within is shown by a good text -/
def okS : PyData → Bool
  | .none => true
  | .bool _ => true
  | .int _ => true
  | .str x => PyData.strOk (reprText x)
  | .list l => okSs l
  | .tuple l => okSs l
  | .dict kvs => okSk kvs
def okSs : List PyData → Bool
  | [] => true
  | d :: r => okS d && okSs r
def okSk : List (PyData × PyData) → Bool
  | [] => true
  | (k, v) :: r => okS k && okS v && okSk r
end
mutual
theorem ok_shown : ∀ d : PyData, okS d = true → PyData.strOk d.shown = true
  | .none, _ => ok_of _
  | .bool b, _ => by
    cases b
    · exact ok_of _
    · exact ok_of _
  | .int i, _ => ok_of _
  | .str x, h => by
    simp only [okS] at h
    exact h
  | .list l, h => by
    simp only [okS] at h
    simp only [PyData.shown, listText]
    exact ok_app (ok_text (ok_of _) (ok_shownAll l h)) (ok_of _)
  | .tuple l, h => by
    simp only [okS] at h
    simp only [PyData.shown, tupleText]
    exact ok_app (ok_app (ok_of _) (ok_join (ok_of _) (ok_shownAll l h))) (ok_of _)
  | .dict kvs, h => by
    simp only [okS] at h
    simp only [PyData.shown, dictText]
    exact ok_app (ok_app (ok_of _) (ok_join (ok_of _) (ok_shownKv kvs h))) (ok_of _)
theorem ok_shownAll : ∀ l : List PyData, okSs l = true → ∀ t ∈ PyData.shownAll l, PyData.strOk t = true
  | [], _ => by
    simp only [PyData.shownAll]
    exact fun t ht => absurd ht List.not_mem_nil
  | d :: r, h => by
    simp only [okSs, Bool.and_eq_true] at h
    simp only [PyData.shownAll]
    intro t ht
    rcases List.mem_cons.mp ht with e | e
    · rw [e]
      exact ok_shown d h.1
    · exact ok_shownAll r h.2 t e
theorem ok_shownKv : ∀ l : List (PyData × PyData), okSk l = true → ∀ t ∈ PyData.shownKv l, PyData.strOk t = true
  | [], _ => by
    simp only [PyData.shownKv]
    exact fun t ht => absurd ht List.not_mem_nil
  | (k, v) :: r, h => by
    simp only [okSk, Bool.and_eq_true] at h
    simp only [PyData.shownKv]
    intro t ht
    rcases List.mem_cons.mp ht with e | e
    · rw [e]
      exact ok_app (ok_app (ok_shown k h.1.1) (ok_of _)) (ok_shown v h.1.2)
    · exact ok_shownKv r h.2 t e
end
/-! ### lists of texts -/
theorem pyL_strs (f : Nat → Option PyData) : ∀ a : List Str, pyL f (a.map .str) = some (a.map .str)
  | [] => by simp [pyL]
  | x :: r => by
    simp only [List.map_cons, pyL, pyD, pyL_strs f r]
    rfl
theorem eqv_strs : ∀ a b : List Str, PyData.eqvAll (a.map .str) (b.map .str) = decide (a = b)
  | [], [] => by simp [PyData.eqvAll]
  | [], _ :: _ => by simp [PyData.eqvAll]
  | _ :: _, [] => by simp [PyData.eqvAll]
  | x :: r, y :: s => by
    simp only [List.map_cons, PyData.eqvAll, eqv_strs r s, List.cons.injEq, Bool.decide_and, PyData.eqv]
    congr 1
theorem lay_strs : ∀ {a : List Str}, (∀ x ∈ a, PyData.strOk x = true) → PyData.canLayAll0 (a.map .str) = true ∧ PyData.depthAll (a.map PyData.str) = 0
  | [], _ => by simp [PyData.canLayAll0, PyData.depthAll]
  | x :: r, h => by
    obtain ⟨h1, h2⟩ := lay_strs (a := r) fun y hy => h y (List.mem_cons_of_mem _ hy)
    simp only [List.map_cons, PyData.canLayAll0, PyData.depthAll, PyData.canLay0, PyData.depth, h1, h2, h x (List.mem_cons_self ..)]
    simp
theorem eqStrs (neg : Bool) {h : VH} {n m : Nat} {a b : List Str} (e1 : lk h n = some (a.map .str)) (e2 : lk h m = some (b.map .str)) (ha : ∀ x ∈ a, PyData.strOk x = true) (hb : ∀ x ∈ b, PyData.strOk x = true) :
    eqWith neg (.ref n) (.ref m) h = some (.bl (if neg then !decide (a = b) else decide (a = b)), h) := by
  have p1 := py_ref (ps := a.map .str) e1 fun f => pyL_strs f a
  have p2 := py_ref (ps := b.map .str) e2 fun f => pyL_strs f b
  have sh : ∀ {a : List Str}, (∀ x ∈ a, PyData.strOk x = true) → SeqAt.shaped (.list (a.map .str)) = true := fun {a} h => by
    obtain ⟨h1, h2⟩ := lay_strs h
    unfold SeqAt.shaped
    have g1 : PyData.canLay0 (.list (a.map .str)) = true := by
      simp only [PyData.canLay0]
      exact h1
    have g2 : PyData.depth (.list (a.map .str)) ≤ 64 := by
      simp only [PyData.depth, h2]
      decide
    rw [g1, decide_eq_true g2]
    rfl
  have e : PyData.eqv (.list (a.map .str)) (.list (b.map .str)) = decide (a = b) := by
    simp only [PyData.eqv]
    exact eqv_strs a b
  unfold eqWith
  simp only [p1, p2, sh ha, sh hb, Bool.and_self, if_true, e]
theorem dEq_strs {h : VH} {n m : Nat} {a b : List Str} (e1 : lk h n = some (a.map .str)) (e2 : lk h m = some (b.map .str)) (ha : ∀ x ∈ a, PyData.strOk x = true) (hb : ∀ x ∈ b, PyData.strOk x = true) :
    dEq (.ref n) (.ref m) h = some (.bl (decide (a = b)), h) := eqStrs false e1 e2 ha hb
theorem dNe_strs {h : VH} {n m : Nat} {a b : List Str} (e1 : lk h n = some (a.map .str)) (e2 : lk h m = some (b.map .str)) (ha : ∀ x ∈ a, PyData.strOk x = true) (hb : ∀ x ∈ b, PyData.strOk x = true) :
    dNe (.ref n) (.ref m) h = some (.bl (!decide (a = b)), h) := eqStrs true e1 e2 ha hb
end Vq

/-! Part 28: what may be shown, dicts and lists within; the text stays while the heap grows. -/
namespace Vq
open PySem PySem.Spec PyProof.Rows L2
mutual
/-- may be shown, by a good text -/
def gdQ : PyData → Bool
  | .none => true
  | .bool _ => true
  | .int i => decide (i.natAbs.log2 < 1920)
  | .str x => PyData.strOk x && PyData.strOk (reprText x)
  | .list l => gdQs l
  | .tuple l => gdQs l
  | .dict kvs => gdQk kvs
def gdQs : List PyData → Bool
  | [] => true
  | d :: r => gdQ d && gdQs r
def gdQk : List (PyData × PyData) → Bool
  | [] => true
  | (k, v) :: r => gdQ k && gdQ v && gdQk r
end
mutual
def szQ : PyData → Nat
  | .none => 1
  | .bool _ => 1
  | .int _ => 1
  | .str x => x.length + 1
  | .list l => szQs l + 1
  | .tuple l => szQs l + 1
  | .dict kvs => szQk kvs + 1
def szQs : List PyData → Nat
  | [] => 0
  | x :: r => szQ x + szQs r
def szQk : List (PyData × PyData) → Nat
  | [] => 0
  | (k, v) :: r => szQ k + szQ v + szQk r
end
mutual
theorem gd_ok : ∀ d : PyData, gdQ d = true → d.showable = true ∧ okS d = true ∧ d.shown.length + 2 ≤ 2000 * szQ d
  | .none, _ => ⟨rfl, rfl, by simp only [PyData.shown, szQ]; decide⟩
  | .bool b, _ => ⟨rfl, rfl, by
    simp only [PyData.shown, szQ]
    cases b <;> decide⟩
  | .int i, h => by
    have h' : i.natAbs.log2 < 1920 := by simpa only [gdQ, decide_eq_true_eq] using h
    refine ⟨by simpa only [PyData.showable, gdQ] using h, rfl, ?_⟩
    have h1 := int_text_length_le (a := i) (k := 1920) (by decide) h'
    have h2 : (Str.ofString (toString i)).length = (toString i).length := PySem.ofString_length _
    simp only [PyData.shown, szQ]
    rw [h2]
    omega
  | .str x, h => by
    simp only [gdQ, Bool.and_eq_true] at h
    refine ⟨rfl, by simp only [okS]; exact h.2, ?_⟩
    simp only [PyData.shown, szQ]
    have h1 : (reprText x).length ≤ 10 * x.length + 2 := StrLaws.reprText_len x fun c hc => by
      have h := h.1
      unfold PyData.strOk at h
      have h' := (Array.all_eq_true'.mp h) c (by simpa using hc)
      have h' : c < 0x110000 := by simpa using h'
      exact Nat.lt_trans h' (by decide)
    omega
  | .list l, h => by
    simp only [gdQ] at h
    obtain ⟨i1, i2, ih⟩ := gd_oks l h
    refine ⟨by simp only [PyData.showable]; exact i1, by simp only [okS]; exact i2, ?_⟩
    simp only [PyData.shown, szQ]
    cases l with
    | nil =>
      simp only [PyData.shownAll, szQs]
      decide
    | cons a r =>
      unfold listText
      rw [strLen_app]
      have z := textFrom_length_pos (PyData.shownAll (a :: r)) 1 "[" (by decide)
      have q : (textFrom 0 "[" (PyData.shownAll (a :: r))).length + 2 = (textFrom 1 "[" (PyData.shownAll (a :: r))).length := by
        simp only [PyData.shownAll, textFrom]
        rw [textFrom_length_pos _ 1 _ (by decide), textFrom_length_pos _ 2 _ (by decide)]
        simp only [strLen_app]
        have e1 : (Str.ofString (if 0 > 0 then ", " else "")).length = 0 := by decide
        have e2 : (Str.ofString (if 1 > 0 then ", " else "")).length = 2 := by decide
        omega
      have e3 : (Str.ofString "]").length = 1 := by decide
      have e4 : (Str.ofString "[").length = 1 := by decide
      omega
  | .tuple l, h => by
    simp only [gdQ] at h
    obtain ⟨i1, i2, ih⟩ := gd_oks l h
    refine ⟨by simp only [PyData.showable]; exact i1, by simp only [okS]; exact i2, ?_⟩
    simp only [PyData.shown, szQ]
    unfold tupleText
    simp only [strLen_app]
    have e4 : (Str.ofString "(").length = 1 := by decide
    have e5 : (Str.ofString (if ((PyData.shownAll l).length == 1) = true then ",)" else ")")).length ≤ 2 := by
      split <;> decide
    cases l with
    | nil =>
      simp only [PyData.shownAll, szQs] at *
      have : (Str.join ", " []).length = 0 := by decide
      omega
    | cons a r =>
      have z := join_length_add (PyData.shownAll (a :: r)) (by simp [PyData.shownAll])
      omega
  | .dict kvs, h => by
    simp only [gdQ] at h
    obtain ⟨i1, i2, ih⟩ := gd_okk kvs h
    refine ⟨by simp only [PyData.showable]; exact i1, by simp only [okS]; exact i2, ?_⟩
    simp only [PyData.shown, szQ]
    unfold dictText
    simp only [strLen_app]
    have e4 : (Str.ofString "{").length = 1 := by decide
    have e5 : (Str.ofString "}").length = 1 := by decide
    cases kvs with
    | nil =>
      simp only [PyData.shownKv, szQk] at *
      have : (Str.join ", " []).length = 0 := by decide
      omega
    | cons a r =>
      obtain ⟨k, v⟩ := a
      have z := join_length_add (PyData.shownKv ((k, v) :: r)) (by simp [PyData.shownKv])
      omega
theorem gd_oks : ∀ l : List PyData, gdQs l = true → PyData.showableAll l = true ∧ okSs l = true ∧ piled (PyData.shownAll l) ≤ 2000 * szQs l
  | [], _ => ⟨rfl, rfl, by simp only [PyData.shownAll, szQs]; decide⟩
  | a :: r, h => by
    simp only [gdQs, Bool.and_eq_true] at h
    obtain ⟨a1, a2, a3⟩ := gd_ok a h.1
    obtain ⟨b1, b2, b3⟩ := gd_oks r h.2
    refine ⟨by simp only [PyData.showableAll, a1, b1, Bool.and_self], by simp only [okSs, a2, b2, Bool.and_self], ?_⟩
    simp only [PyData.shownAll, szQs, piled_cons]
    omega
theorem gd_okk : ∀ l : List (PyData × PyData), gdQk l = true → PyData.showableKv l = true ∧ okSk l = true ∧ piled (PyData.shownKv l) ≤ 2000 * szQk l
  | [], _ => ⟨rfl, rfl, by simp only [PyData.shownKv, szQk]; decide⟩
  | (k, v) :: r, h => by
    simp only [gdQk, Bool.and_eq_true] at h
    obtain ⟨a1, a2, a3⟩ := gd_ok k h.1.1
    obtain ⟨c1, c2, c3⟩ := gd_ok v h.1.2
    obtain ⟨b1, b2, b3⟩ := gd_okk r h.2
    refine ⟨by simp only [PyData.showableKv, a1, c1, b1, Bool.and_self], by simp only [okSk, a2, c2, b2, Bool.and_self], ?_⟩
    simp only [PyData.shownKv, szQk, piled_cons, strLen_app]
    have e : (Str.ofString ": ").length = 2 := by decide
    omega
end
/-! ### it stays -/
mutual
theorem pyQ_mono {f g : Nat → Option PyData} (hf : ∀ n p, f n = some p → g n = some p) : ∀ {d : D} {p : PyData}, pyQ f d = some p → pyQ g d = some p
  | .non, _, e => by simpa only [pyQ] using e
  | .bl _, _, e => by simpa only [pyQ] using e
  | .int _, _, e => by simpa only [pyQ] using e
  | .str _, _, e => by simpa only [pyQ] using e
  | .tup l, _, e => by
    simp only [pyQ] at e ⊢
    obtain ⟨ps, e1, rfl⟩ := Option.map_eq_some_iff.mp e
    rw [pyQs_mono hf e1]
    rfl
  | .ftup l, _, e => by
    simp only [pyQ] at e ⊢
    obtain ⟨ps, e1, rfl⟩ := Option.map_eq_some_iff.mp e
    rw [pyQs_mono hf e1]
    rfl
  | .dic ks l, _, e => by
    simp only [pyQ] at e ⊢
    obtain ⟨ps, e1, rfl⟩ := Option.map_eq_some_iff.mp e
    rw [pyQs_mono hf e1]
    rfl
  | .ref _, _, e => by
    simp only [pyQ] at e ⊢
    exact hf _ _ e
theorem pyQs_mono {f g : Nat → Option PyData} (hf : ∀ n p, f n = some p → g n = some p) : ∀ {l : List D} {p : List PyData}, pyQs f l = some p → pyQs g l = some p
  | [], _, e => by simpa only [pyQs] using e
  | d :: r, _, e => by
    simp only [pyQs] at e ⊢
    obtain ⟨a, ea, e⟩ := Option.bind_eq_some_iff.mp e
    obtain ⟨b, eb, rfl⟩ := Option.map_eq_some_iff.mp e
    rw [pyQ_mono hf ea, Option.bind_some, pyQs_mono hf eb]
    rfl
end
/-- the lists of h are lists of h' with the same items -/
def Lists (h h' : VH) : Prop := ∀ n l, lkL h n = some l → lkL h' n = some l
theorem Grow.lists {h h' : VH} (g : Grow h h') : Lists h h' := fun n l e => by
  obtain ⟨x, rfl⟩ := g
  unfold lkL at e ⊢
  cases q : h[n]? with
  | none => rw [q] at e; cases e
  | some c =>
    rw [q] at e
    rw [List.getElem?_append_left (List.getElem?_eq_some_iff.mp q).1, q]
    exact e
theorem refQ_mono {h h' : VH} (g : Lists h h') : ∀ (k n : Nat) (p : PyData), refQ h k n = some p → refQ h' k n = some p
  | 0, _, _, e => by cases e
  | k + 1, n, p, e => by
    simp only [refQ] at e ⊢
    obtain ⟨l, el, e⟩ := Option.bind_eq_some_iff.mp e
    obtain ⟨ps, ep, rfl⟩ := Option.map_eq_some_iff.mp e
    rw [g n l el, Option.bind_some, pyQs_mono (refQ_mono g k) ep]
    rfl
/-! ### both ways tell the same -/
mutual
theorem py_same {f g : Nat → Option PyData} (hf : ∀ n p q, f n = some p → g n = some q → p = q) : ∀ {d : D} {p q : PyData}, pyD f d = some p → pyQ g d = some q → p = q
  | .non, _, _, e, u => by simp only [pyD, pyQ] at e u; rw [← Option.some.inj e, ← Option.some.inj u]
  | .bl _, _, _, e, u => by simp only [pyD, pyQ] at e u; rw [← Option.some.inj e, ← Option.some.inj u]
  | .int _, _, _, e, u => by simp only [pyD, pyQ] at e u; rw [← Option.some.inj e, ← Option.some.inj u]
  | .str _, _, _, e, u => by simp only [pyD, pyQ] at e u; rw [← Option.some.inj e, ← Option.some.inj u]
  | .tup l, _, _, e, u => by
    simp only [pyD, pyQ] at e u
    obtain ⟨ps, e1, rfl⟩ := Option.map_eq_some_iff.mp e
    obtain ⟨qs, u1, rfl⟩ := Option.map_eq_some_iff.mp u
    rw [pys_same hf e1 u1]
  | .ftup l, _, _, e, u => by
    simp only [pyD, pyQ] at e u
    obtain ⟨ps, e1, rfl⟩ := Option.map_eq_some_iff.mp e
    obtain ⟨qs, u1, rfl⟩ := Option.map_eq_some_iff.mp u
    rw [pys_same hf e1 u1]
  | .dic ks l, _, _, e, _ => by simp only [pyD] at e; cases e
  | .ref _, _, _, e, u => by
    simp only [pyD, pyQ] at e u
    exact hf _ _ _ e u
theorem pys_same {f g : Nat → Option PyData} (hf : ∀ n p q, f n = some p → g n = some q → p = q) : ∀ {l : List D} {p q : List PyData}, pyL f l = some p → pyQs g l = some q → p = q
  | [], _, _, e, u => by simp only [pyL, pyQs] at e u; rw [← Option.some.inj e, ← Option.some.inj u]
  | d :: r, _, _, e, u => by
    simp only [pyL, pyQs] at e u
    obtain ⟨a, ea, e⟩ := Option.bind_eq_some_iff.mp e
    obtain ⟨b, eb, rfl⟩ := Option.map_eq_some_iff.mp e
    obtain ⟨a', ea', u⟩ := Option.bind_eq_some_iff.mp u
    obtain ⟨b', eb', rfl⟩ := Option.map_eq_some_iff.mp u
    rw [py_same hf ea ea', pys_same hf eb eb']
end
theorem ref_same {h : VH} : ∀ (j k n : Nat) (p q : PyData), refPy h j n = some p → refQ h k n = some q → p = q
  | 0, _, _, _, _, e, _ => by cases e
  | _ + 1, 0, _, _, _, _, u => by cases u
  | j + 1, k + 1, n, p, q, e, u => by
    simp only [refPy, refQ] at e u
    obtain ⟨l, el, e⟩ := Option.bind_eq_some_iff.mp e
    obtain ⟨ps, ep, rfl⟩ := Option.map_eq_some_iff.mp e
    obtain ⟨l', el', u⟩ := Option.bind_eq_some_iff.mp u
    obtain ⟨qs, eq, rfl⟩ := Option.map_eq_some_iff.mp u
    have : l = l' := by
      unfold lk at el
      unfold lkL at el'
      cases c : h[n]? with
      | none => rw [c] at el; cases el
      | some c' =>
        rw [c] at el el'
        cases c' with
        | lst x => cases el; cases el'; rfl
        | ro x => cases el'
    subst this
    rw [pys_same (ref_same j k) ep eq]
/-- d is shown as t, now and while the lists stay -/
def Sh (h : VH) (d : D) (t : Str) : Prop := PyData.strOk t = true ∧ ∀ h', Lists h h' → bReprD [d] h' = some (.str t, h')
theorem Sh.at {h : VH} {d : D} {t : Str} (s : Sh h d t) {h' : VH} (g : Lists h h') : Sh h' d t := ⟨s.1, fun h2 g2 => s.2 h2 fun n l e => g2 n l (g n l e)⟩
theorem sh_is {h : VH} {d : D} {p : PyData} (e : pyQ (refQ h 6) d = some p) (g : gdQ p = true) (hd : p.depth ≤ 64) (hs : szQ p ≤ 8000) : Sh h d p.shown := by
  obtain ⟨g1, g2, g3⟩ := gd_ok p g
  have hz : p.shown.length ≤ sizeLine := le_line (by omega)
  refine ⟨ok_shown p g2, fun h' l => ?_⟩
  have e' : pyQ (refQ h' 6) d = some p := pyQ_mono (refQ_mono l 6) e
  rw [bReprD_ap]
  cases eb : bRepr [d] h' with
  | some r =>
    unfold bRepr pureB at eb
    simp only [one_1, Option.bind_some] at eb
    obtain ⟨q, eq, rfl⟩ := Option.map_eq_some_iff.mp eb
    obtain ⟨p', ep, eq⟩ := Option.bind_eq_some_iff.mp eq
    have : p' = p := py_same (ref_same 6 6) ep e'
    subst this
    by_cases c : reprOk p' = true
    · rw [if_pos c] at eq
      cases eq
      rfl
    · rw [if_neg c] at eq
      cases eq
  | none =>
    rw [Option.none_or]
    have hr : isRef d = true := by
      cases d with
      | tup _ => rfl
      | ftup _ => rfl
      | dic _ _ => rfl
      | ref _ => rfl
      | non =>
        exfalso
        have := repr_D pl_non (by decide) (by decide) h'
        rw [this] at eb
        cases eb
      | bl b =>
        exfalso
        have := repr_D (pl_bl b) (by decide) (by cases b <;> decide) h'
        rw [this] at eb
        cases eb
      | int i =>
        exfalso
        simp only [pyQ] at e
        cases e
        have gi : i.natAbs.log2 < 1920 := by simpa only [gdQ, decide_eq_true_eq] using g
        have := repr_D (pl_int gi) (by decide) (by rw [sz_int]; decide) h'
        rw [this] at eb
        cases eb
      | str x =>
        exfalso
        simp only [pyQ] at e
        cases e
        simp only [gdQ, Bool.and_eq_true] at g
        have q := pl_str g.1
        have hsz : sz (.str x) ≤ 8000 := hs
        have := repr_D q (by decide) hsz h'
        rw [this] at eb
        cases eb
    have ok : reprOkQ p = true := by
      unfold reprOkQ
      rw [g1, decide_eq_true hd, decide_eq_true hz]
      rfl
    unfold bReprQ pureB
    simp only [one_1, Option.bind_some, hr, if_true, e', ok, Option.map_some]
theorem sh_of {h : VH} {d : D} {p : PyData} (e : pyQ (refQ h 6) d = some p) (g : gdQ p = true) (hd : p.depth ≤ 64) (hs : szQ p ≤ 8000) : ∃ t, Sh h d t := ⟨_, sh_is e g hd hs⟩
end Vq

/-! Part 29: str of an int. -/
namespace Vq
open PySem PySem.Spec PyProof.Rows L2
def bStr : List D → VH → Option (D × VH) := pureB fun l _ => match one l with
  | some (.int i) => if i.natAbs.log2 < 1920 then some (.str (toString i)) else none
  | _ => none
theorem str_cd (K : PySem.W.Frag) : CallD K (fun xs H Q => ∃ i, xs = [.int i] ∧ i.natAbs.log2 < 1920 ∧ Q (.str (toString i)) H) bStr := cd_pure fun w xs vs d Q ok r e q => by
  cases e1 : one xs with
  | none => rw [e1] at e; cases e
  | some d =>
    obtain ⟨v, _, rfl, rd⟩ := one_rps r e1
    rw [e1] at e
    cases rd with
    | int i =>
      simp only at e
      by_cases h : i.natAbs.log2 < 1920
      · rw [if_pos h] at e
        cases e
        exact ⟨i, rfl, h, q _ (.str _)⟩
      · rw [if_neg h] at e
        cases e
    | _ => cases e
theorem bStr_i {i : Int} (hi : i.natAbs.log2 < 1920) (h : VH) : bStr [.int i] h = some (.str (toString i), h) := by
  unfold bStr pureB
  simp [hi]
end Vq

namespace K35
open PySem PySem.Spec PyProof.Rows L2 Vq
def topS (i : Nat) : Stmt := PySem.Challenge.pw_comparenets_k35_whole_gap_papers.main.body.getD i (.Pass ⟨0, 0, 0, 0⟩)
abbrev s_is_number : Stmt := topS 2
abbrev N_is_number : List Str := ["value"]
abbrev P_is_number : List Str := ["value"]
theorem sc_is_number : FnScope N_is_number P_is_number (defScope s_is_number) := ⟨rfl, rfl, rfl, by decide +kernel, rfl, by decide +kernel, by decide +kernel⟩
abbrev s_is_within : Stmt := topS 3
abbrev N_is_within : List Str := ["value", "low", "high"]
abbrev P_is_within : List Str := ["value", "low", "high"]
theorem sc_is_within : FnScope N_is_within P_is_within (defScope s_is_within) := ⟨rfl, rfl, rfl, by decide +kernel, rfl, by decide +kernel, by decide +kernel⟩
abbrev s_greatest_divisor : Stmt := topS 5
abbrev N_greatest_divisor : List Str := ["one", "other"]
abbrev P_greatest_divisor : List Str := ["one", "other"]
theorem sc_greatest_divisor : FnScope N_greatest_divisor P_greatest_divisor (defScope s_greatest_divisor) := ⟨rfl, rfl, rfl, by decide +kernel, rfl, by decide +kernel, by decide +kernel⟩
abbrev s_gap_paper : Stmt := topS 6
abbrev N_gap_paper : List Str := ["h", "k", "d", "common", "x"]
abbrev P_gap_paper : List Str := ["h", "k", "d"]
theorem sc_gap_paper : FnScope N_gap_paper P_gap_paper (defScope s_gap_paper) := ⟨rfl, rfl, rfl, by decide +kernel, rfl, by decide +kernel, by decide +kernel⟩
abbrev s_is_sum_form : Stmt := topS 7
abbrev N_is_sum_form : List Str := ["value", "item"]
abbrev P_is_sum_form : List Str := ["value"]
theorem sc_is_sum_form : FnScope N_is_sum_form P_is_sum_form (defScope s_is_sum_form) := ⟨rfl, rfl, rfl, by decide +kernel, rfl, by decide +kernel, by decide +kernel⟩
abbrev s_over_fault : Stmt := topS 8
abbrev N_over_fault : List Str := ["h", "k", "d", "x"]
abbrev P_over_fault : List Str := ["h", "k", "d", "x"]
theorem sc_over_fault : FnScope N_over_fault P_over_fault (defScope s_over_fault) := ⟨rfl, rfl, rfl, by decide +kernel, rfl, by decide +kernel, by decide +kernel⟩
abbrev s_gap_paper_error : Stmt := topS 9
abbrev N_gap_paper_error : List Str := ["h", "k", "d", "value", "word", "told", "total"]
abbrev P_gap_paper_error : List Str := ["h", "k", "d", "value"]
theorem sc_gap_paper_error : FnScope N_gap_paper_error P_gap_paper_error (defScope s_gap_paper_error) := ⟨rfl, rfl, rfl, by decide +kernel, rfl, by decide +kernel, by decide +kernel⟩
abbrev s_law_own_bag : Stmt := topS 11
abbrev N_law_own_bag : List Str := ["script", "cells", "mixed", "cell"]
abbrev P_law_own_bag : List Str := ["script"]
theorem sc_law_own_bag : FnScope N_law_own_bag P_law_own_bag (defScope s_law_own_bag) := ⟨rfl, rfl, rfl, by decide +kernel, rfl, by decide +kernel, by decide +kernel⟩
abbrev s_law_draw : Stmt := topS 12
abbrev N_law_draw : List Str := ["bag", "below", "cell", "found"]
abbrev P_law_draw : List Str := ["bag", "below"]
theorem sc_law_draw : FnScope N_law_draw P_law_draw (defScope s_law_draw) := ⟨rfl, rfl, rfl, by decide +kernel, rfl, by decide +kernel, by decide +kernel⟩
abbrev s_law_pick : Stmt := topS 13
abbrev N_law_pick : List Str := ["bag", "some"]
abbrev P_law_pick : List Str := ["bag", "some"]
theorem sc_law_pick : FnScope N_law_pick P_law_pick (defScope s_law_pick) := ⟨rfl, rfl, rfl, by decide +kernel, rfl, by decide +kernel, by decide +kernel⟩
abbrev s_law_great : Stmt := topS 14
abbrev N_law_great : List Str := ["bag", "found", "turn"]
abbrev P_law_great : List Str := ["bag"]
theorem sc_law_great : FnScope N_law_great P_law_great (defScope s_law_great) := ⟨rfl, rfl, rfl, by decide +kernel, rfl, by decide +kernel, by decide +kernel⟩
abbrev s_law_is_within : Stmt := topS 15
abbrev N_law_is_within : List Str := ["value", "low"]
abbrev P_law_is_within : List Str := ["value", "low"]
theorem sc_law_is_within : FnScope N_law_is_within P_law_is_within (defScope s_law_is_within) := ⟨rfl, rfl, rfl, by decide +kernel, rfl, by decide +kernel, by decide +kernel⟩
abbrev s_law_divisors : Stmt := topS 16
abbrev N_law_divisors : List Str := ["h", "k", "g"]
abbrev P_law_divisors : List Str := ["h", "k"]
theorem sc_law_divisors : FnScope N_law_divisors P_law_divisors (defScope s_law_divisors) := ⟨rfl, rfl, rfl, by decide +kernel, rfl, by decide +kernel, by decide +kernel⟩
abbrev s_law_own_sort : Stmt := topS 17
abbrev N_law_own_sort : List Str := ["h", "k", "d", "a", "g"]
abbrev P_law_own_sort : List Str := ["h", "k", "d"]
theorem sc_law_own_sort : FnScope N_law_own_sort P_law_own_sort (defScope s_law_own_sort) := ⟨rfl, rfl, rfl, by decide +kernel, rfl, by decide +kernel, by decide +kernel⟩
abbrev s_law_is_of_form : Stmt := topS 18
abbrev N_law_is_of_form : List Str := ["value", "own", "one"]
abbrev P_law_is_of_form : List Str := ["value"]
theorem sc_law_is_of_form : FnScope N_law_is_of_form P_law_is_of_form (defScope s_law_is_of_form) := ⟨rfl, rfl, rfl, by decide +kernel, rfl, by decide +kernel, by decide +kernel⟩
abbrev s_law_due : Stmt := topS 19
abbrev N_law_due : List Str := ["case", "value", "h", "k", "d", "common", "total", "x"]
abbrev P_law_due : List Str := ["case", "value"]
theorem sc_law_due : FnScope N_law_due P_law_due (defScope s_law_due) := ⟨rfl, rfl, rfl, by decide +kernel, rfl, by decide +kernel, by decide +kernel⟩
abbrev s_law_own_sums : Stmt := topS 20
abbrev N_law_own_sums : List Str := ["bag", "case", "h", "k", "d", "common", "found", "first", "a", "b", "turn", "one", "other"]
abbrev P_law_own_sums : List Str := ["bag", "case"]
theorem sc_law_own_sums : FnScope N_law_own_sums P_law_own_sums (defScope s_law_own_sums) := ⟨rfl, rfl, rfl, by decide +kernel, rfl, by decide +kernel, by decide +kernel⟩
abbrev s_law_own_rests : Stmt := topS 21
abbrev N_law_own_rests : List Str := ["bag", "case", "h", "k", "d", "common", "found", "g"]
abbrev P_law_own_rests : List Str := ["bag", "case"]
theorem sc_law_own_rests : FnScope N_law_own_rests P_law_own_rests (defScope s_law_own_rests) := ⟨rfl, rfl, rfl, by decide +kernel, rfl, by decide +kernel, by decide +kernel⟩
abbrev s_law_own_overs : Stmt := topS 22
abbrev N_law_own_overs : List Str := ["bag", "case", "h", "k", "d", "common", "round_of", "right", "found", "x"]
abbrev P_law_own_overs : List Str := ["bag", "case"]
theorem sc_law_own_overs : FnScope N_law_own_overs P_law_own_overs (defScope s_law_own_overs) := ⟨rfl, rfl, rfl, by decide +kernel, rfl, by decide +kernel, by decide +kernel⟩
abbrev s_law_over : Stmt := topS 23
abbrev N_law_over : List Str := ["bag", "g", "h", "k", "round_of", "xs", "x"]
abbrev P_law_over : List Str := ["bag"]
theorem sc_law_over : FnScope N_law_over P_law_over (defScope s_law_over) := ⟨rfl, rfl, rfl, by decide +kernel, rfl, by decide +kernel, by decide +kernel⟩
abbrev s_law_triples : Stmt := topS 24
abbrev N_law_triples : List Str := ["bag", "h", "k", "great", "found", "own", "common", "last", "g"]
abbrev P_law_triples : List Str := ["bag"]
theorem sc_law_triples : FnScope N_law_triples P_law_triples (defScope s_law_triples) := ⟨rfl, rfl, rfl, by decide +kernel, rfl, by decide +kernel, by decide +kernel⟩
abbrev s_law_is_paper_right : Stmt := topS 25
abbrev N_law_is_paper_right : List Str := ["h", "k", "d", "common", "case", "due", "told", "own", "some", "value"]
abbrev P_law_is_paper_right : List Str := ["h", "k", "d", "common"]
theorem sc_law_is_paper_right : FnScope N_law_is_paper_right P_law_is_paper_right (defScope s_law_is_paper_right) := ⟨rfl, rfl, rfl, by decide +kernel, rfl, by decide +kernel, by decide +kernel⟩
abbrev s_law : Stmt := topS 26
abbrev N_law : List Str := ["script", "bag", "h", "k", "d", "case", "some", "kept", "number", "value", "due"]
abbrev P_law : List Str := ["script"]
theorem sc_law : FnScope N_law P_law (defScope s_law) := ⟨rfl, rfl, rfl, by decide +kernel, rfl, by decide +kernel, by decide +kernel⟩
/-- what the text's top has made -/
structure Txt (K : PySem.W.Frag) (mg : Str → Option Value) where
  a_is_number : Addr
  d_is_number : FuncData
  g_is_number : mg "is_number" = some (.ref a_is_number)
  k_is_number : PySem.W.keepIn K (.ref a_is_number) = true
  f_is_number : Fun K "is_number" "is_number" s_is_number a_is_number d_is_number
  b_is_number : BindP K d_is_number P_is_number
  a_is_within : Addr
  d_is_within : FuncData
  g_is_within : mg "is_within" = some (.ref a_is_within)
  k_is_within : PySem.W.keepIn K (.ref a_is_within) = true
  f_is_within : Fun K "is_within" "is_within" s_is_within a_is_within d_is_within
  b_is_within : BindP K d_is_within P_is_within
  a_greatest_divisor : Addr
  d_greatest_divisor : FuncData
  g_greatest_divisor : mg "greatest_divisor" = some (.ref a_greatest_divisor)
  k_greatest_divisor : PySem.W.keepIn K (.ref a_greatest_divisor) = true
  f_greatest_divisor : Fun K "greatest_divisor" "greatest_divisor" s_greatest_divisor a_greatest_divisor d_greatest_divisor
  b_greatest_divisor : BindP K d_greatest_divisor P_greatest_divisor
  a_gap_paper : Addr
  d_gap_paper : FuncData
  g_gap_paper : mg "gap_paper" = some (.ref a_gap_paper)
  k_gap_paper : PySem.W.keepIn K (.ref a_gap_paper) = true
  f_gap_paper : Fun K "gap_paper" "gap_paper" s_gap_paper a_gap_paper d_gap_paper
  b_gap_paper : BindP K d_gap_paper P_gap_paper
  a_is_sum_form : Addr
  d_is_sum_form : FuncData
  g_is_sum_form : mg "is_sum_form" = some (.ref a_is_sum_form)
  k_is_sum_form : PySem.W.keepIn K (.ref a_is_sum_form) = true
  f_is_sum_form : Fun K "is_sum_form" "is_sum_form" s_is_sum_form a_is_sum_form d_is_sum_form
  b_is_sum_form : BindP K d_is_sum_form P_is_sum_form
  a_over_fault : Addr
  d_over_fault : FuncData
  g_over_fault : mg "over_fault" = some (.ref a_over_fault)
  k_over_fault : PySem.W.keepIn K (.ref a_over_fault) = true
  f_over_fault : Fun K "over_fault" "over_fault" s_over_fault a_over_fault d_over_fault
  b_over_fault : BindP K d_over_fault P_over_fault
  a_gap_paper_error : Addr
  d_gap_paper_error : FuncData
  g_gap_paper_error : mg "gap_paper_error" = some (.ref a_gap_paper_error)
  k_gap_paper_error : PySem.W.keepIn K (.ref a_gap_paper_error) = true
  f_gap_paper_error : Fun K "gap_paper_error" "gap_paper_error" s_gap_paper_error a_gap_paper_error d_gap_paper_error
  b_gap_paper_error : BindP K d_gap_paper_error P_gap_paper_error
  a_law_own_bag : Addr
  d_law_own_bag : FuncData
  g_law_own_bag : mg "_law_own_bag" = some (.ref a_law_own_bag)
  k_law_own_bag : PySem.W.keepIn K (.ref a_law_own_bag) = true
  f_law_own_bag : Fun K "_law_own_bag" "_law_own_bag" s_law_own_bag a_law_own_bag d_law_own_bag
  b_law_own_bag : BindP K d_law_own_bag P_law_own_bag
  a_law_draw : Addr
  d_law_draw : FuncData
  g_law_draw : mg "_law_draw" = some (.ref a_law_draw)
  k_law_draw : PySem.W.keepIn K (.ref a_law_draw) = true
  f_law_draw : Fun K "_law_draw" "_law_draw" s_law_draw a_law_draw d_law_draw
  b_law_draw : BindP K d_law_draw P_law_draw
  a_law_pick : Addr
  d_law_pick : FuncData
  g_law_pick : mg "_law_pick" = some (.ref a_law_pick)
  k_law_pick : PySem.W.keepIn K (.ref a_law_pick) = true
  f_law_pick : Fun K "_law_pick" "_law_pick" s_law_pick a_law_pick d_law_pick
  b_law_pick : BindP K d_law_pick P_law_pick
  a_law_great : Addr
  d_law_great : FuncData
  g_law_great : mg "_law_great" = some (.ref a_law_great)
  k_law_great : PySem.W.keepIn K (.ref a_law_great) = true
  f_law_great : Fun K "_law_great" "_law_great" s_law_great a_law_great d_law_great
  b_law_great : BindP K d_law_great P_law_great
  a_law_is_within : Addr
  d_law_is_within : FuncData
  g_law_is_within : mg "_law_is_within" = some (.ref a_law_is_within)
  k_law_is_within : PySem.W.keepIn K (.ref a_law_is_within) = true
  f_law_is_within : Fun K "_law_is_within" "_law_is_within" s_law_is_within a_law_is_within d_law_is_within
  b_law_is_within : BindP K d_law_is_within P_law_is_within
  a_law_divisors : Addr
  d_law_divisors : FuncData
  g_law_divisors : mg "_law_divisors" = some (.ref a_law_divisors)
  k_law_divisors : PySem.W.keepIn K (.ref a_law_divisors) = true
  f_law_divisors : Fun K "_law_divisors" "_law_divisors" s_law_divisors a_law_divisors d_law_divisors
  b_law_divisors : BindP K d_law_divisors P_law_divisors
  a_law_own_sort : Addr
  d_law_own_sort : FuncData
  g_law_own_sort : mg "_law_own_sort" = some (.ref a_law_own_sort)
  k_law_own_sort : PySem.W.keepIn K (.ref a_law_own_sort) = true
  f_law_own_sort : Fun K "_law_own_sort" "_law_own_sort" s_law_own_sort a_law_own_sort d_law_own_sort
  b_law_own_sort : BindP K d_law_own_sort P_law_own_sort
  a_law_is_of_form : Addr
  d_law_is_of_form : FuncData
  g_law_is_of_form : mg "_law_is_of_form" = some (.ref a_law_is_of_form)
  k_law_is_of_form : PySem.W.keepIn K (.ref a_law_is_of_form) = true
  f_law_is_of_form : Fun K "_law_is_of_form" "_law_is_of_form" s_law_is_of_form a_law_is_of_form d_law_is_of_form
  b_law_is_of_form : BindP K d_law_is_of_form P_law_is_of_form
  a_law_due : Addr
  d_law_due : FuncData
  g_law_due : mg "_law_due" = some (.ref a_law_due)
  k_law_due : PySem.W.keepIn K (.ref a_law_due) = true
  f_law_due : Fun K "_law_due" "_law_due" s_law_due a_law_due d_law_due
  b_law_due : BindP K d_law_due P_law_due
  a_law_own_sums : Addr
  d_law_own_sums : FuncData
  g_law_own_sums : mg "_law_own_sums" = some (.ref a_law_own_sums)
  k_law_own_sums : PySem.W.keepIn K (.ref a_law_own_sums) = true
  f_law_own_sums : Fun K "_law_own_sums" "_law_own_sums" s_law_own_sums a_law_own_sums d_law_own_sums
  b_law_own_sums : BindP K d_law_own_sums P_law_own_sums
  a_law_own_rests : Addr
  d_law_own_rests : FuncData
  g_law_own_rests : mg "_law_own_rests" = some (.ref a_law_own_rests)
  k_law_own_rests : PySem.W.keepIn K (.ref a_law_own_rests) = true
  f_law_own_rests : Fun K "_law_own_rests" "_law_own_rests" s_law_own_rests a_law_own_rests d_law_own_rests
  b_law_own_rests : BindP K d_law_own_rests P_law_own_rests
  a_law_own_overs : Addr
  d_law_own_overs : FuncData
  g_law_own_overs : mg "_law_own_overs" = some (.ref a_law_own_overs)
  k_law_own_overs : PySem.W.keepIn K (.ref a_law_own_overs) = true
  f_law_own_overs : Fun K "_law_own_overs" "_law_own_overs" s_law_own_overs a_law_own_overs d_law_own_overs
  b_law_own_overs : BindP K d_law_own_overs P_law_own_overs
  a_law_over : Addr
  d_law_over : FuncData
  g_law_over : mg "_law_over" = some (.ref a_law_over)
  k_law_over : PySem.W.keepIn K (.ref a_law_over) = true
  f_law_over : Fun K "_law_over" "_law_over" s_law_over a_law_over d_law_over
  b_law_over : BindP K d_law_over P_law_over
  a_law_triples : Addr
  d_law_triples : FuncData
  g_law_triples : mg "_law_triples" = some (.ref a_law_triples)
  k_law_triples : PySem.W.keepIn K (.ref a_law_triples) = true
  f_law_triples : Fun K "_law_triples" "_law_triples" s_law_triples a_law_triples d_law_triples
  b_law_triples : BindP K d_law_triples P_law_triples
  a_law_is_paper_right : Addr
  d_law_is_paper_right : FuncData
  g_law_is_paper_right : mg "_law_is_paper_right" = some (.ref a_law_is_paper_right)
  k_law_is_paper_right : PySem.W.keepIn K (.ref a_law_is_paper_right) = true
  f_law_is_paper_right : Fun K "_law_is_paper_right" "_law_is_paper_right" s_law_is_paper_right a_law_is_paper_right d_law_is_paper_right
  b_law_is_paper_right : BindP K d_law_is_paper_right P_law_is_paper_right
  a_law : Addr
  d_law : FuncData
  g_law : mg "law" = some (.ref a_law)
  k_law : PySem.W.keepIn K (.ref a_law) = true
  f_law : Fun K "law" "law" s_law a_law d_law
  b_law : BindP K d_law P_law
  n_abs : mg "abs" = none
  n_all : mg "all" = none
  n_any : mg "any" = none
  n_bool : mg "bool" = none
  n_enumerate : mg "enumerate" = none
  n_int : mg "int" = none
  n_isinstance : mg "isinstance" = none
  n_len : mg "len" = none
  n_list : mg "list" = none
  n_max : mg "max" = none
  n_min : mg "min" = none
  n_range : mg "range" = none
  n_repr : mg "repr" = none
  n_reversed : mg "reversed" = none
  n_str : mg "str" = none
  n_tuple : mg "tuple" = none
  c_MAX_NUMBER : ∃ t, mg "MAX_NUMBER" = some (.int 1000000000000000000000000000000 t)
variable {P : Program} {w : World} {K : PySem.W.Frag} {mg : Str → Option Value} {base : Heap} [SysIn base]
theorem kw0 (T : Txt K mg) : BindK T.d_gap_paper P_gap_paper ["h", "k", "d"] 0 (permL [0, 1, 2]) := bindK_of T.f_gap_paper ["h", "k", "d"] 0 [0, 1, 2] fun _ _ _ _ _ _ us ws h1 h2 => match us, ws, h1, h2 with | [], [_, _, _], _, _ => rfl
theorem kw1 (T : Txt K mg) : BindK T.d_gap_paper_error P_gap_paper_error ["h", "k", "d", "value"] 0 (permL [0, 1, 2, 3]) := bindK_of T.f_gap_paper_error ["h", "k", "d", "value"] 0 [0, 1, 2, 3] fun _ _ _ _ _ _ us ws h1 h2 => match us, ws, h1, h2 with | [], [_, _, _, _], _, _ => rfl
def m_is_number : VSt :=
  (vRet (vAnd (vIsi "int" (vVar 0)) (vNot (vIsi "bool" (vVar 0)))))
theorem ok_is_number (T : Txt K mg) : FnG P w K mg base 1 T.a_is_number T.d_is_number P_is_number (mF 1 (m_is_number)) :=
  fnG_of T.f_is_number sc_is_number fun cdv A outer s H E a =>
    (qsOne (qRet (qAnd (qIsi T.n_isinstance T.n_int (qV (i := 0) rfl (.inl rfl))) (qOne (qNot (qIsi T.n_isinstance T.n_bool (qV (i := 0) rfl (.inl rfl))))))))
def m_is_within (F_is_number : Fn) : VSt :=
  (vRet (vAnd (vCall 1 F_is_number (vCons (vVar 0) vNil)) (vChain aLe aLe (vVar 1) (vVar 0) (vVar 2))))
theorem ok_is_within (T : Txt K mg) {F_is_number : Fn} (G_is_number : FnG P w K mg base 1 T.a_is_number T.d_is_number P_is_number F_is_number) : FnG P w K mg base 2 T.a_is_within T.d_is_within P_is_within (mF 3 (m_is_within F_is_number)) :=
  fnG_of T.f_is_within sc_is_within fun cdv A outer s H E a =>
    (qsOne (qRet (qAnd (qCall G_is_number (a.mono (by decide)) T.g_is_number T.k_is_number T.b_is_number (qa (qV (i := 0) rfl (.inl rfl)) qa0)) (qOne (qChain op_le (le_ii _) op_le (le_ii _) (qV (i := 1) rfl (.inl rfl)) (qV (i := 0) rfl (.inl rfl)) (qV (i := 2) rfl (.inl rfl)))))))
def T1_greatest_divisor : VT :=
  (vTr (vOp dNe (vVar 1) (vC (.int 0))))
def B1_greatest_divisor : VSt :=
  (vPar 0 1 (vCons (vVar 1) (vCons (vOp aMod (vVar 0) (vVar 1)) vNil)))
def L1_greatest_divisor : VSt :=
  (vWhile 1000000 T1_greatest_divisor B1_greatest_divisor)
def m_greatest_divisor : VSt :=
  (vSeq L1_greatest_divisor
    (vRet (vVar 0)))
theorem ok_greatest_divisor (T : Txt K mg) : FnG P w K mg base 1 T.a_greatest_divisor T.d_greatest_divisor P_greatest_divisor (mF 2 (m_greatest_divisor)) :=
  fnG_of T.f_greatest_divisor sc_greatest_divisor fun cdv A outer s H E a =>
    (qsCons (qWhile 1000000 a.ps (qCmT (ne_opr a.hu) (ne_opd _) (qV (i := 1) rfl (.inl rfl)) qI) (qsOne (qPar2 (i := 0) (j := 1) rfl sc_greatest_divisor.nd (qa (qV (i := 1) rfl (.inl rfl)) (qa (qOp op_modN (mod_ii _) (qV (i := 0) rfl (.inl rfl)) (qV (i := 1) rfl (.inl rfl))) qa0)))))
    (qsOne (qRet (qV (i := 0) rfl (.inl rfl)))))
def T1_gap_paper (F_greatest_divisor : Fn) : VT :=
  (vTr (vOp dNe (vOp aMod (vOp aSub (vOp dMul (vVar 4) (vVar 0)) (vVar 2)) (vVar 1)) (vC (.int 0))))
def B1_gap_paper (F_greatest_divisor : Fn) : VSt :=
  (vAsg (vOp dAdd (vVar 4) (vC (.int 1))) (gName 4))
def L1_gap_paper (F_greatest_divisor : Fn) : VSt :=
  (vWhile 1000000 (T1_gap_paper F_greatest_divisor) (B1_gap_paper F_greatest_divisor))
def S1_gap_paper (F_greatest_divisor : Fn) : VSt :=
  (vAsg (vC (.int 0)) (gName 4))
def S2_gap_paper (F_greatest_divisor : Fn) : VSt :=
  (vIfS (vTr (vOp dNe (vOp aMod (vVar 2) (vVar 3)) (vC (.int 0)))) (vRet (vTup (vCons (vC (.str (Str.ofString "rest"))) (vCons (vVar 3) vNil)))) vPass)
def S3_gap_paper (F_greatest_divisor : Fn) : VSt :=
  (vAsg (vCall 2 F_greatest_divisor (vCons (vVar 0) (vCons (vVar 1) vNil))) (gName 3))
def m_gap_paper (F_greatest_divisor : Fn) : VSt :=
  (vSeq (S3_gap_paper F_greatest_divisor)
    (vSeq (S2_gap_paper F_greatest_divisor)
    (vSeq (S1_gap_paper F_greatest_divisor)
    (vSeq (L1_gap_paper F_greatest_divisor)
    (vRet (vIf (vTr (vOp aGt (vOp dMul (vVar 4) (vVar 0)) (vVar 2))) (vTup (vCons (vC (.str (Str.ofString "over"))) (vCons (vVar 4) vNil))) (vTup (vCons (vC (.str (Str.ofString "sum"))) (vCons (vTup (vCons (vVar 4) (vCons (vOp aFdv (vOp aSub (vVar 2) (vOp dMul (vVar 4) (vVar 0))) (vVar 1)) vNil))) vNil)))))))))
theorem ok_gap_paper (T : Txt K mg) {F_greatest_divisor : Fn} (G_greatest_divisor : FnG P w K mg base 1 T.a_greatest_divisor T.d_greatest_divisor P_greatest_divisor F_greatest_divisor) : FnG P w K mg base 2 T.a_gap_paper T.d_gap_paper P_gap_paper (mF 5 (m_gap_paper F_greatest_divisor)) :=
  fnG_of T.f_gap_paper sc_gap_paper fun cdv A outer s H E a =>
    (qsCons (qSet (i := 3) sc_gap_paper.nd (qCall G_greatest_divisor (a.mono (by decide)) T.g_greatest_divisor T.k_greatest_divisor T.b_greatest_divisor (qa (qV (i := 0) rfl (.inl rfl)) (qa (qV (i := 1) rfl (.inl rfl)) qa0))) rfl (.inl rfl))
    (qsCons (qIfS (qCmT (ne_opr a.hu) (ne_opd _) (qOp op_modN (mod_ii _) (qV (i := 2) rfl (.inl rfl)) (qV (i := 3) rfl (.inl rfl))) qI) (qsOne (qRet (qTup (qa qS (qa (qV (i := 3) rfl (.inl rfl)) qa0))))) qsNil)
    (qsCons (qSet (i := 4) sc_gap_paper.nd qI rfl (.inl rfl))
    (qsCons (qWhile 1000000 a.ps (qCmT (ne_opr a.hu) (ne_opd _) (qOp op_modN (mod_ii _) (qOp op_sub (sub_ii _) (qOp mul_opr (mul_opd _) (qV (i := 4) rfl (.inl rfl)) (qV (i := 0) rfl (.inl rfl))) (qV (i := 2) rfl (.inl rfl))) (qV (i := 1) rfl (.inl rfl))) qI) (qsOne (qSet (i := 4) sc_gap_paper.nd (qOp add_opr (add_opd _) (qV (i := 4) rfl (.inl rfl)) qI) rfl (.inl rfl))))
    (qsOne (qRet (qIf (qCmT op_gt (gt_ii _) (qOp mul_opr (mul_opd _) (qV (i := 4) rfl (.inl rfl)) (qV (i := 0) rfl (.inl rfl))) (qV (i := 2) rfl (.inl rfl))) (qTup (qa qS (qa (qV (i := 4) rfl (.inl rfl)) qa0))) (qTup (qa qS (qa (qTup (qa (qV (i := 4) rfl (.inl rfl)) (qa (qOp fdv_opr (fdv_ii _) (qOp op_sub (sub_ii _) (qV (i := 2) rfl (.inl rfl)) (qOp mul_opr (mul_opd _) (qV (i := 4) rfl (.inl rfl)) (qV (i := 0) rfl (.inl rfl)))) (qV (i := 1) rfl (.inl rfl))) qa0))) qa0))))))))))
def E1_is_sum_form (F_is_within : Fn) : VE :=
  (vCall 3 F_is_within (vCons (vVar 1) (vCons (vC (.int 0)) (vCons (vC (.int 1000000000000000000000000000000)) vNil))))
def C1_is_sum_form (F_is_within : Fn) : VE :=
  (vLc (vIt (vVar 0)) [1] (pN 1) vYes (E1_is_sum_form F_is_within))
def m_is_sum_form (F_is_within : Fn) : VSt :=
  (vRet (vAnd (vIsi "tuple" (vVar 0)) (vAnd (vOp dEq (vBl bLen (vCons (vVar 0) vNil)) (vC (.int 2))) (vBl bAll (vCons (C1_is_sum_form F_is_within) vNil)))))
theorem ok_is_sum_form (T : Txt K mg) {F_is_within : Fn} (G_is_within : FnG P w K mg base 2 T.a_is_within T.d_is_within P_is_within F_is_within) : FnG P w K mg base 3 T.a_is_sum_form T.d_is_sum_form P_is_sum_form (mF 2 (m_is_sum_form F_is_within)) :=
  fnG_of T.f_is_sum_form sc_is_sum_form fun cdv A outer s H E a =>
    (qsOne (qRet (qAnd (qIsi T.n_isinstance T.n_tuple (qV (i := 0) rfl (.inl rfl))) (qAnd (qCm (eq_opr a.hu) (eq_opd _) (qBl call_len (len_cd _) T.n_len (qa (qV (i := 0) rfl (.inl rfl)) qa0)) qI) (qOne (qBl (cr_all rfl) (all_cd _) T.n_all (qa (qLc (own := [("item", 1)]) rfl sc_is_sum_form.nd (qIt (qV (i := 0) rfl (.inl rfl))) (blkOk_by (N := N_is_sum_form) (sc := defScope s_is_sum_form) (own := [("item", 1)]) (by decide +kernel)) (tgd_name (by decide)) (fun _ _ _ _ _ => (pg_name (i := 1) sc_is_sum_form.nd rfl (.inl rfl))) (fun _ _ _ _ _ => (qYes _ _)) (fun _ _ _ _ _ => (qCall G_is_within (a.blk.mono (by decide)) T.g_is_within T.k_is_within T.b_is_within (qa (qV (i := 1) rfl (.inl rfl)) (qa qI (qa (qGi T.c_MAX_NUMBER) qa0)))))) qa0)))))))
def S1_over_fault (F_greatest_divisor : Fn) : VSt :=
  (vIfS (vTr (vOp dNe (vOp aMod (vOp aSub (vOp dMul (vVar 3) (vVar 0)) (vVar 2)) (vVar 1)) (vC (.int 0)))) (vRet (vC (.str (Str.ofString "rest")))) vPass)
def S2_over_fault (F_greatest_divisor : Fn) : VSt :=
  (vIfS (vTr (vOp aGe (vOp dMul (vVar 3) (vCall 2 F_greatest_divisor (vCons (vVar 0) (vCons (vVar 1) vNil)))) (vVar 1))) (vRet (vC (.str (Str.ofString "great")))) vPass)
def m_over_fault (F_greatest_divisor : Fn) : VSt :=
  (vSeq (S2_over_fault F_greatest_divisor)
    (vSeq (S1_over_fault F_greatest_divisor)
    (vRet (vIf (vTr (vOp aLe (vOp dMul (vVar 3) (vVar 0)) (vVar 2))) (vC (.str (Str.ofString "told"))) (vC .non)))))
theorem ok_over_fault (T : Txt K mg) {F_greatest_divisor : Fn} (G_greatest_divisor : FnG P w K mg base 1 T.a_greatest_divisor T.d_greatest_divisor P_greatest_divisor F_greatest_divisor) : FnG P w K mg base 2 T.a_over_fault T.d_over_fault P_over_fault (mF 4 (m_over_fault F_greatest_divisor)) :=
  fnG_of T.f_over_fault sc_over_fault fun cdv A outer s H E a =>
    (qsCons (qIfS (qCmT op_ge (ge_ii _) (qOp mul_opr (mul_opd _) (qV (i := 3) rfl (.inl rfl)) (qCall G_greatest_divisor (a.mono (by decide)) T.g_greatest_divisor T.k_greatest_divisor T.b_greatest_divisor (qa (qV (i := 0) rfl (.inl rfl)) (qa (qV (i := 1) rfl (.inl rfl)) qa0)))) (qV (i := 1) rfl (.inl rfl))) (qsOne (qRet qS)) qsNil)
    (qsCons (qIfS (qCmT (ne_opr a.hu) (ne_opd _) (qOp op_modN (mod_ii _) (qOp op_sub (sub_ii _) (qOp mul_opr (mul_opd _) (qV (i := 3) rfl (.inl rfl)) (qV (i := 0) rfl (.inl rfl))) (qV (i := 2) rfl (.inl rfl))) (qV (i := 1) rfl (.inl rfl))) qI) (qsOne (qRet qS)) qsNil)
    (qsOne (qRet (qIf (qCmT op_le (le_ii _) (qOp mul_opr (mul_opd _) (qV (i := 3) rfl (.inl rfl)) (qV (i := 0) rfl (.inl rfl))) (qV (i := 2) rfl (.inl rfl))) qS qN)))))
def S1_gap_paper_error (F_is_within F_over_fault F_is_sum_form : Fn) : VSt :=
  (vIfS (vOrT (vTr (vOp dNe (vOp aMod (vVar 0) (vVar 5)) (vC (.int 0)))) (vTr (vOp dNe (vOp aMod (vVar 1) (vVar 5)) (vC (.int 0))))) (vRet (vC (.str (Str.ofString "divides")))) vPass)
def S2_gap_paper_error (F_is_within F_over_fault F_is_sum_form : Fn) : VSt :=
  (vIfS (vOrT (vTr (vOp dNe (vVar 4) (vC (.str (Str.ofString "rest"))))) (vNotT (vTr (vCall 3 F_is_within (vCons (vVar 5) (vCons (vC (.int 1)) (vCons (vC (.int 1000000000000000000000000000000)) vNil))))))) (vRet (vC (.str (Str.ofString "form")))) vPass)
def S3_gap_paper_error (F_is_within F_over_fault F_is_sum_form : Fn) : VSt :=
  (vIfS (vAndT (vTr (vOp dEq (vVar 4) (vC (.str (Str.ofString "over"))))) (vTr (vCall 3 F_is_within (vCons (vVar 5) (vCons (vC (.int 0)) (vCons (vC (.int 1000000000000000000000000000000)) vNil)))))) (vRet (vCall 4 F_over_fault (vCons (vVar 0) (vCons (vVar 1) (vCons (vVar 2) (vCons (vVar 5) vNil)))))) vPass)
def S4_gap_paper_error (F_is_within F_over_fault F_is_sum_form : Fn) : VSt :=
  (vIfS (vAndT (vTr (vOp dEq (vVar 4) (vC (.str (Str.ofString "sum"))))) (vTr (vCall 1 F_is_sum_form (vCons (vVar 5) vNil)))) (vSeq (vAsg (vOp dAdd (vOp dMul (vOp dIx (vVar 5) (vC (.int 0))) (vVar 0)) (vOp dMul (vOp dIx (vVar 5) (vC (.int 1))) (vVar 1))) (gName 6))
    (vRet (vIf (vTr (vOp dNe (vVar 6) (vVar 2))) (vTup (vCons (vC (.str (Str.ofString "sum"))) (vCons (vVar 6) vNil))) (vC .non)))) vPass)
def S5_gap_paper_error (F_is_within F_over_fault F_is_sum_form : Fn) : VSt :=
  (vAsg (vVar 3) (gTupl 2 (gsCons (gName 4) (gsCons (gName 5) gsNil))))
def S6_gap_paper_error (F_is_within F_over_fault F_is_sum_form : Fn) : VSt :=
  (vIfS (vOrT (vNotT (vTr (vIsi "tuple" (vVar 3)))) (vOrT (vTr (vOp dNe (vBl bLen (vCons (vVar 3) vNil)) (vC (.int 2)))) (vNotT (vTr (vIsi "str" (vOp dIx (vVar 3) (vC (.int 0)))))))) (vRet (vC (.str (Str.ofString "form")))) vPass)
def m_gap_paper_error (F_is_within F_over_fault F_is_sum_form : Fn) : VSt :=
  (vSeq (S6_gap_paper_error F_is_within F_over_fault F_is_sum_form)
    (vSeq (S5_gap_paper_error F_is_within F_over_fault F_is_sum_form)
    (vSeq (S4_gap_paper_error F_is_within F_over_fault F_is_sum_form)
    (vSeq (S3_gap_paper_error F_is_within F_over_fault F_is_sum_form)
    (vSeq (S2_gap_paper_error F_is_within F_over_fault F_is_sum_form)
    (vSeq (S1_gap_paper_error F_is_within F_over_fault F_is_sum_form)
    (vRet (vIf (vTr (vOp dEq (vOp aMod (vVar 2) (vVar 5)) (vC (.int 0)))) (vC (.str (Str.ofString "told"))) (vC .non)))))))))
theorem ok_gap_paper_error (T : Txt K mg) {F_is_within F_over_fault F_is_sum_form : Fn} (G_is_within : FnG P w K mg base 2 T.a_is_within T.d_is_within P_is_within F_is_within) (G_over_fault : FnG P w K mg base 2 T.a_over_fault T.d_over_fault P_over_fault F_over_fault) (G_is_sum_form : FnG P w K mg base 3 T.a_is_sum_form T.d_is_sum_form P_is_sum_form F_is_sum_form) : FnG P w K mg base 4 T.a_gap_paper_error T.d_gap_paper_error P_gap_paper_error (mF 7 (m_gap_paper_error F_is_within F_over_fault F_is_sum_form)) :=
  fnG_of T.f_gap_paper_error sc_gap_paper_error fun cdv A outer s H E a =>
    (qsCons (qIfS (PW.pt (qOrT (qNotT (qT (qIsi T.n_isinstance T.n_tuple (qV (i := 3) rfl (.inl rfl))))) (qOrT (qCmT (ne_opr a.hu) (ne_opd _) (qBl call_len (len_cd _) T.n_len (qa (qV (i := 3) rfl (.inl rfl)) qa0)) qI) (qOr1 (qNotT (qT (qIsi T.n_isinstance T.n_str (qIx ix_seq (ix_opd _) (qV (i := 3) rfl (.inl rfl)) qI)))))))) (qsOne (qRet qS)) qsNil)
    (qsCons (qAsg (qV (i := 3) rfl (.inl rfl)) (qgT rfl (qgs (qgN (i := 4) sc_gap_paper_error.nd rfl (.inl rfl)) (qgs (qgN (i := 5) sc_gap_paper_error.nd rfl (.inl rfl)) qgs0))))
    (qsCons (qIfS (PW.pt (qAndT (qCmT (eq_opr a.hu) (eq_opd _) (qV (i := 4) rfl (.inl rfl)) qS) (qAnd1 (qT (qCall G_is_sum_form (a.mono (by decide)) T.g_is_sum_form T.k_is_sum_form T.b_is_sum_form (qa (qV (i := 5) rfl (.inl rfl)) qa0)))))) (qsCons (qSet (i := 6) sc_gap_paper_error.nd (qOp add_opr (add_opd _) (qOp mul_opr (mul_opd _) (qIx ix_seq (ix_opd _) (qV (i := 5) rfl (.inl rfl)) qI) (qV (i := 0) rfl (.inl rfl))) (qOp mul_opr (mul_opd _) (qIx ix_seq (ix_opd _) (qV (i := 5) rfl (.inl rfl)) qI) (qV (i := 1) rfl (.inl rfl)))) rfl (.inl rfl))
    (qsOne (qRet (qIf (qCmT (ne_opr a.hu) (ne_opd _) (qV (i := 6) rfl (.inl rfl)) (qV (i := 2) rfl (.inl rfl))) (qTup (qa qS (qa (qV (i := 6) rfl (.inl rfl)) qa0))) qN)))) qsNil)
    (qsCons (qIfS (PW.pt (qAndT (qCmT (eq_opr a.hu) (eq_opd _) (qV (i := 4) rfl (.inl rfl)) qS) (qAnd1 (qT (qCall G_is_within (a.mono (by decide)) T.g_is_within T.k_is_within T.b_is_within (qa (qV (i := 5) rfl (.inl rfl)) (qa qI (qa (qGi T.c_MAX_NUMBER) qa0)))))))) (qsOne (qRet (qCall G_over_fault (a.mono (by decide)) T.g_over_fault T.k_over_fault T.b_over_fault (qa (qV (i := 0) rfl (.inl rfl)) (qa (qV (i := 1) rfl (.inl rfl)) (qa (qV (i := 2) rfl (.inl rfl)) (qa (qV (i := 5) rfl (.inl rfl)) qa0))))))) qsNil)
    (qsCons (qIfS (PW.pt (qOrT (qCmT (ne_opr a.hu) (ne_opd _) (qV (i := 4) rfl (.inl rfl)) qS) (qOr1 (qNotT (qT (qCall G_is_within (a.mono (by decide)) T.g_is_within T.k_is_within T.b_is_within (qa (qV (i := 5) rfl (.inl rfl)) (qa qI (qa (qGi T.c_MAX_NUMBER) qa0))))))))) (qsOne (qRet qS)) qsNil)
    (qsCons (qIfS (PW.pt (qOrT (qCmT (ne_opr a.hu) (ne_opd _) (qOp op_modN (mod_ii _) (qV (i := 0) rfl (.inl rfl)) (qV (i := 5) rfl (.inl rfl))) qI) (qOr1 (qCmT (ne_opr a.hu) (ne_opd _) (qOp op_modN (mod_ii _) (qV (i := 1) rfl (.inl rfl)) (qV (i := 5) rfl (.inl rfl))) qI)))) (qsOne (qRet qS)) qsNil)
    (qsOne (qRet (qIf (qCmT (eq_opr a.hu) (eq_opd _) (qOp op_modN (mod_ii _) (qV (i := 2) rfl (.inl rfl)) (qV (i := 5) rfl (.inl rfl))) qI) qS qN)))))))))
def B1_law_own_bag : VSt :=
  (vAsg (vOp aMod (vOp dAdd (vOp dAdd (vOp dMul (vVar 2) (vC (.int 48271))) (vOp aMod (vBl bInt (vCons (vVar 3) vNil)) (vC (.int 2147483629)))) (vC (.int 7))) (vC (.int 2147483647))) (gName 2))
def L1_law_own_bag : VSt :=
  (vFor (vIt (vVar 1)) (gP (pN 3)) B1_law_own_bag)
def S1_law_own_bag : VSt :=
  (vAsg (vOp dAdd (vC (.int 3535)) (vBl bLen (vCons (vVar 1) vNil))) (gName 2))
def E1_law_own_bag : VE :=
  (vBl bAbs (vCons (vVar 3) vNil))
def C1_law_own_bag : VE :=
  (vLc (vIt (vSl (vVar 0) oNone (oSome (vC (.int 63))))) [3] (pN 3) vYes E1_law_own_bag)
def S2_law_own_bag : VSt :=
  (vAsg C1_law_own_bag (gName 1))
def m_law_own_bag : VSt :=
  (vSeq S2_law_own_bag
    (vSeq S1_law_own_bag
    (vSeq L1_law_own_bag
    (vRet (vLst (vCons (vLRev (vCons (vBl bList (vCons (vVar 1) vNil)) vNil)) (vCons (vC (.int 0)) (vCons (vVar 2) vNil))))))))
theorem ok_law_own_bag (T : Txt K mg) : FnG P w K mg base 1 T.a_law_own_bag T.d_law_own_bag P_law_own_bag (mF 4 (m_law_own_bag)) :=
  fnG_of T.f_law_own_bag sc_law_own_bag fun cdv A outer s H E a =>
    (qsCons (qSetLc (i := 1) (own := [("cell", 3)]) rfl sc_law_own_bag.nd rfl rfl (sw_true rfl rfl rfl (by decide +kernel)) (qIt (qSl (qV (i := 0) rfl (.inl rfl)) qo0 (qo qI))) (blkOk_by (N := N_law_own_bag) (sc := defScope s_law_own_bag) (own := [("cell", 3)]) (by decide +kernel)) (tgd_name (by decide)) (fun _ _ _ _ _ => (pg_name (i := 3) sc_law_own_bag.nd rfl (.inl rfl))) (fun _ _ _ _ _ => (qYes _ _)) (fun _ _ _ _ _ => (qBl call_abs (abs_cd _) T.n_abs (qa (qV (i := 3) rfl (.inl rfl)) qa0))))
    (qsCons (qSet (i := 2) sc_law_own_bag.nd (qOp add_opr (add_opd _) qI (qBl call_len (len_cd _) T.n_len (qa (qV (i := 1) rfl (.inl rfl)) qa0))) rfl (.inl rfl))
    (qsCons (qFor a.ps rfl (qIt (qV (i := 1) rfl (.inl rfl))) (qgP (vs := [3]) (pg_name (i := 3) sc_law_own_bag.nd rfl (.inl rfl)) (tgd_name (by decide))) (qsOne (qSet (i := 2) sc_law_own_bag.nd (qOp op_modN (mod_ii _) (qOp add_opr (add_opd _) (qOp add_opr (add_opd _) (qOp mul_opr (mul_opd _) (qV (i := 2) rfl (.inl rfl)) qI) (qOp op_modN (mod_ii _) (qTy call_int1 (int_cd _) T.n_int (qa (qV (i := 3) rfl (.inl rfl)) qa0)) qI)) qI) qI) rfl (.inl rfl))))
    (qsOne (qRet (qLst (qa (qLRev rfl T.n_list T.n_reversed (qa (qTy call_list_of (list_cd _) T.n_list (qa (qV (i := 1) rfl (.inl rfl)) qa0)) qa0)) (qa qI (qa (qV (i := 2) rfl (.inl rfl)) qa0)))))))))
def S1_law_draw : VSt :=
  (vAsg (vOp aMod (vOp dAdd (vOp dMul (vBl bInt (vCons (vOp dIx (vVar 0) (vC (.int 2))) vNil)) (vC (.int 48271))) (vC (.int 11))) (vC (.int 2147483647))) (gSubs sLst (vVar 0) (vC (.int 2))))
def S2_law_draw : VSt :=
  (vIfS (vTr (vOp aGt (vOp dIx (vVar 0) (vC (.int 1))) (vC (.int 0)))) (vSeq (vAsg (vOp aMod (vBl bInt (vCons (vOp dIx (vVar 0) (vC (.int 1))) vNil)) (vVar 1)) (gName 3))
    (vSeq (vAsg (vOp aFdv (vOp dIx (vVar 0) (vC (.int 1))) (vVar 1)) (gSubs sLst (vVar 0) (vC (.int 1))))
    (vRet (vVar 3)))) vPass)
def T1_law_draw : VT :=
  (vAndT (vTr (vOp dEq (vOp dIx (vVar 0) (vC (.int 1))) (vC (.int 0)))) (vTr (vOp dNe (vOp dIx (vVar 0) (vC (.int 0))) (vLst vNil))))
def B1_law_draw : VSt :=
  (vSeq (vAsg (vMt "list" mPop (vOp dIx (vVar 0) (vC (.int 0))) vNil) (gName 2))
    (vAsg (vIf (vTr (vOp aGt (vVar 2) (vOp aPow (vC (.int 10)) (vC (.int 9))))) (vVar 2) (vC (.int 0))) (gSubs sLst (vVar 0) (vC (.int 1)))))
def L1_law_draw : VSt :=
  (vWhile 1000000 T1_law_draw B1_law_draw)
def m_law_draw : VSt :=
  (vSeq L1_law_draw
    (vSeq S2_law_draw
    (vSeq S1_law_draw
    (vRet (vOp aMod (vOp aFdv (vOp aMod (vOp dMul (vBl bInt (vCons (vOp dIx (vVar 0) (vC (.int 2))) vNil)) (vBl bInt (vCons (vOp dIx (vVar 0) (vC (.int 2))) vNil))) (vC (.int 2147483629))) (vC (.int 7))) (vVar 1))))))
theorem ok_law_draw (T : Txt K mg) : FnG P w K mg base 1 T.a_law_draw T.d_law_draw P_law_draw (mF 4 (m_law_draw)) :=
  fnG_of T.f_law_draw sc_law_draw fun cdv A outer s H E a =>
    (qsCons (qWhile 1000000 a.ps (PW.pt (qAndT (qCmT (eq_opr a.hu) (eq_opd _) (qIx ix_seq (ix_opd _) (qV (i := 0) rfl (.inl rfl)) qI) qI) (qAnd1 (qCmT (ne_opr a.hu) (ne_opd _) (qIx ix_seq (ix_opd _) (qV (i := 0) rfl (.inl rfl)) qI) (qLst qa0))))) (qsCons (qSet (i := 2) sc_law_draw.nd (qMt0 PySem.F.plainAttrs_list PySem.F.slot_list_pop PySem.F.type_list_pop mt_pop (pop_mtd _) (qIx ix_seq (ix_opd _) (qV (i := 0) rfl (.inl rfl)) qI)) rfl (.inl rfl))
    (qsOne (qAsg (qIf (qCmT op_gt (gt_ii _) (qV (i := 2) rfl (.inl rfl)) (qOp op_powB (pow_ii _) qI qI)) (qV (i := 2) rfl (.inl rfl)) qI) (qgS set_list (lst_setd _) (qV (i := 0) rfl (.inl rfl)) qI)))))
    (qsCons (qIfS (qCmT op_gt (gt_ii _) (qIx ix_seq (ix_opd _) (qV (i := 0) rfl (.inl rfl)) qI) qI) (qsCons (qSet (i := 3) sc_law_draw.nd (qOp op_modN (mod_ii _) (qTy call_int1 (int_cd _) T.n_int (qa (qIx ix_seq (ix_opd _) (qV (i := 0) rfl (.inl rfl)) qI) qa0)) (qV (i := 1) rfl (.inl rfl))) rfl (.inl rfl))
    (qsCons (qAsg (qOp fdv_opr (fdv_ii _) (qIx ix_seq (ix_opd _) (qV (i := 0) rfl (.inl rfl)) qI) (qV (i := 1) rfl (.inl rfl))) (qgS set_list (lst_setd _) (qV (i := 0) rfl (.inl rfl)) qI))
    (qsOne (qRet (qV (i := 3) rfl (.inl rfl)))))) qsNil)
    (qsCons (qAsg (qOp op_modN (mod_ii _) (qOp add_opr (add_opd _) (qOp mul_opr (mul_opd _) (qTy call_int1 (int_cd _) T.n_int (qa (qIx ix_seq (ix_opd _) (qV (i := 0) rfl (.inl rfl)) qI) qa0)) qI) qI) qI) (qgS set_list (lst_setd _) (qV (i := 0) rfl (.inl rfl)) qI))
    (qsOne (qRet (qOp op_modN (mod_ii _) (qOp fdv_opr (fdv_ii _) (qOp op_modN (mod_ii _) (qOp mul_opr (mul_opd _) (qTy call_int1 (int_cd _) T.n_int (qa (qIx ix_seq (ix_opd _) (qV (i := 0) rfl (.inl rfl)) qI) qa0)) (qTy call_int1 (int_cd _) T.n_int (qa (qIx ix_seq (ix_opd _) (qV (i := 0) rfl (.inl rfl)) qI) qa0))) qI) qI) (qV (i := 1) rfl (.inl rfl))))))))
def m_law_pick (F_law_draw : Fn) : VSt :=
  (vRet (vOp dIx (vVar 1) (vCall 2 F_law_draw (vCons (vVar 0) (vCons (vBl bLen (vCons (vVar 1) vNil)) vNil)))))
theorem ok_law_pick (T : Txt K mg) {F_law_draw : Fn} (G_law_draw : FnG P w K mg base 1 T.a_law_draw T.d_law_draw P_law_draw F_law_draw) : FnG P w K mg base 2 T.a_law_pick T.d_law_pick P_law_pick (mF 2 (m_law_pick F_law_draw)) :=
  fnG_of T.f_law_pick sc_law_pick fun cdv A outer s H E a =>
    (qsOne (qRet (qIx ix_seq (ix_opd _) (qV (i := 1) rfl (.inl rfl)) (qCall G_law_draw (a.mono (by decide)) T.g_law_draw T.k_law_draw T.b_law_draw (qa (qV (i := 0) rfl (.inl rfl)) (qa (qBl call_len (len_cd _) T.n_len (qa (qV (i := 1) rfl (.inl rfl)) qa0)) qa0))))))
def B1_law_great (F_law_pick F_law_draw : Fn) : VSt :=
  (vAsg (vOp dAdd (vOp dMul (vVar 1) (vOp aPow (vC (.int 10)) (vC (.int 8)))) (vCall 2 F_law_draw (vCons (vVar 0) (vCons (vOp aPow (vC (.int 10)) (vC (.int 8))) vNil)))) (gName 1))
def L1_law_great (F_law_pick F_law_draw : Fn) : VSt :=
  (vFor (vRng1 (vCons (vC (.int 3)) vNil)) (gP (pN 2)) (B1_law_great F_law_pick F_law_draw))
def S1_law_great (F_law_pick F_law_draw : Fn) : VSt :=
  (vAsg (vC (.int 0)) (gName 1))
def S2_law_great (F_law_pick F_law_draw : Fn) : VSt :=
  (vIfS (vTr (vOp dEq (vCall 2 F_law_draw (vCons (vVar 0) (vCons (vC (.int 6)) vNil))) (vC (.int 0)))) (vRet (vCall 2 F_law_pick (vCons (vVar 0) (vCons (vLst (vCons (vOp aPow (vC (.int 10)) (vC (.int 30))) (vCons (vUn uNeg (vOp aPow (vC (.int 10)) (vC (.int 30)))) (vCons (vOp aSub (vOp aPow (vC (.int 10)) (vC (.int 30))) (vC (.int 1))) (vCons (vOp aSub (vC (.int 1)) (vOp aPow (vC (.int 10)) (vC (.int 30)))) vNil))))) vNil)))) vPass)
def m_law_great (F_law_pick F_law_draw : Fn) : VSt :=
  (vSeq (S2_law_great F_law_pick F_law_draw)
    (vSeq (S1_law_great F_law_pick F_law_draw)
    (vSeq (L1_law_great F_law_pick F_law_draw)
    (vRet (vOp dMul (vOp dMul (vVar 1) (vCall 2 F_law_pick (vCons (vVar 0) (vCons (vLst (vCons (vC (.int 1)) (vCons (vUn uNeg (vC (.int 1))) vNil))) vNil)))) (vCall 2 F_law_pick (vCons (vVar 0) (vCons (vLst (vCons (vC (.int 1)) (vCons (vOp aPow (vC (.int 10)) (vC (.int 6))) vNil))) vNil))))))))
theorem ok_law_great (T : Txt K mg) {F_law_pick F_law_draw : Fn} (G_law_pick : FnG P w K mg base 2 T.a_law_pick T.d_law_pick P_law_pick F_law_pick) (G_law_draw : FnG P w K mg base 1 T.a_law_draw T.d_law_draw P_law_draw F_law_draw) : FnG P w K mg base 3 T.a_law_great T.d_law_great P_law_great (mF 3 (m_law_great F_law_pick F_law_draw)) :=
  fnG_of T.f_law_great sc_law_great fun cdv A outer s H E a =>
    (qsCons (qIfS (qCmT (eq_opr a.hu) (eq_opd _) (qCall G_law_draw (a.mono (by decide)) T.g_law_draw T.k_law_draw T.b_law_draw (qa (qV (i := 0) rfl (.inl rfl)) (qa qI qa0))) qI) (qsOne (qRet (qCall G_law_pick (a.mono (by decide)) T.g_law_pick T.k_law_pick T.b_law_pick (qa (qV (i := 0) rfl (.inl rfl)) (qa (qLst (qa (qOp op_powB (pow_ii _) qI qI) (qa (qUn un_neg (neg_un _) (qOp op_powB (pow_ii _) qI qI)) (qa (qOp op_sub (sub_ii _) (qOp op_powB (pow_ii _) qI qI) qI) (qa (qOp op_sub (sub_ii _) qI (qOp op_powB (pow_ii _) qI qI)) qa0))))) qa0))))) qsNil)
    (qsCons (qSet (i := 1) sc_law_great.nd qI rfl (.inl rfl))
    (qsCons (qFor a.ps rfl (qRng1 T.n_range (qa qI qa0)) (qgP (vs := [2]) (pg_name (i := 2) sc_law_great.nd rfl (.inl rfl)) (tgd_name (by decide))) (qsOne (qSet (i := 1) sc_law_great.nd (qOp add_opr (add_opd _) (qOp mul_opr (mul_opd _) (qV (i := 1) rfl (.inl rfl)) (qOp op_powB (pow_ii _) qI qI)) (qCall G_law_draw (a.mono (by decide)) T.g_law_draw T.k_law_draw T.b_law_draw (qa (qV (i := 0) rfl (.inl rfl)) (qa (qOp op_powB (pow_ii _) qI qI) qa0)))) rfl (.inl rfl))))
    (qsOne (qRet (qOp mul_opr (mul_opd _) (qOp mul_opr (mul_opd _) (qV (i := 1) rfl (.inl rfl)) (qCall G_law_pick (a.mono (by decide)) T.g_law_pick T.k_law_pick T.b_law_pick (qa (qV (i := 0) rfl (.inl rfl)) (qa (qLst (qa qI (qa (qUn un_neg (neg_un _) qI) qa0))) qa0)))) (qCall G_law_pick (a.mono (by decide)) T.g_law_pick T.k_law_pick T.b_law_pick (qa (qV (i := 0) rfl (.inl rfl)) (qa (qLst (qa qI (qa (qOp op_powB (pow_ii _) qI qI) qa0))) qa0)))))))))
def m_law_is_within : VSt :=
  (vRet (vAnd (vIsi "int" (vVar 0)) (vAnd (vNot (vIsi "bool" (vVar 0))) (vAnd (vOp aLe (vVar 1) (vVar 0)) (vOp aLe (vVar 0) (vOp aPow (vC (.int 10)) (vC (.int 30))))))))
theorem ok_law_is_within (T : Txt K mg) : FnG P w K mg base 1 T.a_law_is_within T.d_law_is_within P_law_is_within (mF 2 (m_law_is_within)) :=
  fnG_of T.f_law_is_within sc_law_is_within fun cdv A outer s H E a =>
    (qsOne (qRet (qAnd (qIsi T.n_isinstance T.n_int (qV (i := 0) rfl (.inl rfl))) (qAnd (qNot (qIsi T.n_isinstance T.n_bool (qV (i := 0) rfl (.inl rfl)))) (qAnd (qCm op_le (le_ii _) (qV (i := 1) rfl (.inl rfl)) (qV (i := 0) rfl (.inl rfl))) (qOne (qCm op_le (le_ii _) (qV (i := 0) rfl (.inl rfl)) (qOp op_powB (pow_ii _) qI qI))))))))
def T1_law_divisors : VT :=
  (vAndT (vTr (vOp dEq (vOp aMod (vBl bInt (vCons (vVar 0) vNil)) (vVar 2)) (vC (.int 0)))) (vTr (vOp dEq (vOp aMod (vBl bInt (vCons (vVar 1) vNil)) (vVar 2)) (vC (.int 0)))))
def E1_law_divisors : VE :=
  (vVar 2)
def C1_law_divisors : VE :=
  (vLc (vRng2 (vCons (vC (.int 1)) (vCons (vOp dAdd (vBl bMin (vCons (vVar 0) (vCons (vVar 1) vNil))) (vC (.int 1))) vNil))) [2] (pN 2) T1_law_divisors E1_law_divisors)
def m_law_divisors : VSt :=
  (vRet C1_law_divisors)
theorem ok_law_divisors (T : Txt K mg) : FnG P w K mg base 1 T.a_law_divisors T.d_law_divisors P_law_divisors (mF 3 (m_law_divisors)) :=
  fnG_of T.f_law_divisors sc_law_divisors fun cdv A outer s H E a =>
    (qsOne (qRet (qLc (own := [("g", 2)]) rfl sc_law_divisors.nd (qRng2 T.n_range (qa qI (qa (qOp add_opr (add_opd _) (qBl (cr_minS rfl) (min_cd _) T.n_min (qa (qV (i := 0) rfl (.inr (.inl rfl))) (qa (qV (i := 1) rfl (.inr (.inl rfl))) qa0))) qI) qa0))) (blkOk_by (N := N_law_divisors) (sc := defScope s_law_divisors) (own := [("g", 2)]) (by decide +kernel)) (tgd_name (by decide)) (fun _ _ _ _ _ => (pg_name (i := 2) sc_law_divisors.nd rfl (.inl rfl))) (fun _ _ _ _ _ => (pts_one (PW.pt (qAndT (qCmT (eq_opr a.blk.hu) (eq_opd _) (qOp op_modN (mod_ii _) (qTy call_int1 (int_cd _) T.n_int (qa (qV (i := 0) rfl (.inr (.inl rfl))) qa0)) (qV (i := 2) rfl (.inl rfl))) qI) (qAnd1 (qCmT (eq_opr a.blk.hu) (eq_opd _) (qOp op_modN (mod_ii _) (qTy call_int1 (int_cd _) T.n_int (qa (qV (i := 1) rfl (.inr (.inl rfl))) qa0)) (qV (i := 2) rfl (.inl rfl))) qI)))))) (fun _ _ _ _ _ => (qV (i := 2) rfl (.inl rfl))))))
def E1_law_own_sort (F_law_divisors : Fn) : VE :=
  (vOp aGt (vOp aMod (vBl bInt (vCons (vVar 2) vNil)) (vVar 4)) (vC (.int 0)))
def C1_law_own_sort (F_law_divisors : Fn) : VE :=
  (vLc (vIt (vCall 2 F_law_divisors (vCons (vVar 0) (vCons (vVar 1) vNil)))) [4] (pN 4) vYes (E1_law_own_sort F_law_divisors))
def S1_law_own_sort (F_law_divisors : Fn) : VSt :=
  (vIfS (vTr (vBl bAny (vCons (C1_law_own_sort F_law_divisors) vNil))) (vRet (vC (.str (Str.ofString "rest")))) vPass)
def E2_law_own_sort (F_law_divisors : Fn) : VE :=
  (vOp dEq (vOp aMod (vBl bInt (vCons (vOp aSub (vVar 2) (vOp dMul (vVar 3) (vVar 0))) vNil)) (vVar 1)) (vC (.int 0)))
def C2_law_own_sort (F_law_divisors : Fn) : VE :=
  (vLc (vRng1 (vCons (vOp dAdd (vBl bMin (vCons (vOp aFdv (vVar 2) (vVar 0)) (vCons (vVar 1) vNil))) (vC (.int 1))) vNil)) [3] (pN 3) vYes (E2_law_own_sort F_law_divisors))
def S2_law_own_sort (F_law_divisors : Fn) : VSt :=
  (vIfS (vTr (vBl bAny (vCons (C2_law_own_sort F_law_divisors) vNil))) (vRet (vC (.str (Str.ofString "sum")))) vPass)
def m_law_own_sort (F_law_divisors : Fn) : VSt :=
  (vSeq (S2_law_own_sort F_law_divisors)
    (vSeq (S1_law_own_sort F_law_divisors)
    (vRet (vC (.str (Str.ofString "over"))))))
theorem ok_law_own_sort (T : Txt K mg) {F_law_divisors : Fn} (G_law_divisors : FnG P w K mg base 1 T.a_law_divisors T.d_law_divisors P_law_divisors F_law_divisors) : FnG P w K mg base 2 T.a_law_own_sort T.d_law_own_sort P_law_own_sort (mF 5 (m_law_own_sort F_law_divisors)) :=
  fnG_of T.f_law_own_sort sc_law_own_sort fun cdv A outer s H E a =>
    (qsCons (qIfS (qT (qBl (cr_any rfl) (any_cd _) T.n_any (qa (qLc (own := [("a", 3)]) rfl sc_law_own_sort.nd (qRng1 T.n_range (qa (qOp add_opr (add_opd _) (qBl (cr_minS rfl) (min_cd _) T.n_min (qa (qOp fdv_opr (fdv_ii _) (qV (i := 2) rfl (.inr (.inl rfl))) (qV (i := 0) rfl (.inr (.inl rfl)))) (qa (qV (i := 1) rfl (.inr (.inl rfl))) qa0))) qI) qa0)) (blkOk_by (N := N_law_own_sort) (sc := defScope s_law_own_sort) (own := [("a", 3)]) (by decide +kernel)) (tgd_name (by decide)) (fun _ _ _ _ _ => (pg_name (i := 3) sc_law_own_sort.nd rfl (.inl rfl))) (fun _ _ _ _ _ => (qYes _ _)) (fun _ _ _ _ _ => (qCm (eq_opr a.blk.hu) (eq_opd _) (qOp op_modN (mod_ii _) (qTy call_int1 (int_cd _) T.n_int (qa (qOp op_sub (sub_ii _) (qV (i := 2) rfl (.inr (.inl rfl))) (qOp mul_opr (mul_opd _) (qV (i := 3) rfl (.inl rfl)) (qV (i := 0) rfl (.inr (.inl rfl))))) qa0)) (qV (i := 1) rfl (.inr (.inl rfl)))) qI))) qa0))) (qsOne (qRet qS)) qsNil)
    (qsCons (qIfS (qT (qBl (cr_any rfl) (any_cd _) T.n_any (qa (qLc (own := [("g", 4)]) rfl sc_law_own_sort.nd (qIt (qCall G_law_divisors (a.mono (by decide)) T.g_law_divisors T.k_law_divisors T.b_law_divisors (qa (qV (i := 0) rfl (.inr (.inl rfl))) (qa (qV (i := 1) rfl (.inr (.inl rfl))) qa0)))) (blkOk_by (N := N_law_own_sort) (sc := defScope s_law_own_sort) (own := [("g", 4)]) (by decide +kernel)) (tgd_name (by decide)) (fun _ _ _ _ _ => (pg_name (i := 4) sc_law_own_sort.nd rfl (.inl rfl))) (fun _ _ _ _ _ => (qYes _ _)) (fun _ _ _ _ _ => (qCm op_gt (gt_ii _) (qOp op_modN (mod_ii _) (qTy call_int1 (int_cd _) T.n_int (qa (qV (i := 2) rfl (.inr (.inl rfl))) qa0)) (qV (i := 4) rfl (.inl rfl))) qI))) qa0))) (qsOne (qRet qS)) qsNil)
    (qsOne (qRet qS))))
def S1_law_is_of_form (F_law_is_within : Fn) : VSt :=
  (vIfS (vTr (vOp dEq (vOp dIx (vVar 0) (vC (.int 0))) (vC (.str (Str.ofString "rest"))))) (vRet (vCall 2 F_law_is_within (vCons (vOp dIx (vVar 0) (vC (.int 1))) (vCons (vC (.int 1)) vNil)))) vPass)
def E1_law_is_of_form (F_law_is_within : Fn) : VE :=
  (vCall 2 F_law_is_within (vCons (vVar 2) (vCons (vC (.int 0)) vNil)))
def C1_law_is_of_form (F_law_is_within : Fn) : VE :=
  (vLc (vIt (vVar 1)) [2] (pN 2) vYes (E1_law_is_of_form F_law_is_within))
def S2_law_is_of_form (F_law_is_within : Fn) : VSt :=
  (vIfS (vTr (vOp dEq (vOp dIx (vVar 0) (vC (.int 0))) (vC (.str (Str.ofString "sum"))))) (vSeq (vAsg (vOp dIx (vVar 0) (vC (.int 1))) (gName 1))
    (vRet (vAnd (vIsi "tuple" (vVar 1)) (vAnd (vOp dEq (vBl bLen (vCons (vVar 1) vNil)) (vC (.int 2))) (vBl bAll (vCons (C1_law_is_of_form F_law_is_within) vNil)))))) vPass)
def S3_law_is_of_form (F_law_is_within : Fn) : VSt :=
  (vIfS (vOrT (vNotT (vTr (vIsi "tuple" (vVar 0)))) (vOrT (vTr (vOp dNe (vBl bLen (vCons (vVar 0) vNil)) (vC (.int 2)))) (vNotT (vTr (vIsi "str" (vOp dIx (vVar 0) (vC (.int 0)))))))) (vRet (vC (.bl false))) vPass)
def m_law_is_of_form (F_law_is_within : Fn) : VSt :=
  (vSeq (S3_law_is_of_form F_law_is_within)
    (vSeq (S2_law_is_of_form F_law_is_within)
    (vSeq (S1_law_is_of_form F_law_is_within)
    (vRet (vAnd (vOp dEq (vOp dIx (vVar 0) (vC (.int 0))) (vC (.str (Str.ofString "over")))) (vCall 2 F_law_is_within (vCons (vOp dIx (vVar 0) (vC (.int 1))) (vCons (vC (.int 0)) vNil))))))))
theorem ok_law_is_of_form (T : Txt K mg) {F_law_is_within : Fn} (G_law_is_within : FnG P w K mg base 1 T.a_law_is_within T.d_law_is_within P_law_is_within F_law_is_within) : FnG P w K mg base 2 T.a_law_is_of_form T.d_law_is_of_form P_law_is_of_form (mF 3 (m_law_is_of_form F_law_is_within)) :=
  fnG_of T.f_law_is_of_form sc_law_is_of_form fun cdv A outer s H E a =>
    (qsCons (qIfS (PW.pt (qOrT (qNotT (qT (qIsi T.n_isinstance T.n_tuple (qV (i := 0) rfl (.inl rfl))))) (qOrT (qCmT (ne_opr a.hu) (ne_opd _) (qBl call_len (len_cd _) T.n_len (qa (qV (i := 0) rfl (.inl rfl)) qa0)) qI) (qOr1 (qNotT (qT (qIsi T.n_isinstance T.n_str (qIx ix_seq (ix_opd _) (qV (i := 0) rfl (.inl rfl)) qI)))))))) (qsOne (qRet qB)) qsNil)
    (qsCons (qIfS (qCmT (eq_opr a.hu) (eq_opd _) (qIx ix_seq (ix_opd _) (qV (i := 0) rfl (.inl rfl)) qI) qS) (qsCons (qSet (i := 1) sc_law_is_of_form.nd (qIx ix_seq (ix_opd _) (qV (i := 0) rfl (.inl rfl)) qI) rfl (.inl rfl))
    (qsOne (qRet (qAnd (qIsi T.n_isinstance T.n_tuple (qV (i := 1) rfl (.inl rfl))) (qAnd (qCm (eq_opr a.hu) (eq_opd _) (qBl call_len (len_cd _) T.n_len (qa (qV (i := 1) rfl (.inl rfl)) qa0)) qI) (qOne (qBl (cr_all rfl) (all_cd _) T.n_all (qa (qLc (own := [("one", 2)]) rfl sc_law_is_of_form.nd (qIt (qV (i := 1) rfl (.inl rfl))) (blkOk_by (N := N_law_is_of_form) (sc := defScope s_law_is_of_form) (own := [("one", 2)]) (by decide +kernel)) (tgd_name (by decide)) (fun _ _ _ _ _ => (pg_name (i := 2) sc_law_is_of_form.nd rfl (.inl rfl))) (fun _ _ _ _ _ => (qYes _ _)) (fun _ _ _ _ _ => (qCall G_law_is_within (a.blk.mono (by decide)) T.g_law_is_within T.k_law_is_within T.b_law_is_within (qa (qV (i := 2) rfl (.inl rfl)) (qa qI qa0))))) qa0)))))))) qsNil)
    (qsCons (qIfS (qCmT (eq_opr a.hu) (eq_opd _) (qIx ix_seq (ix_opd _) (qV (i := 0) rfl (.inl rfl)) qI) qS) (qsOne (qRet (qCall G_law_is_within (a.mono (by decide)) T.g_law_is_within T.k_law_is_within T.b_law_is_within (qa (qIx ix_seq (ix_opd _) (qV (i := 0) rfl (.inl rfl)) qI) (qa qI qa0))))) qsNil)
    (qsOne (qRet (qAnd (qCm (eq_opr a.hu) (eq_opd _) (qIx ix_seq (ix_opd _) (qV (i := 0) rfl (.inl rfl)) qI) qS) (qOne (qCall G_law_is_within (a.mono (by decide)) T.g_law_is_within T.k_law_is_within T.b_law_is_within (qa (qIx ix_seq (ix_opd _) (qV (i := 0) rfl (.inl rfl)) qI) (qa qI qa0))))))))))
def S1_law_due (F_law_is_of_form : Fn) : VSt :=
  (vIfS (vTr (vOp aGt (vOp aMod (vBl bInt (vCons (vOp aSub (vOp dMul (vVar 7) (vVar 2)) (vVar 4)) vNil)) (vVar 3)) (vC (.int 0)))) (vRet (vC (.str (Str.ofString "rest")))) vPass)
def S2_law_due (F_law_is_of_form : Fn) : VSt :=
  (vIfS (vTr (vOp aGe (vOp dMul (vVar 7) (vVar 5)) (vVar 3))) (vRet (vC (.str (Str.ofString "great")))) vPass)
def S3_law_due (F_law_is_of_form : Fn) : VSt :=
  (vIfS (vTr (vOp dEq (vOp dIx (vVar 1) (vC (.int 0))) (vC (.str (Str.ofString "rest"))))) (vSeq (vIfS (vOrT (vTr (vOp aGt (vOp aMod (vBl bInt (vCons (vVar 2) vNil)) (vVar 7)) (vC (.int 0)))) (vTr (vOp aGt (vOp aMod (vBl bInt (vCons (vVar 3) vNil)) (vVar 7)) (vC (.int 0))))) (vRet (vC (.str (Str.ofString "divides")))) vPass)
    (vRet (vIf (vTr (vOp dEq (vOp aMod (vBl bInt (vCons (vVar 4) vNil)) (vVar 7)) (vC (.int 0)))) (vC (.str (Str.ofString "told"))) (vC .non)))) vPass)
def S4_law_due (F_law_is_of_form : Fn) : VSt :=
  (vAsg (vOp dIx (vVar 1) (vC (.int 1))) (gName 7))
def S5_law_due (F_law_is_of_form : Fn) : VSt :=
  (vIfS (vTr (vOp dEq (vOp dIx (vVar 1) (vC (.int 0))) (vC (.str (Str.ofString "sum"))))) (vSeq (vAsg (vOp dAdd (vOp dMul (vOp dIx (vOp dIx (vVar 1) (vC (.int 1))) (vC (.int 0))) (vVar 2)) (vOp dMul (vOp dIx (vOp dIx (vVar 1) (vC (.int 1))) (vC (.int 1))) (vVar 3))) (gName 6))
    (vRet (vIf (vTr (vOp dNe (vVar 6) (vVar 4))) (vTup (vCons (vC (.str (Str.ofString "sum"))) (vCons (vVar 6) vNil))) (vC .non)))) vPass)
def S6_law_due (F_law_is_of_form : Fn) : VSt :=
  (vIfS (vNotT (vTr (vCall 1 F_law_is_of_form (vCons (vVar 1) vNil)))) (vRet (vC (.str (Str.ofString "form")))) vPass)
def S7_law_due (F_law_is_of_form : Fn) : VSt :=
  (vAsg (vVar 0) (gTupl 4 (gsCons (gName 2) (gsCons (gName 3) (gsCons (gName 4) (gsCons (gName 5) gsNil))))))
def m_law_due (F_law_is_of_form : Fn) : VSt :=
  (vSeq (S7_law_due F_law_is_of_form)
    (vSeq (S6_law_due F_law_is_of_form)
    (vSeq (S5_law_due F_law_is_of_form)
    (vSeq (S4_law_due F_law_is_of_form)
    (vSeq (S3_law_due F_law_is_of_form)
    (vSeq (S2_law_due F_law_is_of_form)
    (vSeq (S1_law_due F_law_is_of_form)
    (vRet (vIf (vTr (vOp aLe (vOp dMul (vVar 7) (vVar 2)) (vVar 4))) (vC (.str (Str.ofString "told"))) (vC .non))))))))))
theorem ok_law_due (T : Txt K mg) {F_law_is_of_form : Fn} (G_law_is_of_form : FnG P w K mg base 2 T.a_law_is_of_form T.d_law_is_of_form P_law_is_of_form F_law_is_of_form) : FnG P w K mg base 3 T.a_law_due T.d_law_due P_law_due (mF 8 (m_law_due F_law_is_of_form)) :=
  fnG_of T.f_law_due sc_law_due fun cdv A outer s H E a =>
    (qsCons (qAsg (qV (i := 0) rfl (.inl rfl)) (qgT rfl (qgs (qgN (i := 2) sc_law_due.nd rfl (.inl rfl)) (qgs (qgN (i := 3) sc_law_due.nd rfl (.inl rfl)) (qgs (qgN (i := 4) sc_law_due.nd rfl (.inl rfl)) (qgs (qgN (i := 5) sc_law_due.nd rfl (.inl rfl)) qgs0))))))
    (qsCons (qIfS (qNotT (qT (qCall G_law_is_of_form (a.mono (by decide)) T.g_law_is_of_form T.k_law_is_of_form T.b_law_is_of_form (qa (qV (i := 1) rfl (.inl rfl)) qa0)))) (qsOne (qRet qS)) qsNil)
    (qsCons (qIfS (qCmT (eq_opr a.hu) (eq_opd _) (qIx ix_seq (ix_opd _) (qV (i := 1) rfl (.inl rfl)) qI) qS) (qsCons (qSet (i := 6) sc_law_due.nd (qOp add_opr (add_opd _) (qOp mul_opr (mul_opd _) (qIx ix_seq (ix_opd _) (qIx ix_seq (ix_opd _) (qV (i := 1) rfl (.inl rfl)) qI) qI) (qV (i := 2) rfl (.inl rfl))) (qOp mul_opr (mul_opd _) (qIx ix_seq (ix_opd _) (qIx ix_seq (ix_opd _) (qV (i := 1) rfl (.inl rfl)) qI) qI) (qV (i := 3) rfl (.inl rfl)))) rfl (.inl rfl))
    (qsOne (qRet (qIf (qCmT (ne_opr a.hu) (ne_opd _) (qV (i := 6) rfl (.inl rfl)) (qV (i := 4) rfl (.inl rfl))) (qTup (qa qS (qa (qV (i := 6) rfl (.inl rfl)) qa0))) qN)))) qsNil)
    (qsCons (qSet (i := 7) sc_law_due.nd (qIx ix_seq (ix_opd _) (qV (i := 1) rfl (.inl rfl)) qI) rfl (.inl rfl))
    (qsCons (qIfS (qCmT (eq_opr a.hu) (eq_opd _) (qIx ix_seq (ix_opd _) (qV (i := 1) rfl (.inl rfl)) qI) qS) (qsCons (qIfS (PW.pt (qOrT (qCmT op_gt (gt_ii _) (qOp op_modN (mod_ii _) (qTy call_int1 (int_cd _) T.n_int (qa (qV (i := 2) rfl (.inl rfl)) qa0)) (qV (i := 7) rfl (.inl rfl))) qI) (qOr1 (qCmT op_gt (gt_ii _) (qOp op_modN (mod_ii _) (qTy call_int1 (int_cd _) T.n_int (qa (qV (i := 3) rfl (.inl rfl)) qa0)) (qV (i := 7) rfl (.inl rfl))) qI)))) (qsOne (qRet qS)) qsNil)
    (qsOne (qRet (qIf (qCmT (eq_opr a.hu) (eq_opd _) (qOp op_modN (mod_ii _) (qTy call_int1 (int_cd _) T.n_int (qa (qV (i := 4) rfl (.inl rfl)) qa0)) (qV (i := 7) rfl (.inl rfl))) qI) qS qN)))) qsNil)
    (qsCons (qIfS (qCmT op_ge (ge_ii _) (qOp mul_opr (mul_opd _) (qV (i := 7) rfl (.inl rfl)) (qV (i := 5) rfl (.inl rfl))) (qV (i := 3) rfl (.inl rfl))) (qsOne (qRet qS)) qsNil)
    (qsCons (qIfS (qCmT op_gt (gt_ii _) (qOp op_modN (mod_ii _) (qTy call_int1 (int_cd _) T.n_int (qa (qOp op_sub (sub_ii _) (qOp mul_opr (mul_opd _) (qV (i := 7) rfl (.inl rfl)) (qV (i := 2) rfl (.inl rfl))) (qV (i := 4) rfl (.inl rfl))) qa0)) (qV (i := 3) rfl (.inl rfl))) qI) (qsOne (qRet qS)) qsNil)
    (qsOne (qRet (qIf (qCmT op_le (le_ii _) (qOp mul_opr (mul_opd _) (qV (i := 7) rfl (.inl rfl)) (qV (i := 2) rfl (.inl rfl))) (qV (i := 4) rfl (.inl rfl))) qS qN))))))))))
def S1_law_own_sums (F_law_draw : Fn) : VSt :=
  (vDrop (vMt "list" mExt2 (vVar 6) (vCons (vLst (vCons (vTup (vCons (vC (.str (Str.ofString "sum"))) (vCons (vTup (vCons (vVar 8) (vCons (vC (.bl false)) vNil))) vNil))) (vCons (vTup (vCons (vC (.str (Str.ofString "sum"))) (vCons (vTup (vCons (vBl bStr (vCons (vVar 8) vNil)) (vCons (vVar 9) vNil))) vNil))) (vCons (vTup (vCons (vC (.str (Str.ofString "sum"))) (vCons (vTup (vCons (vTup (vCons (vVar 8) vNil)) (vCons (vVar 9) vNil))) vNil))) (vCons (vTup (vCons (vC (.str (Str.ofString "sum"))) (vCons (vC .non) vNil))) (vCons (vTup (vCons (vC (.str (Str.ofString "sum"))) (vCons (vC (.str (Str.ofString "ab"))) vNil))) vNil)))))) vNil)))
def S2_law_own_sums (F_law_draw : Fn) : VSt :=
  (vDrop (vMt "list" mExt2 (vVar 6) (vCons (vLst (vCons (vTup (vCons (vC (.str (Str.ofString "sum"))) (vCons (vLst (vCons (vVar 8) (vCons (vVar 9) vNil))) vNil))) (vCons (vTup (vCons (vC (.str (Str.ofString "sum"))) (vCons (vTup (vCons (vC (.bl true)) (vCons (vVar 9) vNil))) vNil))) vNil))) vNil)))
def S3_law_own_sums (F_law_draw : Fn) : VSt :=
  (vDrop (vMt "list" mExt2 (vVar 6) (vCons (vLst (vCons (vTup (vCons (vC (.str (Str.ofString "sum"))) (vCons (vTup (vCons (vVar 8) vNil)) vNil))) (vCons (vTup (vCons (vC (.str (Str.ofString "sum"))) (vCons (vTup (vCons (vVar 8) (vCons (vVar 9) (vCons (vC (.int 0)) vNil)))) vNil))) (vCons (vTup (vCons (vC (.str (Str.ofString "sum"))) (vCons (vTup vNil) vNil))) (vCons (vTup (vCons (vC (.str (Str.ofString "sum"))) (vCons (vVar 8) vNil))) (vCons (vTup (vCons (vC (.str (Str.ofString "sum"))) (vCons (vVar 4) vNil))) (vCons (vTup (vCons (vC (.str (Str.ofString "sum"))) (vCons (vTup (vCons (vVar 8) (vCons (vC .non) vNil))) vNil))) vNil))))))) vNil)))
def S4_law_own_sums (F_law_draw : Fn) : VSt :=
  (vDrop (vMt "list" mExt2 (vVar 6) (vCons (vLst (vCons (vTup (vCons (vC (.str (Str.ofString "sum"))) (vCons (vTup (vCons (vVar 8) (vCons (vOp dAdd (vOp aPow (vC (.int 10)) (vC (.int 30))) (vC (.int 1))) vNil))) vNil))) (vCons (vTup (vCons (vC (.str (Str.ofString "sum"))) (vCons (vTup (vCons (vOp aPow (vC (.int 10)) (vC (.int 30))) (vCons (vOp aPow (vC (.int 10)) (vC (.int 30))) vNil))) vNil))) (vCons (vTup (vCons (vC (.str (Str.ofString "sum"))) (vCons (vTup (vCons (vOp aPow (vOp aPow (vC (.int 10)) (vC (.int 55))) (vC (.int 7))) (vCons (vVar 9) vNil))) vNil))) vNil)))) vNil)))
def S5_law_own_sums (F_law_draw : Fn) : VSt :=
  (vDrop (vMt "list" mExt2 (vVar 6) (vCons (vLst (vCons (vTup (vCons (vC (.str (Str.ofString "sum"))) (vCons (vTup (vCons (vOp aPow (vC (.int 10)) (vC (.int 30))) (vCons (vC (.int 0)) vNil))) vNil))) (vCons (vTup (vCons (vC (.str (Str.ofString "sum"))) (vCons (vTup (vCons (vC (.int 0)) (vCons (vOp aPow (vC (.int 10)) (vC (.int 30))) vNil))) vNil))) (vCons (vTup (vCons (vC (.str (Str.ofString "sum"))) (vCons (vTup (vCons (vOp dAdd (vOp aPow (vC (.int 10)) (vC (.int 30))) (vC (.int 1))) (vCons (vVar 9) vNil))) vNil))) vNil)))) vNil)))
def S6_law_own_sums (F_law_draw : Fn) : VSt :=
  (vDrop (vMt "list" mExt2 (vVar 6) (vCons (vLst (vCons (vTup (vCons (vC (.str (Str.ofString "sum"))) (vCons (vTup (vCons (vOp dAdd (vVar 8) (vVar 3)) (vCons (vOp aSub (vVar 9) (vVar 2)) vNil))) vNil))) (vCons (vTup (vCons (vC (.str (Str.ofString "sum"))) (vCons (vTup (vCons (vOp aSub (vVar 8) (vVar 3)) (vCons (vOp dAdd (vVar 9) (vVar 2)) vNil))) vNil))) (vCons (vTup (vCons (vC (.str (Str.ofString "sum"))) (vCons (vTup (vCons (vVar 8) (vCons (vOp aSub (vVar 9) (vC (.int 1))) vNil))) vNil))) (vCons (vTup (vCons (vC (.str (Str.ofString "sum"))) (vCons (vTup (vCons (vUn uNeg (vC (.int 1))) (vCons (vVar 9) vNil))) vNil))) vNil))))) vNil)))
def S7_law_own_sums (F_law_draw : Fn) : VSt :=
  (vDrop (vMt "list" mExt2 (vVar 6) (vCons (vLst (vCons (vTup (vCons (vC (.str (Str.ofString "sum"))) (vCons (vTup (vCons (vVar 9) (vCons (vVar 8) vNil))) vNil))) (vCons (vTup (vCons (vC (.str (Str.ofString "sum"))) (vCons (vTup (vCons (vOp dAdd (vVar 8) (vOp aFdv (vVar 3) (vVar 5))) (vCons (vVar 9) vNil))) vNil))) (vCons (vTup (vCons (vC (.str (Str.ofString "sum"))) (vCons (vTup (vCons (vVar 8) (vCons (vOp dAdd (vVar 9) (vOp aFdv (vVar 2) (vVar 5))) vNil))) vNil))) (vCons (vTup (vCons (vC (.str (Str.ofString "sum"))) (vCons (vTup (vCons (vC (.int 0)) (vCons (vC (.int 0)) vNil))) vNil))) vNil))))) vNil)))
def B1_law_own_sums (F_law_draw : Fn) : VSt :=
  (vDrop (vMt "list" mExt2 (vVar 6) (vCons (vLst (vCons (vTup (vCons (vC (.str (Str.ofString "sum"))) (vCons (vTup (vCons (vVar 11) (vCons (vVar 12) vNil))) vNil))) (vCons (vTup (vCons (vC (.str (Str.ofString "sum"))) (vCons (vTup (vCons (vOp dAdd (vVar 11) (vC (.int 1))) (vCons (vVar 12) vNil))) vNil))) (vCons (vTup (vCons (vC (.str (Str.ofString "sum"))) (vCons (vTup (vCons (vVar 11) (vCons (vOp dAdd (vVar 12) (vC (.int 1))) vNil))) vNil))) vNil)))) vNil)))
def L1_law_own_sums (F_law_draw : Fn) : VSt :=
  (vFor (vIt (vLst (vCons (vTup (vCons (vVar 8) (vCons (vVar 9) vNil))) (vCons (vTup (vCons (vOp dAdd (vVar 8) (vOp dMul (vVar 10) (vOp aFdv (vVar 3) (vVar 5)))) (vCons (vOp aSub (vVar 9) (vOp dMul (vVar 10) (vOp aFdv (vVar 2) (vVar 5)))) vNil))) (vCons (vTup (vCons (vC (.int 0)) (vCons (vOp aFdv (vVar 4) (vVar 3)) vNil))) (vCons (vTup (vCons (vOp aFdv (vVar 4) (vVar 2)) (vCons (vC (.int 0)) vNil))) vNil)))))) (gP (pTup 2 (psCons (pN 11) (psCons (pN 12) psNil)))) (B1_law_own_sums F_law_draw))
def S8_law_own_sums (F_law_draw : Fn) : VSt :=
  (vAsg (vIf (vTr (vOp aLt (vOp dMul (vVar 9) (vVar 5)) (vOp dMul (vVar 2) (vOp aPow (vC (.int 10)) (vC (.int 6)))))) (vCall 2 F_law_draw (vCons (vVar 0) (vCons (vOp dAdd (vOp aFdv (vOp dMul (vVar 9) (vVar 5)) (vVar 2)) (vC (.int 1))) vNil))) (vCall 2 F_law_draw (vCons (vVar 0) (vCons (vOp aPow (vC (.int 10)) (vC (.int 6))) vNil)))) (gName 10))
def S9_law_own_sums (F_law_draw : Fn) : VSt :=
  (vAsg (vOp aFdv (vOp aSub (vVar 4) (vOp dMul (vVar 8) (vVar 2))) (vVar 3)) (gName 9))
def S10_law_own_sums (F_law_draw : Fn) : VSt :=
  (vAsg (vIf (vTr (vOp dNe (vVar 7) (vLst vNil))) (vOp dIx (vVar 7) (vC (.int 0))) (vBl bMin (vCons (vOp aFdv (vVar 4) (vVar 2)) (vCons (vCall 2 F_law_draw (vCons (vVar 0) (vCons (vC (.int 60)) vNil))) vNil)))) (gName 8))
def T1_law_own_sums (F_law_draw : Fn) : VT :=
  (vTr (vOp dEq (vOp aMod (vBl bInt (vCons (vOp aSub (vVar 4) (vOp dMul (vVar 8) (vVar 2))) vNil)) (vVar 3)) (vC (.int 0))))
def E1_law_own_sums (F_law_draw : Fn) : VE :=
  (vVar 8)
def C1_law_own_sums (F_law_draw : Fn) : VE :=
  (vLc (vRng1 (vCons (vOp dAdd (vBl bMin (vCons (vOp aFdv (vVar 4) (vVar 2)) (vCons (vVar 3) vNil))) (vC (.int 1))) vNil)) [8] (pN 8) (T1_law_own_sums F_law_draw) (E1_law_own_sums F_law_draw))
def S11_law_own_sums (F_law_draw : Fn) : VSt :=
  (vAsg (C1_law_own_sums F_law_draw) (gName 7))
def S12_law_own_sums (F_law_draw : Fn) : VSt :=
  (vAsg (vLst vNil) (gName 6))
def S13_law_own_sums (F_law_draw : Fn) : VSt :=
  (vAsg (vVar 1) (gTupl 4 (gsCons (gName 2) (gsCons (gName 3) (gsCons (gName 4) (gsCons (gName 5) gsNil))))))
def m_law_own_sums (F_law_draw : Fn) : VSt :=
  (vSeq (S13_law_own_sums F_law_draw)
    (vSeq (S12_law_own_sums F_law_draw)
    (vSeq (S11_law_own_sums F_law_draw)
    (vSeq (S10_law_own_sums F_law_draw)
    (vSeq (S9_law_own_sums F_law_draw)
    (vSeq (S8_law_own_sums F_law_draw)
    (vSeq (L1_law_own_sums F_law_draw)
    (vSeq (S7_law_own_sums F_law_draw)
    (vSeq (S6_law_own_sums F_law_draw)
    (vSeq (S5_law_own_sums F_law_draw)
    (vSeq (S4_law_own_sums F_law_draw)
    (vSeq (S3_law_own_sums F_law_draw)
    (vSeq (S2_law_own_sums F_law_draw)
    (vSeq (S1_law_own_sums F_law_draw)
    (vRet (vOp dAdd (vVar 6) (vLst (vCons (vLst (vCons (vC (.str (Str.ofString "sum"))) (vCons (vTup (vCons (vVar 8) (vCons (vVar 9) vNil))) vNil))) (vCons (vTup (vCons (vC (.str (Str.ofString "sums"))) (vCons (vTup (vCons (vVar 8) (vCons (vVar 9) vNil))) vNil))) (vCons (vTup (vCons (vC (.str (Str.ofString "sum"))) (vCons (vTup (vCons (vVar 8) (vCons (vVar 9) vNil))) (vCons (vC (.int 0)) vNil)))) (vCons (vTup (vCons (vC (.str (Str.ofString "sum"))) (vCons (vVar 8) (vCons (vVar 9) vNil)))) (vCons (vTup (vCons (vC (.str (Str.ofString "Sum"))) (vCons (vTup (vCons (vVar 8) (vCons (vVar 9) vNil))) vNil))) (vCons (vTup (vCons (vVar 8) (vCons (vVar 9) vNil))) vNil)))))))))))))))))))))))
theorem ok_law_own_sums (T : Txt K mg) {F_law_draw : Fn} (G_law_draw : FnG P w K mg base 1 T.a_law_draw T.d_law_draw P_law_draw F_law_draw) : FnG P w K mg base 2 T.a_law_own_sums T.d_law_own_sums P_law_own_sums (mF 13 (m_law_own_sums F_law_draw)) :=
  fnG_of T.f_law_own_sums sc_law_own_sums fun cdv A outer s H E a =>
    (qsCons (qAsg (qV (i := 1) rfl (.inl rfl)) (qgT rfl (qgs (qgN (i := 2) sc_law_own_sums.nd rfl (.inr rfl)) (qgs (qgN (i := 3) sc_law_own_sums.nd rfl (.inr rfl)) (qgs (qgN (i := 4) sc_law_own_sums.nd rfl (.inr rfl)) (qgs (qgN (i := 5) sc_law_own_sums.nd rfl (.inl rfl)) qgs0))))))
    (qsCons (qSet (i := 6) sc_law_own_sums.nd (qLst qa0) rfl (.inl rfl))
    (qsCons (qSetLc (i := 7) (own := [("a", 8)]) rfl sc_law_own_sums.nd rfl rfl (sw_true rfl rfl rfl (by decide +kernel)) (qRng1 T.n_range (qa (qOp add_opr (add_opd _) (qBl (cr_minS rfl) (min_cd _) T.n_min (qa (qOp fdv_opr (fdv_ii _) (qV (i := 4) rfl (.inr (.inl rfl))) (qV (i := 2) rfl (.inr (.inl rfl)))) (qa (qV (i := 3) rfl (.inr (.inl rfl))) qa0))) qI) qa0)) (blkOk_by (N := N_law_own_sums) (sc := defScope s_law_own_sums) (own := [("a", 8)]) (by decide +kernel)) (tgd_name (by decide)) (fun _ _ _ _ _ => (pg_name (i := 8) sc_law_own_sums.nd rfl (.inl rfl))) (fun _ _ _ _ _ => (pts_one (qCmT (eq_opr a.blk.hu) (eq_opd _) (qOp op_modN (mod_ii _) (qTy call_int1 (int_cd _) T.n_int (qa (qOp op_sub (sub_ii _) (qV (i := 4) rfl (.inr (.inl rfl))) (qOp mul_opr (mul_opd _) (qV (i := 8) rfl (.inl rfl)) (qV (i := 2) rfl (.inr (.inl rfl))))) qa0)) (qV (i := 3) rfl (.inr (.inl rfl)))) qI))) (fun _ _ _ _ _ => (qV (i := 8) rfl (.inl rfl))))
    (qsCons (qSet (i := 8) sc_law_own_sums.nd (qIf (qCmT (ne_opr a.hu) (ne_opd _) (qV (i := 7) rfl (.inl rfl)) (qLst qa0)) (qIx ix_seq (ix_opd _) (qV (i := 7) rfl (.inl rfl)) qI) (qBl (cr_minS rfl) (min_cd _) T.n_min (qa (qOp fdv_opr (fdv_ii _) (qV (i := 4) rfl (.inr (.inl rfl))) (qV (i := 2) rfl (.inr (.inl rfl)))) (qa (qCall G_law_draw (a.mono (by decide)) T.g_law_draw T.k_law_draw T.b_law_draw (qa (qV (i := 0) rfl (.inl rfl)) (qa qI qa0))) qa0)))) rfl (.inl rfl))
    (qsCons (qSet (i := 9) sc_law_own_sums.nd (qOp fdv_opr (fdv_ii _) (qOp op_sub (sub_ii _) (qV (i := 4) rfl (.inr (.inl rfl))) (qOp mul_opr (mul_opd _) (qV (i := 8) rfl (.inl rfl)) (qV (i := 2) rfl (.inr (.inl rfl))))) (qV (i := 3) rfl (.inr (.inl rfl)))) rfl (.inl rfl))
    (qsCons (qSet (i := 10) sc_law_own_sums.nd (qIf (qCmT op_lt (lt_ii _) (qOp mul_opr (mul_opd _) (qV (i := 9) rfl (.inl rfl)) (qV (i := 5) rfl (.inl rfl))) (qOp mul_opr (mul_opd _) (qV (i := 2) rfl (.inr (.inl rfl))) (qOp op_powB (pow_ii _) qI qI))) (qCall G_law_draw (a.mono (by decide)) T.g_law_draw T.k_law_draw T.b_law_draw (qa (qV (i := 0) rfl (.inl rfl)) (qa (qOp add_opr (add_opd _) (qOp fdv_opr (fdv_ii _) (qOp mul_opr (mul_opd _) (qV (i := 9) rfl (.inl rfl)) (qV (i := 5) rfl (.inl rfl))) (qV (i := 2) rfl (.inr (.inl rfl)))) qI) qa0))) (qCall G_law_draw (a.mono (by decide)) T.g_law_draw T.k_law_draw T.b_law_draw (qa (qV (i := 0) rfl (.inl rfl)) (qa (qOp op_powB (pow_ii _) qI qI) qa0)))) rfl (.inl rfl))
    (qsCons (qFor a.ps rfl (qIt (qLst (qa (qTup (qa (qV (i := 8) rfl (.inl rfl)) (qa (qV (i := 9) rfl (.inl rfl)) qa0))) (qa (qTup (qa (qOp add_opr (add_opd _) (qV (i := 8) rfl (.inl rfl)) (qOp mul_opr (mul_opd _) (qV (i := 10) rfl (.inl rfl)) (qOp fdv_opr (fdv_ii _) (qV (i := 3) rfl (.inr (.inl rfl))) (qV (i := 5) rfl (.inl rfl))))) (qa (qOp op_sub (sub_ii _) (qV (i := 9) rfl (.inl rfl)) (qOp mul_opr (mul_opd _) (qV (i := 10) rfl (.inl rfl)) (qOp fdv_opr (fdv_ii _) (qV (i := 2) rfl (.inr (.inl rfl))) (qV (i := 5) rfl (.inl rfl))))) qa0))) (qa (qTup (qa qI (qa (qOp fdv_opr (fdv_ii _) (qV (i := 4) rfl (.inr (.inl rfl))) (qV (i := 3) rfl (.inr (.inl rfl)))) qa0))) (qa (qTup (qa (qOp fdv_opr (fdv_ii _) (qV (i := 4) rfl (.inr (.inl rfl))) (qV (i := 2) rfl (.inr (.inl rfl)))) (qa qI qa0))) qa0)))))) (qgP (vs := [11, 12]) (pg_tup rfl (pgs_cons (pg_name (i := 11) sc_law_own_sums.nd rfl (.inl rfl)) (pgs_cons (pg_name (i := 12) sc_law_own_sums.nd rfl (.inl rfl)) pgs_nil))) (tgd_tup (tgsd_cons (tgd_name (by decide)) (tgsd_cons (tgd_name (by decide)) tgsd_nil)))) (qsOne (qDrop (qMt PySem.F.plainAttrs_list PySem.F.slot_list_extend PySem.F.type_list_extend mt_ext2 (ext2_mtd _) (qV (i := 6) rfl (.inl rfl)) (qa (qLst (qa (qTup (qa qS (qa (qTup (qa (qV (i := 11) rfl (.inl rfl)) (qa (qV (i := 12) rfl (.inl rfl)) qa0))) qa0))) (qa (qTup (qa qS (qa (qTup (qa (qOp add_opr (add_opd _) (qV (i := 11) rfl (.inl rfl)) qI) (qa (qV (i := 12) rfl (.inl rfl)) qa0))) qa0))) (qa (qTup (qa qS (qa (qTup (qa (qV (i := 11) rfl (.inl rfl)) (qa (qOp add_opr (add_opd _) (qV (i := 12) rfl (.inl rfl)) qI) qa0))) qa0))) qa0)))) qa0)))))
    (qsCons (qDrop (qMt PySem.F.plainAttrs_list PySem.F.slot_list_extend PySem.F.type_list_extend mt_ext2 (ext2_mtd _) (qV (i := 6) rfl (.inl rfl)) (qa (qLst (qa (qTup (qa qS (qa (qTup (qa (qV (i := 9) rfl (.inl rfl)) (qa (qV (i := 8) rfl (.inl rfl)) qa0))) qa0))) (qa (qTup (qa qS (qa (qTup (qa (qOp add_opr (add_opd _) (qV (i := 8) rfl (.inl rfl)) (qOp fdv_opr (fdv_ii _) (qV (i := 3) rfl (.inr (.inl rfl))) (qV (i := 5) rfl (.inl rfl)))) (qa (qV (i := 9) rfl (.inl rfl)) qa0))) qa0))) (qa (qTup (qa qS (qa (qTup (qa (qV (i := 8) rfl (.inl rfl)) (qa (qOp add_opr (add_opd _) (qV (i := 9) rfl (.inl rfl)) (qOp fdv_opr (fdv_ii _) (qV (i := 2) rfl (.inr (.inl rfl))) (qV (i := 5) rfl (.inl rfl)))) qa0))) qa0))) (qa (qTup (qa qS (qa (qTup (qa qI (qa qI qa0))) qa0))) qa0))))) qa0)))
    (qsCons (qDrop (qMt PySem.F.plainAttrs_list PySem.F.slot_list_extend PySem.F.type_list_extend mt_ext2 (ext2_mtd _) (qV (i := 6) rfl (.inl rfl)) (qa (qLst (qa (qTup (qa qS (qa (qTup (qa (qOp add_opr (add_opd _) (qV (i := 8) rfl (.inl rfl)) (qV (i := 3) rfl (.inr (.inl rfl)))) (qa (qOp op_sub (sub_ii _) (qV (i := 9) rfl (.inl rfl)) (qV (i := 2) rfl (.inr (.inl rfl)))) qa0))) qa0))) (qa (qTup (qa qS (qa (qTup (qa (qOp op_sub (sub_ii _) (qV (i := 8) rfl (.inl rfl)) (qV (i := 3) rfl (.inr (.inl rfl)))) (qa (qOp add_opr (add_opd _) (qV (i := 9) rfl (.inl rfl)) (qV (i := 2) rfl (.inr (.inl rfl)))) qa0))) qa0))) (qa (qTup (qa qS (qa (qTup (qa (qV (i := 8) rfl (.inl rfl)) (qa (qOp op_sub (sub_ii _) (qV (i := 9) rfl (.inl rfl)) qI) qa0))) qa0))) (qa (qTup (qa qS (qa (qTup (qa (qUn un_neg (neg_un _) qI) (qa (qV (i := 9) rfl (.inl rfl)) qa0))) qa0))) qa0))))) qa0)))
    (qsCons (qDrop (qMt PySem.F.plainAttrs_list PySem.F.slot_list_extend PySem.F.type_list_extend mt_ext2 (ext2_mtd _) (qV (i := 6) rfl (.inl rfl)) (qa (qLst (qa (qTup (qa qS (qa (qTup (qa (qOp op_powB (pow_ii _) qI qI) (qa qI qa0))) qa0))) (qa (qTup (qa qS (qa (qTup (qa qI (qa (qOp op_powB (pow_ii _) qI qI) qa0))) qa0))) (qa (qTup (qa qS (qa (qTup (qa (qOp add_opr (add_opd _) (qOp op_powB (pow_ii _) qI qI) qI) (qa (qV (i := 9) rfl (.inl rfl)) qa0))) qa0))) qa0)))) qa0)))
    (qsCons (qDrop (qMt PySem.F.plainAttrs_list PySem.F.slot_list_extend PySem.F.type_list_extend mt_ext2 (ext2_mtd _) (qV (i := 6) rfl (.inl rfl)) (qa (qLst (qa (qTup (qa qS (qa (qTup (qa (qV (i := 8) rfl (.inl rfl)) (qa (qOp add_opr (add_opd _) (qOp op_powB (pow_ii _) qI qI) qI) qa0))) qa0))) (qa (qTup (qa qS (qa (qTup (qa (qOp op_powB (pow_ii _) qI qI) (qa (qOp op_powB (pow_ii _) qI qI) qa0))) qa0))) (qa (qTup (qa qS (qa (qTup (qa (qOp op_powB (pow_ii _) (qOp op_powB (pow_ii _) qI qI) qI) (qa (qV (i := 9) rfl (.inl rfl)) qa0))) qa0))) qa0)))) qa0)))
    (qsCons (qDrop (qMt PySem.F.plainAttrs_list PySem.F.slot_list_extend PySem.F.type_list_extend mt_ext2 (ext2_mtd _) (qV (i := 6) rfl (.inl rfl)) (qa (qLst (qa (qTup (qa qS (qa (qTup (qa (qV (i := 8) rfl (.inl rfl)) qa0)) qa0))) (qa (qTup (qa qS (qa (qTup (qa (qV (i := 8) rfl (.inl rfl)) (qa (qV (i := 9) rfl (.inl rfl)) (qa qI qa0)))) qa0))) (qa (qTup (qa qS (qa (qTup qa0) qa0))) (qa (qTup (qa qS (qa (qV (i := 8) rfl (.inl rfl)) qa0))) (qa (qTup (qa qS (qa (qV (i := 4) rfl (.inr (.inl rfl))) qa0))) (qa (qTup (qa qS (qa (qTup (qa (qV (i := 8) rfl (.inl rfl)) (qa qN qa0))) qa0))) qa0))))))) qa0)))
    (qsCons (qDrop (qMt PySem.F.plainAttrs_list PySem.F.slot_list_extend PySem.F.type_list_extend mt_ext2 (ext2_mtd _) (qV (i := 6) rfl (.inl rfl)) (qa (qLst (qa (qTup (qa qS (qa (qLst (qa (qV (i := 8) rfl (.inl rfl)) (qa (qV (i := 9) rfl (.inl rfl)) qa0))) qa0))) (qa (qTup (qa qS (qa (qTup (qa qB (qa (qV (i := 9) rfl (.inl rfl)) qa0))) qa0))) qa0))) qa0)))
    (qsCons (qDrop (qMt PySem.F.plainAttrs_list PySem.F.slot_list_extend PySem.F.type_list_extend mt_ext2 (ext2_mtd _) (qV (i := 6) rfl (.inl rfl)) (qa (qLst (qa (qTup (qa qS (qa (qTup (qa (qV (i := 8) rfl (.inl rfl)) (qa qB qa0))) qa0))) (qa (qTup (qa qS (qa (qTup (qa (qTy call_str_int (str_cd _) T.n_str (qa (qV (i := 8) rfl (.inl rfl)) qa0)) (qa (qV (i := 9) rfl (.inl rfl)) qa0))) qa0))) (qa (qTup (qa qS (qa (qTup (qa (qTup (qa (qV (i := 8) rfl (.inl rfl)) qa0)) (qa (qV (i := 9) rfl (.inl rfl)) qa0))) qa0))) (qa (qTup (qa qS (qa qN qa0))) (qa (qTup (qa qS (qa qS qa0))) qa0)))))) qa0)))
    (qsOne (qRet (qOp add_opr (add_opd _) (qV (i := 6) rfl (.inl rfl)) (qLst (qa (qLst (qa qS (qa (qTup (qa (qV (i := 8) rfl (.inl rfl)) (qa (qV (i := 9) rfl (.inl rfl)) qa0))) qa0))) (qa (qTup (qa qS (qa (qTup (qa (qV (i := 8) rfl (.inl rfl)) (qa (qV (i := 9) rfl (.inl rfl)) qa0))) qa0))) (qa (qTup (qa qS (qa (qTup (qa (qV (i := 8) rfl (.inl rfl)) (qa (qV (i := 9) rfl (.inl rfl)) qa0))) (qa qI qa0)))) (qa (qTup (qa qS (qa (qV (i := 8) rfl (.inl rfl)) (qa (qV (i := 9) rfl (.inl rfl)) qa0)))) (qa (qTup (qa qS (qa (qTup (qa (qV (i := 8) rfl (.inl rfl)) (qa (qV (i := 9) rfl (.inl rfl)) qa0))) qa0))) (qa (qTup (qa (qV (i := 8) rfl (.inl rfl)) (qa (qV (i := 9) rfl (.inl rfl)) qa0))) qa0))))))))))))))))))))))))
def S1_law_own_rests (F_law_draw F_law_divisors : Fn) : VSt :=
  (vDrop (vMt "list" mExt2 (vVar 6) (vCons (vLst (vCons (vLst (vCons (vC (.str (Str.ofString "rest"))) (vCons (vVar 5) vNil))) (vCons (vTup (vCons (vC (.str (Str.ofString "Rest"))) (vCons (vVar 5) vNil))) (vCons (vTup (vCons (vC (.str (Str.ofString ""))) (vCons (vVar 5) vNil))) (vCons (vDic1 (vC (.str (Str.ofString "rest"))) (vVar 5)) vNil))))) vNil)))
def S2_law_own_rests (F_law_draw F_law_divisors : Fn) : VSt :=
  (vDrop (vMt "list" mExt2 (vVar 6) (vCons (vLst (vCons (vTup (vCons (vC (.str (Str.ofString "rest"))) (vCons (vBl bStr (vCons (vVar 5) vNil)) vNil))) (vCons (vTup (vCons (vC (.str (Str.ofString "rest"))) (vCons (vTup (vCons (vVar 5) vNil)) vNil))) (vCons (vTup (vCons (vC (.str (Str.ofString "rest"))) (vCons (vLst (vCons (vVar 5) vNil)) vNil))) (vCons (vTup (vCons (vC (.str (Str.ofString "rest"))) vNil)) (vCons (vTup (vCons (vC (.str (Str.ofString "rest"))) (vCons (vVar 5) (vCons (vC (.int 0)) vNil)))) vNil)))))) vNil)))
def S3_law_own_rests (F_law_draw F_law_divisors : Fn) : VSt :=
  (vDrop (vMt "list" mExt2 (vVar 6) (vCons (vLst (vCons (vTup (vCons (vC (.str (Str.ofString "rest"))) (vCons (vUn uNeg (vC (.int 1))) vNil))) (vCons (vTup (vCons (vC (.str (Str.ofString "rest"))) (vCons (vUn uNeg (vVar 5)) vNil))) (vCons (vTup (vCons (vC (.str (Str.ofString "rest"))) (vCons (vC (.bl true)) vNil))) (vCons (vTup (vCons (vC (.str (Str.ofString "rest"))) (vCons (vC (.bl false)) vNil))) (vCons (vTup (vCons (vC (.str (Str.ofString "rest"))) (vCons (vC .non) vNil))) vNil)))))) vNil)))
def S4_law_own_rests (F_law_draw F_law_divisors : Fn) : VSt :=
  (vDrop (vMt "list" mExt2 (vVar 6) (vCons (vLst (vCons (vTup (vCons (vC (.str (Str.ofString "rest"))) (vCons (vOp aPow (vC (.int 10)) (vC (.int 30))) vNil))) (vCons (vTup (vCons (vC (.str (Str.ofString "rest"))) (vCons (vOp dAdd (vOp aPow (vC (.int 10)) (vC (.int 30))) (vC (.int 1))) vNil))) (vCons (vTup (vCons (vC (.str (Str.ofString "rest"))) (vCons (vOp aPow (vOp aPow (vC (.int 10)) (vC (.int 55))) (vC (.int 7))) vNil))) (vCons (vTup (vCons (vC (.str (Str.ofString "rest"))) (vCons (vC (.int 0)) vNil))) vNil))))) vNil)))
def S5_law_own_rests (F_law_draw F_law_divisors : Fn) : VSt :=
  (vDrop (vMt "list" mExt2 (vVar 6) (vCons (vLst (vCons (vTup (vCons (vC (.str (Str.ofString "rest"))) (vCons (vOp dAdd (vC (.int 1)) (vCall 2 F_law_draw (vCons (vVar 0) (vCons (vC (.int 60)) vNil)))) vNil))) (vCons (vTup (vCons (vC (.str (Str.ofString "rest"))) (vCons (vOp dAdd (vC (.int 1)) (vCall 2 F_law_draw (vCons (vVar 0) (vCons (vC (.int 60)) vNil)))) vNil))) (vCons (vTup (vCons (vC (.str (Str.ofString "rest"))) (vCons (vC (.int 61)) vNil))) vNil)))) vNil)))
def S6_law_own_rests (F_law_draw F_law_divisors : Fn) : VSt :=
  (vDrop (vMt "list" mExt2 (vVar 6) (vCons (vLst (vCons (vTup (vCons (vC (.str (Str.ofString "rest"))) (vCons (vVar 2) vNil))) (vCons (vTup (vCons (vC (.str (Str.ofString "rest"))) (vCons (vVar 3) vNil))) (vCons (vTup (vCons (vC (.str (Str.ofString "rest"))) (vCons (vVar 4) vNil))) (vCons (vTup (vCons (vC (.str (Str.ofString "rest"))) (vCons (vOp dAdd (vVar 5) (vC (.int 1))) vNil))) (vCons (vTup (vCons (vC (.str (Str.ofString "rest"))) (vCons (vC (.int 2)) vNil))) (vCons (vTup (vCons (vC (.str (Str.ofString "rest"))) (vCons (vOp dMul (vVar 5) (vC (.int 2))) vNil))) vNil))))))) vNil)))
def E1_law_own_rests (F_law_draw F_law_divisors : Fn) : VE :=
  (vTup (vCons (vC (.str (Str.ofString "rest"))) (vCons (vVar 7) vNil)))
def C1_law_own_rests (F_law_draw F_law_divisors : Fn) : VE :=
  (vLc (vIt (vCall 2 F_law_divisors (vCons (vVar 2) (vCons (vVar 3) vNil)))) [7] (pN 7) vYes (E1_law_own_rests F_law_draw F_law_divisors))
def S7_law_own_rests (F_law_draw F_law_divisors : Fn) : VSt :=
  (vAsg (C1_law_own_rests F_law_draw F_law_divisors) (gName 6))
def S8_law_own_rests (F_law_draw F_law_divisors : Fn) : VSt :=
  (vAsg (vVar 1) (gTupl 4 (gsCons (gName 2) (gsCons (gName 3) (gsCons (gName 4) (gsCons (gName 5) gsNil))))))
def m_law_own_rests (F_law_draw F_law_divisors : Fn) : VSt :=
  (vSeq (S8_law_own_rests F_law_draw F_law_divisors)
    (vSeq (S7_law_own_rests F_law_draw F_law_divisors)
    (vSeq (S6_law_own_rests F_law_draw F_law_divisors)
    (vSeq (S5_law_own_rests F_law_draw F_law_divisors)
    (vSeq (S4_law_own_rests F_law_draw F_law_divisors)
    (vSeq (S3_law_own_rests F_law_draw F_law_divisors)
    (vSeq (S2_law_own_rests F_law_draw F_law_divisors)
    (vSeq (S1_law_own_rests F_law_draw F_law_divisors)
    (vRet (vOp dAdd (vVar 6) (vLst (vCons (vTup (vCons (vC .non) (vCons (vVar 5) vNil))) (vCons (vTup (vCons (vVar 5) (vCons (vC (.str (Str.ofString "rest"))) vNil))) vNil)))))))))))))
theorem ok_law_own_rests (T : Txt K mg) {F_law_draw F_law_divisors : Fn} (G_law_draw : FnG P w K mg base 1 T.a_law_draw T.d_law_draw P_law_draw F_law_draw) (G_law_divisors : FnG P w K mg base 1 T.a_law_divisors T.d_law_divisors P_law_divisors F_law_divisors) : FnG P w K mg base 2 T.a_law_own_rests T.d_law_own_rests P_law_own_rests (mF 8 (m_law_own_rests F_law_draw F_law_divisors)) :=
  fnG_of T.f_law_own_rests sc_law_own_rests fun cdv A outer s H E a =>
    (qsCons (qAsg (qV (i := 1) rfl (.inl rfl)) (qgT rfl (qgs (qgN (i := 2) sc_law_own_rests.nd rfl (.inl rfl)) (qgs (qgN (i := 3) sc_law_own_rests.nd rfl (.inl rfl)) (qgs (qgN (i := 4) sc_law_own_rests.nd rfl (.inl rfl)) (qgs (qgN (i := 5) sc_law_own_rests.nd rfl (.inl rfl)) qgs0))))))
    (qsCons (qSetLc (i := 6) (own := [("g", 7)]) rfl sc_law_own_rests.nd rfl rfl (sw_true rfl rfl rfl (by decide +kernel)) (qIt (qCall G_law_divisors (a.mono (by decide)) T.g_law_divisors T.k_law_divisors T.b_law_divisors (qa (qV (i := 2) rfl (.inl rfl)) (qa (qV (i := 3) rfl (.inl rfl)) qa0)))) (blkOk_by (N := N_law_own_rests) (sc := defScope s_law_own_rests) (own := [("g", 7)]) (by decide +kernel)) (tgd_name (by decide)) (fun _ _ _ _ _ => (pg_name (i := 7) sc_law_own_rests.nd rfl (.inl rfl))) (fun _ _ _ _ _ => (qYes _ _)) (fun _ _ _ _ _ => (qTup (qa qS (qa (qV (i := 7) rfl (.inl rfl)) qa0)))))
    (qsCons (qDrop (qMt PySem.F.plainAttrs_list PySem.F.slot_list_extend PySem.F.type_list_extend mt_ext2 (ext2_mtd _) (qV (i := 6) rfl (.inl rfl)) (qa (qLst (qa (qTup (qa qS (qa (qV (i := 2) rfl (.inl rfl)) qa0))) (qa (qTup (qa qS (qa (qV (i := 3) rfl (.inl rfl)) qa0))) (qa (qTup (qa qS (qa (qV (i := 4) rfl (.inl rfl)) qa0))) (qa (qTup (qa qS (qa (qOp add_opr (add_opd _) (qV (i := 5) rfl (.inl rfl)) qI) qa0))) (qa (qTup (qa qS (qa qI qa0))) (qa (qTup (qa qS (qa (qOp mul_opr (mul_opd _) (qV (i := 5) rfl (.inl rfl)) qI) qa0))) qa0))))))) qa0)))
    (qsCons (qDrop (qMt PySem.F.plainAttrs_list PySem.F.slot_list_extend PySem.F.type_list_extend mt_ext2 (ext2_mtd _) (qV (i := 6) rfl (.inl rfl)) (qa (qLst (qa (qTup (qa qS (qa (qOp add_opr (add_opd _) qI (qCall G_law_draw (a.mono (by decide)) T.g_law_draw T.k_law_draw T.b_law_draw (qa (qV (i := 0) rfl (.inl rfl)) (qa qI qa0)))) qa0))) (qa (qTup (qa qS (qa (qOp add_opr (add_opd _) qI (qCall G_law_draw (a.mono (by decide)) T.g_law_draw T.k_law_draw T.b_law_draw (qa (qV (i := 0) rfl (.inl rfl)) (qa qI qa0)))) qa0))) (qa (qTup (qa qS (qa qI qa0))) qa0)))) qa0)))
    (qsCons (qDrop (qMt PySem.F.plainAttrs_list PySem.F.slot_list_extend PySem.F.type_list_extend mt_ext2 (ext2_mtd _) (qV (i := 6) rfl (.inl rfl)) (qa (qLst (qa (qTup (qa qS (qa (qOp op_powB (pow_ii _) qI qI) qa0))) (qa (qTup (qa qS (qa (qOp add_opr (add_opd _) (qOp op_powB (pow_ii _) qI qI) qI) qa0))) (qa (qTup (qa qS (qa (qOp op_powB (pow_ii _) (qOp op_powB (pow_ii _) qI qI) qI) qa0))) (qa (qTup (qa qS (qa qI qa0))) qa0))))) qa0)))
    (qsCons (qDrop (qMt PySem.F.plainAttrs_list PySem.F.slot_list_extend PySem.F.type_list_extend mt_ext2 (ext2_mtd _) (qV (i := 6) rfl (.inl rfl)) (qa (qLst (qa (qTup (qa qS (qa (qUn un_neg (neg_un _) qI) qa0))) (qa (qTup (qa qS (qa (qUn un_neg (neg_un _) (qV (i := 5) rfl (.inl rfl))) qa0))) (qa (qTup (qa qS (qa qB qa0))) (qa (qTup (qa qS (qa qB qa0))) (qa (qTup (qa qS (qa qN qa0))) qa0)))))) qa0)))
    (qsCons (qDrop (qMt PySem.F.plainAttrs_list PySem.F.slot_list_extend PySem.F.type_list_extend mt_ext2 (ext2_mtd _) (qV (i := 6) rfl (.inl rfl)) (qa (qLst (qa (qTup (qa qS (qa (qTy call_str_int (str_cd _) T.n_str (qa (qV (i := 5) rfl (.inl rfl)) qa0)) qa0))) (qa (qTup (qa qS (qa (qTup (qa (qV (i := 5) rfl (.inl rfl)) qa0)) qa0))) (qa (qTup (qa qS (qa (qLst (qa (qV (i := 5) rfl (.inl rfl)) qa0)) qa0))) (qa (qTup (qa qS qa0)) (qa (qTup (qa qS (qa (qV (i := 5) rfl (.inl rfl)) (qa qI qa0)))) qa0)))))) qa0)))
    (qsCons (qDrop (qMt PySem.F.plainAttrs_list PySem.F.slot_list_extend PySem.F.type_list_extend mt_ext2 (ext2_mtd _) (qV (i := 6) rfl (.inl rfl)) (qa (qLst (qa (qLst (qa qS (qa (qV (i := 5) rfl (.inl rfl)) qa0))) (qa (qTup (qa qS (qa (qV (i := 5) rfl (.inl rfl)) qa0))) (qa (qTup (qa qS (qa (qV (i := 5) rfl (.inl rfl)) qa0))) (qa (qDic1 qS (qV (i := 5) rfl (.inl rfl))) qa0))))) qa0)))
    (qsOne (qRet (qOp add_opr (add_opd _) (qV (i := 6) rfl (.inl rfl)) (qLst (qa (qTup (qa qN (qa (qV (i := 5) rfl (.inl rfl)) qa0))) (qa (qTup (qa (qV (i := 5) rfl (.inl rfl)) (qa qS qa0))) qa0))))))))))))))
def S1_law_own_overs (F_law_draw : Fn) : VSt :=
  (vDrop (vMt "list" mExt2 (vVar 8) (vCons (vLst (vCons (vTup (vCons (vC (.str (Str.ofString "over"))) (vCons (vOp dAdd (vOp aPow (vC (.int 10)) (vC (.int 30))) (vC (.int 1))) vNil))) (vCons (vTup (vCons (vC (.str (Str.ofString "over"))) (vCons (vOp aPow (vOp aPow (vC (.int 10)) (vC (.int 55))) (vC (.int 7))) vNil))) (vCons (vTup (vCons (vC (.str (Str.ofString "over"))) (vCons (vTup (vCons (vC (.int 0)) (vCons (vC (.int 0)) vNil))) vNil))) (vCons (vC (.str (Str.ofString "over"))) (vCons (vTup (vCons (vC (.str (Str.ofString "over"))) (vCons (vC (.str (Str.ofString "over"))) vNil))) vNil)))))) vNil)))
def S2_law_own_overs (F_law_draw : Fn) : VSt :=
  (vDrop (vMt "list" mExt2 (vVar 8) (vCons (vLst (vCons (vTup (vCons (vC (.str (Str.ofString "over"))) (vCons (vC (.bl true)) vNil))) (vCons (vTup (vCons (vC (.str (Str.ofString "over"))) (vCons (vC (.bl false)) vNil))) (vCons (vTup (vCons (vC (.str (Str.ofString "over"))) (vCons (vC .non) vNil))) (vCons (vTup (vCons (vC (.str (Str.ofString "over"))) (vCons (vUn uNeg (vC (.int 1))) vNil))) (vCons (vTup (vCons (vC (.str (Str.ofString "over"))) (vCons (vOp aPow (vC (.int 10)) (vC (.int 30))) vNil))) (vCons (vTup (vCons (vC (.str (Str.ofString "over"))) vNil)) vNil))))))) vNil)))
def B1_law_own_overs (F_law_draw : Fn) : VSt :=
  (vSeq (vDrop (vMt "list" mExt2 (vVar 8) (vCons (vLst (vCons (vTup (vCons (vC (.str (Str.ofString "over"))) (vCons (vVar 9) vNil))) (vCons (vTup (vCons (vC (.str (Str.ofString "over"))) (vCons (vOp dAdd (vVar 9) (vC (.int 1))) vNil))) (vCons (vTup (vCons (vC (.str (Str.ofString "over"))) (vCons (vOp aSub (vVar 9) (vC (.int 1))) vNil))) (vCons (vTup (vCons (vC (.str (Str.ofString "over"))) (vCons (vOp dAdd (vVar 9) (vVar 6)) vNil))) (vCons (vTup (vCons (vC (.str (Str.ofString "over"))) (vCons (vOp aSub (vVar 9) (vVar 6)) vNil))) vNil)))))) vNil)))
    (vSeq (vDrop (vMt "list" mExt2 (vVar 8) (vCons (vLst (vCons (vTup (vCons (vC (.str (Str.ofString "over"))) (vCons (vOp dAdd (vVar 9) (vOp dMul (vC (.int 2)) (vVar 6))) vNil))) (vCons (vTup (vCons (vC (.str (Str.ofString "over"))) (vCons (vOp dAdd (vOp dAdd (vVar 9) (vVar 6)) (vC (.int 1))) vNil))) (vCons (vTup (vCons (vC (.str (Str.ofString "over"))) (vCons (vTup (vCons (vVar 9) vNil)) vNil))) (vCons (vTup (vCons (vC (.str (Str.ofString "over"))) (vCons (vBl bStr (vCons (vVar 9) vNil)) vNil))) vNil))))) vNil)))
    (vDrop (vMt "list" mExt2 (vVar 8) (vCons (vLst (vCons (vTup (vCons (vC (.str (Str.ofString "Over"))) (vCons (vVar 9) vNil))) (vCons (vLst (vCons (vC (.str (Str.ofString "over"))) (vCons (vVar 9) vNil))) (vCons (vTup (vCons (vC (.str (Str.ofString "over"))) (vCons (vVar 9) (vCons (vVar 9) vNil)))) (vCons (vTup (vCons (vC (.str (Str.ofString "overs"))) (vCons (vVar 9) vNil))) (vCons (vTup (vCons (vC (.str (Str.ofString "rest"))) (vCons (vVar 9) vNil))) (vCons (vTup (vCons (vC (.str (Str.ofString "over"))) (vCons (vLst (vCons (vVar 9) vNil)) vNil))) vNil))))))) vNil)))))
def L1_law_own_overs (F_law_draw : Fn) : VSt :=
  (vFor (vIt (vOp dAdd (vVar 7) (vLst (vCons (vCall 2 F_law_draw (vCons (vVar 0) (vCons (vVar 6) vNil))) vNil)))) (gP (pN 9)) (B1_law_own_overs F_law_draw))
def E1_law_own_overs (F_law_draw : Fn) : VE :=
  (vTup (vCons (vC (.str (Str.ofString "over"))) (vCons (vVar 9) vNil)))
def C1_law_own_overs (F_law_draw : Fn) : VE :=
  (vLc (vIt (vLst (vCons (vC (.int 0)) (vCons (vC (.int 1)) (vCons (vOp aSub (vVar 6) (vC (.int 1))) (vCons (vVar 6) (vCons (vOp dAdd (vVar 6) (vC (.int 1))) (vCons (vVar 3) (vCons (vCall 2 F_law_draw (vCons (vVar 0) (vCons (vC (.int 60)) vNil))) (vCons (vC (.int 60)) (vCons (vC (.int 61)) vNil))))))))))) [9] (pN 9) vYes (E1_law_own_overs F_law_draw))
def S3_law_own_overs (F_law_draw : Fn) : VSt :=
  (vAsg (C1_law_own_overs F_law_draw) (gName 8))
def T1_law_own_overs (F_law_draw : Fn) : VT :=
  (vTr (vOp dEq (vOp aMod (vBl bInt (vCons (vOp aSub (vOp dMul (vVar 9) (vVar 2)) (vVar 4)) vNil)) (vVar 3)) (vC (.int 0))))
def E2_law_own_overs (F_law_draw : Fn) : VE :=
  (vVar 9)
def C2_law_own_overs (F_law_draw : Fn) : VE :=
  (vLc (vRng1 (vCons (vVar 6) vNil)) [9] (pN 9) (T1_law_own_overs F_law_draw) (E2_law_own_overs F_law_draw))
def S4_law_own_overs (F_law_draw : Fn) : VSt :=
  (vAsg (C2_law_own_overs F_law_draw) (gName 7))
def S5_law_own_overs (F_law_draw : Fn) : VSt :=
  (vAsg (vOp aFdv (vVar 3) (vVar 5)) (gName 6))
def S6_law_own_overs (F_law_draw : Fn) : VSt :=
  (vAsg (vVar 1) (gTupl 4 (gsCons (gName 2) (gsCons (gName 3) (gsCons (gName 4) (gsCons (gName 5) gsNil))))))
def m_law_own_overs (F_law_draw : Fn) : VSt :=
  (vSeq (S6_law_own_overs F_law_draw)
    (vSeq (S5_law_own_overs F_law_draw)
    (vSeq (S4_law_own_overs F_law_draw)
    (vSeq (S3_law_own_overs F_law_draw)
    (vSeq (L1_law_own_overs F_law_draw)
    (vSeq (S2_law_own_overs F_law_draw)
    (vSeq (S1_law_own_overs F_law_draw)
    (vRet (vOp dAdd (vVar 8) (vLst (vCons (vTup vNil) (vCons (vC .non) (vCons (vC (.bl true)) (vCons (vC (.int 0)) (vCons (vDic1 (vC (.str (Str.ofString "over"))) (vC (.int 0))) vNil)))))))))))))))
theorem ok_law_own_overs (T : Txt K mg) {F_law_draw : Fn} (G_law_draw : FnG P w K mg base 1 T.a_law_draw T.d_law_draw P_law_draw F_law_draw) : FnG P w K mg base 2 T.a_law_own_overs T.d_law_own_overs P_law_own_overs (mF 10 (m_law_own_overs F_law_draw)) :=
  fnG_of T.f_law_own_overs sc_law_own_overs fun cdv A outer s H E a =>
    (qsCons (qAsg (qV (i := 1) rfl (.inl rfl)) (qgT rfl (qgs (qgN (i := 2) sc_law_own_overs.nd rfl (.inr rfl)) (qgs (qgN (i := 3) sc_law_own_overs.nd rfl (.inr rfl)) (qgs (qgN (i := 4) sc_law_own_overs.nd rfl (.inr rfl)) (qgs (qgN (i := 5) sc_law_own_overs.nd rfl (.inl rfl)) qgs0))))))
    (qsCons (qSet (i := 6) sc_law_own_overs.nd (qOp fdv_opr (fdv_ii _) (qV (i := 3) rfl (.inr (.inl rfl))) (qV (i := 5) rfl (.inl rfl))) rfl (.inl rfl))
    (qsCons (qSetLc (i := 7) (own := [("x", 9)]) rfl sc_law_own_overs.nd rfl rfl (sw_true rfl rfl rfl (by decide +kernel)) (qRng1 T.n_range (qa (qV (i := 6) rfl (.inl rfl)) qa0)) (blkOk_by (N := N_law_own_overs) (sc := defScope s_law_own_overs) (own := [("x", 9)]) (by decide +kernel)) (tgd_name (by decide)) (fun _ _ _ _ _ => (pg_name (i := 9) sc_law_own_overs.nd rfl (.inl rfl))) (fun _ _ _ _ _ => (pts_one (qCmT (eq_opr a.blk.hu) (eq_opd _) (qOp op_modN (mod_ii _) (qTy call_int1 (int_cd _) T.n_int (qa (qOp op_sub (sub_ii _) (qOp mul_opr (mul_opd _) (qV (i := 9) rfl (.inl rfl)) (qV (i := 2) rfl (.inr (.inl rfl)))) (qV (i := 4) rfl (.inr (.inl rfl)))) qa0)) (qV (i := 3) rfl (.inr (.inl rfl)))) qI))) (fun _ _ _ _ _ => (qV (i := 9) rfl (.inl rfl))))
    (qsCons (qSetLc (i := 8) (own := [("x", 9)]) rfl sc_law_own_overs.nd rfl rfl (sw_true rfl rfl rfl (by decide +kernel)) (qIt (qLst (qa qI (qa qI (qa (qOp op_sub (sub_ii _) (qV (i := 6) rfl (.inl rfl)) qI) (qa (qV (i := 6) rfl (.inl rfl)) (qa (qOp add_opr (add_opd _) (qV (i := 6) rfl (.inl rfl)) qI) (qa (qV (i := 3) rfl (.inr (.inl rfl))) (qa (qCall G_law_draw (a.mono (by decide)) T.g_law_draw T.k_law_draw T.b_law_draw (qa (qV (i := 0) rfl (.inl rfl)) (qa qI qa0))) (qa qI (qa qI qa0))))))))))) (blkOk_by (N := N_law_own_overs) (sc := defScope s_law_own_overs) (own := [("x", 9)]) (by decide +kernel)) (tgd_name (by decide)) (fun _ _ _ _ _ => (pg_name (i := 9) sc_law_own_overs.nd rfl (.inl rfl))) (fun _ _ _ _ _ => (qYes _ _)) (fun _ _ _ _ _ => (qTup (qa qS (qa (qV (i := 9) rfl (.inl rfl)) qa0)))))
    (qsCons (qFor a.ps rfl (qIt (qOp add_opr (add_opd _) (qV (i := 7) rfl (.inl rfl)) (qLst (qa (qCall G_law_draw (a.mono (by decide)) T.g_law_draw T.k_law_draw T.b_law_draw (qa (qV (i := 0) rfl (.inl rfl)) (qa (qV (i := 6) rfl (.inl rfl)) qa0))) qa0)))) (qgP (vs := [9]) (pg_name (i := 9) sc_law_own_overs.nd rfl (.inl rfl)) (tgd_name (by decide))) (qsCons (qDrop (qMt PySem.F.plainAttrs_list PySem.F.slot_list_extend PySem.F.type_list_extend mt_ext2 (ext2_mtd _) (qV (i := 8) rfl (.inl rfl)) (qa (qLst (qa (qTup (qa qS (qa (qV (i := 9) rfl (.inl rfl)) qa0))) (qa (qTup (qa qS (qa (qOp add_opr (add_opd _) (qV (i := 9) rfl (.inl rfl)) qI) qa0))) (qa (qTup (qa qS (qa (qOp op_sub (sub_ii _) (qV (i := 9) rfl (.inl rfl)) qI) qa0))) (qa (qTup (qa qS (qa (qOp add_opr (add_opd _) (qV (i := 9) rfl (.inl rfl)) (qV (i := 6) rfl (.inl rfl))) qa0))) (qa (qTup (qa qS (qa (qOp op_sub (sub_ii _) (qV (i := 9) rfl (.inl rfl)) (qV (i := 6) rfl (.inl rfl))) qa0))) qa0)))))) qa0)))
    (qsCons (qDrop (qMt PySem.F.plainAttrs_list PySem.F.slot_list_extend PySem.F.type_list_extend mt_ext2 (ext2_mtd _) (qV (i := 8) rfl (.inl rfl)) (qa (qLst (qa (qTup (qa qS (qa (qOp add_opr (add_opd _) (qV (i := 9) rfl (.inl rfl)) (qOp mul_opr (mul_opd _) qI (qV (i := 6) rfl (.inl rfl)))) qa0))) (qa (qTup (qa qS (qa (qOp add_opr (add_opd _) (qOp add_opr (add_opd _) (qV (i := 9) rfl (.inl rfl)) (qV (i := 6) rfl (.inl rfl))) qI) qa0))) (qa (qTup (qa qS (qa (qTup (qa (qV (i := 9) rfl (.inl rfl)) qa0)) qa0))) (qa (qTup (qa qS (qa (qTy call_str_int (str_cd _) T.n_str (qa (qV (i := 9) rfl (.inl rfl)) qa0)) qa0))) qa0))))) qa0)))
    (qsOne (qDrop (qMt PySem.F.plainAttrs_list PySem.F.slot_list_extend PySem.F.type_list_extend mt_ext2 (ext2_mtd _) (qV (i := 8) rfl (.inl rfl)) (qa (qLst (qa (qTup (qa qS (qa (qV (i := 9) rfl (.inl rfl)) qa0))) (qa (qLst (qa qS (qa (qV (i := 9) rfl (.inl rfl)) qa0))) (qa (qTup (qa qS (qa (qV (i := 9) rfl (.inl rfl)) (qa (qV (i := 9) rfl (.inl rfl)) qa0)))) (qa (qTup (qa qS (qa (qV (i := 9) rfl (.inl rfl)) qa0))) (qa (qTup (qa qS (qa (qV (i := 9) rfl (.inl rfl)) qa0))) (qa (qTup (qa qS (qa (qLst (qa (qV (i := 9) rfl (.inl rfl)) qa0)) qa0))) qa0))))))) qa0)))))))
    (qsCons (qDrop (qMt PySem.F.plainAttrs_list PySem.F.slot_list_extend PySem.F.type_list_extend mt_ext2 (ext2_mtd _) (qV (i := 8) rfl (.inl rfl)) (qa (qLst (qa (qTup (qa qS (qa qB qa0))) (qa (qTup (qa qS (qa qB qa0))) (qa (qTup (qa qS (qa qN qa0))) (qa (qTup (qa qS (qa (qUn un_neg (neg_un _) qI) qa0))) (qa (qTup (qa qS (qa (qOp op_powB (pow_ii _) qI qI) qa0))) (qa (qTup (qa qS qa0)) qa0))))))) qa0)))
    (qsCons (qDrop (qMt PySem.F.plainAttrs_list PySem.F.slot_list_extend PySem.F.type_list_extend mt_ext2 (ext2_mtd _) (qV (i := 8) rfl (.inl rfl)) (qa (qLst (qa (qTup (qa qS (qa (qOp add_opr (add_opd _) (qOp op_powB (pow_ii _) qI qI) qI) qa0))) (qa (qTup (qa qS (qa (qOp op_powB (pow_ii _) (qOp op_powB (pow_ii _) qI qI) qI) qa0))) (qa (qTup (qa qS (qa (qTup (qa qI (qa qI qa0))) qa0))) (qa qS (qa (qTup (qa qS (qa qS qa0))) qa0)))))) qa0)))
    (qsOne (qRet (qOp add_opr (add_opd _) (qV (i := 8) rfl (.inl rfl)) (qLst (qa (qTup qa0) (qa qN (qa qB (qa qI (qa (qDic1 qS qI) qa0))))))))))))))))
def S1_law_over (F_law_draw F_law_pick F_law_divisors : Fn) : VSt :=
  (vAsg (vCall 2 F_law_pick (vCons (vVar 0) (vCons (vVar 5) vNil))) (gName 6))
def S2_law_over (F_law_draw F_law_pick F_law_divisors : Fn) : VSt :=
  (vIfS (vTr (vOp dEq (vVar 5) (vLst vNil))) (vRet (vTup (vCons (vOp dMul (vC (.int 7)) (vVar 1)) (vCons (vOp dMul (vC (.int 5)) (vVar 1)) (vCons (vOp dMul (vVar 1) (vCall 2 F_law_pick (vCons (vVar 0) (vCons (vLst (vCons (vC (.int 1)) (vCons (vC (.int 2)) (vCons (vC (.int 3)) (vCons (vC (.int 4)) (vCons (vC (.int 6)) (vCons (vC (.int 8)) (vCons (vC (.int 9)) (vCons (vC (.int 11)) (vCons (vC (.int 13)) (vCons (vC (.int 16)) (vCons (vC (.int 18)) (vCons (vC (.int 23)) vNil))))))))))))) vNil)))) vNil))))) vPass)
def T1_law_over (F_law_draw F_law_pick F_law_divisors : Fn) : VT :=
  (vTr (vOp aGt (vOp dMul (vVar 6) (vVar 2)) (vVar 3)))
def E1_law_over (F_law_draw F_law_pick F_law_divisors : Fn) : VE :=
  (vVar 6)
def C1_law_over (F_law_draw F_law_pick F_law_divisors : Fn) : VE :=
  (vLc (vRng2 (vCons (vC (.int 1)) (vCons (vVar 4) vNil))) [6] (pN 6) (T1_law_over F_law_draw F_law_pick F_law_divisors) (E1_law_over F_law_draw F_law_pick F_law_divisors))
def S3_law_over (F_law_draw F_law_pick F_law_divisors : Fn) : VSt :=
  (vAsg (C1_law_over F_law_draw F_law_pick F_law_divisors) (gName 5))
def S4_law_over (F_law_draw F_law_pick F_law_divisors : Fn) : VSt :=
  (vAsg (vOp aFdv (vVar 3) (vOp dIx (vCall 2 F_law_divisors (vCons (vVar 2) (vCons (vVar 3) vNil))) (vUn uNeg (vC (.int 1))))) (gName 4))
def S5_law_over (F_law_draw F_law_pick F_law_divisors : Fn) : VSt :=
  (vAsg (vTup (vCons (vOp dMul (vVar 1) (vOp dAdd (vC (.int 2)) (vCall 2 F_law_draw (vCons (vVar 0) (vCons (vOp aSub (vOp aFdv (vC (.int 60)) (vVar 1)) (vC (.int 1))) vNil))))) (vCons (vOp dMul (vVar 1) (vOp dAdd (vC (.int 2)) (vCall 2 F_law_draw (vCons (vVar 0) (vCons (vOp aSub (vOp aFdv (vC (.int 60)) (vVar 1)) (vC (.int 1))) vNil))))) vNil))) (gTupl 2 (gsCons (gName 2) (gsCons (gName 3) gsNil))))
def S6_law_over (F_law_draw F_law_pick F_law_divisors : Fn) : VSt :=
  (vAsg (vCall 2 F_law_pick (vCons (vVar 0) (vCons (vLst (vCons (vC (.int 1)) (vCons (vC (.int 1)) (vCons (vC (.int 2)) (vCons (vC (.int 3)) vNil))))) vNil))) (gName 1))
def m_law_over (F_law_draw F_law_pick F_law_divisors : Fn) : VSt :=
  (vSeq (S6_law_over F_law_draw F_law_pick F_law_divisors)
    (vSeq (S5_law_over F_law_draw F_law_pick F_law_divisors)
    (vSeq (S4_law_over F_law_draw F_law_pick F_law_divisors)
    (vSeq (S3_law_over F_law_draw F_law_pick F_law_divisors)
    (vSeq (S2_law_over F_law_draw F_law_pick F_law_divisors)
    (vSeq (S1_law_over F_law_draw F_law_pick F_law_divisors)
    (vRet (vTup (vCons (vVar 2) (vCons (vVar 3) (vCons (vOp aSub (vOp dMul (vVar 6) (vVar 2)) (vOp dMul (vOp dAdd (vC (.int 1)) (vCall 2 F_law_draw (vCons (vVar 0) (vCons (vOp aFdv (vOp dMul (vVar 6) (vVar 2)) (vVar 3)) vNil)))) (vVar 3))) vNil)))))))))))
theorem ok_law_over (T : Txt K mg) {F_law_draw F_law_pick F_law_divisors : Fn} (G_law_draw : FnG P w K mg base 1 T.a_law_draw T.d_law_draw P_law_draw F_law_draw) (G_law_pick : FnG P w K mg base 2 T.a_law_pick T.d_law_pick P_law_pick F_law_pick) (G_law_divisors : FnG P w K mg base 1 T.a_law_divisors T.d_law_divisors P_law_divisors F_law_divisors) : FnG P w K mg base 3 T.a_law_over T.d_law_over P_law_over (mF 7 (m_law_over F_law_draw F_law_pick F_law_divisors)) :=
  fnG_of T.f_law_over sc_law_over fun cdv A outer s H E a =>
    (qsCons (qSet (i := 1) sc_law_over.nd (qCall G_law_pick (a.mono (by decide)) T.g_law_pick T.k_law_pick T.b_law_pick (qa (qV (i := 0) rfl (.inl rfl)) (qa (qLst (qa qI (qa qI (qa qI (qa qI qa0))))) qa0))) rfl (.inl rfl))
    (qsCons (qAsg (qTup (qa (qOp mul_opr (mul_opd _) (qV (i := 1) rfl (.inl rfl)) (qOp add_opr (add_opd _) qI (qCall G_law_draw (a.mono (by decide)) T.g_law_draw T.k_law_draw T.b_law_draw (qa (qV (i := 0) rfl (.inl rfl)) (qa (qOp op_sub (sub_ii _) (qOp fdv_opr (fdv_ii _) qI (qV (i := 1) rfl (.inl rfl))) qI) qa0))))) (qa (qOp mul_opr (mul_opd _) (qV (i := 1) rfl (.inl rfl)) (qOp add_opr (add_opd _) qI (qCall G_law_draw (a.mono (by decide)) T.g_law_draw T.k_law_draw T.b_law_draw (qa (qV (i := 0) rfl (.inl rfl)) (qa (qOp op_sub (sub_ii _) (qOp fdv_opr (fdv_ii _) qI (qV (i := 1) rfl (.inl rfl))) qI) qa0))))) qa0))) (qgT rfl (qgs (qgN (i := 2) sc_law_over.nd rfl (.inr rfl)) (qgs (qgN (i := 3) sc_law_over.nd rfl (.inr rfl)) qgs0))))
    (qsCons (qSet (i := 4) sc_law_over.nd (qOp fdv_opr (fdv_ii _) (qV (i := 3) rfl (.inr (.inl rfl))) (qIx ix_seq (ix_opd _) (qCall G_law_divisors (a.mono (by decide)) T.g_law_divisors T.k_law_divisors T.b_law_divisors (qa (qV (i := 2) rfl (.inr (.inl rfl))) (qa (qV (i := 3) rfl (.inr (.inl rfl))) qa0))) (qUn un_neg (neg_un _) qI))) rfl (.inl rfl))
    (qsCons (qSetLc (i := 5) (own := [("x", 6)]) rfl sc_law_over.nd rfl rfl (sw_true rfl rfl rfl (by decide +kernel)) (qRng2 T.n_range (qa qI (qa (qV (i := 4) rfl (.inl rfl)) qa0))) (blkOk_by (N := N_law_over) (sc := defScope s_law_over) (own := [("x", 6)]) (by decide +kernel)) (tgd_name (by decide)) (fun _ _ _ _ _ => (pg_name (i := 6) sc_law_over.nd rfl (.inl rfl))) (fun _ _ _ _ _ => (pts_one (qCmT op_gt (gt_ii _) (qOp mul_opr (mul_opd _) (qV (i := 6) rfl (.inl rfl)) (qV (i := 2) rfl (.inr (.inl rfl)))) (qV (i := 3) rfl (.inr (.inl rfl)))))) (fun _ _ _ _ _ => (qV (i := 6) rfl (.inl rfl))))
    (qsCons (qIfS (qCmT (eq_opr a.hu) (eq_opd _) (qV (i := 5) rfl (.inl rfl)) (qLst qa0)) (qsOne (qRet (qTup (qa (qOp mul_opr (mul_opd _) qI (qV (i := 1) rfl (.inl rfl))) (qa (qOp mul_opr (mul_opd _) qI (qV (i := 1) rfl (.inl rfl))) (qa (qOp mul_opr (mul_opd _) (qV (i := 1) rfl (.inl rfl)) (qCall G_law_pick (a.mono (by decide)) T.g_law_pick T.k_law_pick T.b_law_pick (qa (qV (i := 0) rfl (.inl rfl)) (qa (qLst (qa qI (qa qI (qa qI (qa qI (qa qI (qa qI (qa qI (qa qI (qa qI (qa qI (qa qI (qa qI qa0))))))))))))) qa0)))) qa0)))))) qsNil)
    (qsCons (qSet (i := 6) sc_law_over.nd (qCall G_law_pick (a.mono (by decide)) T.g_law_pick T.k_law_pick T.b_law_pick (qa (qV (i := 0) rfl (.inl rfl)) (qa (qV (i := 5) rfl (.inl rfl)) qa0))) rfl (.inl rfl))
    (qsOne (qRet (qTup (qa (qV (i := 2) rfl (.inr (.inl rfl))) (qa (qV (i := 3) rfl (.inr (.inl rfl))) (qa (qOp op_sub (sub_ii _) (qOp mul_opr (mul_opd _) (qV (i := 6) rfl (.inl rfl)) (qV (i := 2) rfl (.inr (.inl rfl)))) (qOp mul_opr (mul_opd _) (qOp add_opr (add_opd _) qI (qCall G_law_draw (a.mono (by decide)) T.g_law_draw T.k_law_draw T.b_law_draw (qa (qV (i := 0) rfl (.inl rfl)) (qa (qOp fdv_opr (fdv_ii _) (qOp mul_opr (mul_opd _) (qV (i := 6) rfl (.inl rfl)) (qV (i := 2) rfl (.inr (.inl rfl)))) (qV (i := 3) rfl (.inr (.inl rfl)))) qa0)))) (qV (i := 3) rfl (.inr (.inl rfl))))) qa0))))))))))))
def S1_law_triples (F_law_over F_law_pick F_law_draw F_law_divisors F_law_great : Fn) : VSt :=
  (vDrop (vMt "list" mAppend (vVar 4) (vCons (vTup (vCons (vOp dIx (vVar 5) (vC (.int 1))) (vCons (vOp dIx (vVar 5) (vC (.int 0))) (vCons (vOp aSub (vOp aPow (vC (.int 10)) (vC (.int 30))) (vCall 2 F_law_pick (vCons (vVar 0) (vCons (vLst (vCons (vC (.int 0)) (vCons (vC (.int 1)) (vCons (vCall 2 F_law_draw (vCons (vVar 0) (vCons (vC (.int 3600)) vNil))) vNil)))) vNil)))) vNil)))) vNil)))
def S2_law_triples (F_law_over F_law_pick F_law_draw F_law_divisors F_law_great : Fn) : VSt :=
  (vDrop (vMt "list" mAppend (vVar 4) (vCons (vTup (vCons (vVar 1) (vCons (vVar 2) (vCons (vOp dAdd (vOp dMul (vVar 1) (vCall 2 F_law_draw (vCons (vVar 0) (vCons (vC (.int 9)) vNil)))) (vOp dMul (vVar 2) (vCall 2 F_law_draw (vCons (vVar 0) (vCons (vC (.int 9)) vNil))))) vNil)))) vNil)))
def S3_law_triples (F_law_over F_law_pick F_law_draw F_law_divisors F_law_great : Fn) : VSt :=
  (vDrop (vMt "list" mAppend (vVar 4) (vCons (vTup (vCons (vVar 1) (vCons (vVar 2) (vCons (vBl bMin (vCons (vOp aPow (vC (.int 10)) (vC (.int 30))) (vCons (vOp dAdd (vOp dMul (vOp aFdv (vVar 3) (vVar 8)) (vVar 8)) (vCall 2 F_law_draw (vCons (vVar 0) (vCons (vVar 8) vNil)))) vNil))) vNil)))) vNil)))
def S4_law_triples (F_law_over F_law_pick F_law_draw F_law_divisors F_law_great : Fn) : VSt :=
  (vDrop (vMt "list" mAppend (vVar 4) (vCons (vTup (vCons (vVar 1) (vCons (vVar 2) (vCons (vOp dAdd (vOp dAdd (vOp dMul (vVar 8) (vCall 2 F_law_draw (vCons (vVar 0) (vCons (vC (.int 60)) vNil)))) (vC (.int 1))) (vCall 2 F_law_draw (vCons (vVar 0) (vCons (vOp aSub (vVar 8) (vC (.int 1))) vNil)))) vNil)))) vNil)))
def S5_law_triples (F_law_over F_law_pick F_law_draw F_law_divisors F_law_great : Fn) : VSt :=
  (vPar 1 2 (vCons (vOp dMul (vVar 8) (vOp dAdd (vC (.int 1)) (vCall 2 F_law_draw (vCons (vVar 0) (vCons (vOp aFdv (vC (.int 60)) (vVar 8)) vNil))))) (vCons (vOp dMul (vVar 8) (vOp dAdd (vC (.int 1)) (vCall 2 F_law_draw (vCons (vVar 0) (vCons (vOp aFdv (vC (.int 60)) (vVar 8)) vNil))))) vNil)))
def S6_law_triples (F_law_over F_law_pick F_law_draw F_law_divisors F_law_great : Fn) : VSt :=
  (vAsg (vCall 2 F_law_pick (vCons (vVar 0) (vCons (vLst (vCons (vC (.int 2)) (vCons (vC (.int 3)) (vCons (vC (.int 4)) (vCons (vC (.int 6)) (vCons (vC (.int 12)) (vCons (vC (.int 30)) (vCons (vOp dAdd (vC (.int 2)) (vCall 2 F_law_draw (vCons (vVar 0) (vCons (vC (.int 29)) vNil)))) vNil)))))))) vNil))) (gName 8))
def S7_law_triples (F_law_over F_law_pick F_law_draw F_law_divisors F_law_great : Fn) : VSt :=
  (vDrop (vMt "list" mExt2 (vVar 4) (vCons (vLst (vCons (vTup (vCons (vOp dIx (vVar 5) (vC (.int 0))) (vCons (vOp dIx (vVar 5) (vC (.int 1))) (vCons (vBl bMax (vCons (vC (.int 0)) (vCons (vVar 7) vNil))) vNil)))) (vCons (vTup (vCons (vOp dIx (vVar 5) (vC (.int 0))) (vCons (vOp dIx (vVar 5) (vC (.int 1))) (vCons (vIf (vTr (vOp aGt (vOp dAdd (vVar 7) (vVar 6)) (vC (.int 0)))) (vOp dAdd (vVar 7) (vVar 6)) (vOp aPow (vC (.int 10)) (vC (.int 30)))) vNil)))) vNil))) vNil)))
def S8_law_triples (F_law_over F_law_pick F_law_draw F_law_divisors F_law_great : Fn) : VSt :=
  (vAsg (vOp aSub (vOp aSub (vOp aFdv (vOp dMul (vOp dIx (vVar 5) (vC (.int 0))) (vOp dIx (vVar 5) (vC (.int 1)))) (vVar 6)) (vOp dIx (vVar 5) (vC (.int 0)))) (vOp dIx (vVar 5) (vC (.int 1)))) (gName 7))
def S9_law_triples (F_law_over F_law_pick F_law_draw F_law_divisors F_law_great : Fn) : VSt :=
  (vAsg (vOp dIx (vCall 2 F_law_divisors (vCons (vOp dIx (vVar 5) (vC (.int 0))) (vCons (vOp dIx (vVar 5) (vC (.int 1))) vNil))) (vUn uNeg (vC (.int 1)))) (gName 6))
def S10_law_triples (F_law_over F_law_pick F_law_draw F_law_divisors F_law_great : Fn) : VSt :=
  (vAsg (vCall 2 F_law_pick (vCons (vVar 0) (vCons (vLst (vCons (vTup (vCons (vC (.int 59)) (vCons (vC (.int 60)) vNil))) (vCons (vTup (vCons (vC (.int 60)) (vCons (vC (.int 59)) vNil))) (vCons (vTup (vCons (vC (.int 7)) (vCons (vC (.int 60)) vNil))) (vCons (vTup (vCons (vOp dAdd (vC (.int 1)) (vCall 2 F_law_draw (vCons (vVar 0) (vCons (vC (.int 59)) vNil)))) (vCons (vC (.int 60)) vNil))) (vCons (vTup (vCons (vVar 1) (vCons (vVar 1) vNil))) (vCons (vTup (vCons (vC (.int 1)) (vCons (vVar 2) vNil))) (vCons (vTup (vCons (vC (.int 1)) (vCons (vC (.int 1)) vNil))) vNil)))))))) vNil))) (gName 5))
def S11_law_triples (F_law_over F_law_pick F_law_draw F_law_divisors F_law_great : Fn) : VSt :=
  (vAsg (vLst (vCons (vTup (vCons (vVar 1) (vCons (vVar 2) (vCons (vCall 2 F_law_pick (vCons (vVar 0) (vCons (vLst (vCons (vC (.int 0)) (vCons (vVar 1) (vCons (vVar 2) (vCons (vOp dMul (vVar 1) (vVar 2)) (vCons (vC (.int 1)) vNil)))))) vNil))) vNil)))) (vCons (vTup (vCons (vVar 1) (vCons (vVar 2) (vCons (vCall 2 F_law_draw (vCons (vVar 0) (vCons (vC (.int 3600)) vNil))) vNil)))) (vCons (vTup (vCons (vVar 2) (vCons (vVar 1) (vCons (vVar 3) vNil)))) vNil)))) (gName 4))
def S12_law_triples (F_law_over F_law_pick F_law_draw F_law_divisors F_law_great : Fn) : VSt :=
  (vPar3 1 2 3 (vCons (vOp dAdd (vC (.int 1)) (vCall 2 F_law_draw (vCons (vVar 0) (vCons (vC (.int 60)) vNil)))) (vCons (vOp dAdd (vC (.int 1)) (vCall 2 F_law_draw (vCons (vVar 0) (vCons (vC (.int 60)) vNil)))) (vCons (vBl bAbs (vCons (vCall 1 F_law_great (vCons (vVar 0) vNil)) vNil)) vNil))))
def m_law_triples (F_law_over F_law_pick F_law_draw F_law_divisors F_law_great : Fn) : VSt :=
  (vSeq (S12_law_triples F_law_over F_law_pick F_law_draw F_law_divisors F_law_great)
    (vSeq (S11_law_triples F_law_over F_law_pick F_law_draw F_law_divisors F_law_great)
    (vSeq (S10_law_triples F_law_over F_law_pick F_law_draw F_law_divisors F_law_great)
    (vSeq (S9_law_triples F_law_over F_law_pick F_law_draw F_law_divisors F_law_great)
    (vSeq (S8_law_triples F_law_over F_law_pick F_law_draw F_law_divisors F_law_great)
    (vSeq (S7_law_triples F_law_over F_law_pick F_law_draw F_law_divisors F_law_great)
    (vSeq (S6_law_triples F_law_over F_law_pick F_law_draw F_law_divisors F_law_great)
    (vSeq (S5_law_triples F_law_over F_law_pick F_law_draw F_law_divisors F_law_great)
    (vSeq (S4_law_triples F_law_over F_law_pick F_law_draw F_law_divisors F_law_great)
    (vSeq (S3_law_triples F_law_over F_law_pick F_law_draw F_law_divisors F_law_great)
    (vSeq (S2_law_triples F_law_over F_law_pick F_law_draw F_law_divisors F_law_great)
    (vSeq (S1_law_triples F_law_over F_law_pick F_law_draw F_law_divisors F_law_great)
    (vRet (vOp dAdd (vVar 4) (vLst (vCons (vCall 1 F_law_over (vCons (vVar 0) vNil)) (vCons (vCall 1 F_law_over (vCons (vVar 0) vNil)) vNil)))))))))))))))))
theorem ok_law_triples (T : Txt K mg) {F_law_over F_law_pick F_law_draw F_law_divisors F_law_great : Fn} (G_law_over : FnG P w K mg base 3 T.a_law_over T.d_law_over P_law_over F_law_over) (G_law_pick : FnG P w K mg base 2 T.a_law_pick T.d_law_pick P_law_pick F_law_pick) (G_law_draw : FnG P w K mg base 1 T.a_law_draw T.d_law_draw P_law_draw F_law_draw) (G_law_divisors : FnG P w K mg base 1 T.a_law_divisors T.d_law_divisors P_law_divisors F_law_divisors) (G_law_great : FnG P w K mg base 3 T.a_law_great T.d_law_great P_law_great F_law_great) : FnG P w K mg base 4 T.a_law_triples T.d_law_triples P_law_triples (mF 9 (m_law_triples F_law_over F_law_pick F_law_draw F_law_divisors F_law_great)) :=
  fnG_of T.f_law_triples sc_law_triples fun cdv A outer s H E a =>
    (qsCons (qPar3 (i := 1) (j := 2) (l := 3) rfl sc_law_triples.nd (qa (qOp add_opr (add_opd _) qI (qCall G_law_draw (a.mono (by decide)) T.g_law_draw T.k_law_draw T.b_law_draw (qa (qV (i := 0) rfl (.inl rfl)) (qa qI qa0)))) (qa (qOp add_opr (add_opd _) qI (qCall G_law_draw (a.mono (by decide)) T.g_law_draw T.k_law_draw T.b_law_draw (qa (qV (i := 0) rfl (.inl rfl)) (qa qI qa0)))) (qa (qBl call_abs (abs_cd _) T.n_abs (qa (qCall G_law_great (a.mono (by decide)) T.g_law_great T.k_law_great T.b_law_great (qa (qV (i := 0) rfl (.inl rfl)) qa0)) qa0)) qa0))))
    (qsCons (qSet (i := 4) sc_law_triples.nd (qLst (qa (qTup (qa (qV (i := 1) rfl (.inl rfl)) (qa (qV (i := 2) rfl (.inl rfl)) (qa (qCall G_law_pick (a.mono (by decide)) T.g_law_pick T.k_law_pick T.b_law_pick (qa (qV (i := 0) rfl (.inl rfl)) (qa (qLst (qa qI (qa (qV (i := 1) rfl (.inl rfl)) (qa (qV (i := 2) rfl (.inl rfl)) (qa (qOp mul_opr (mul_opd _) (qV (i := 1) rfl (.inl rfl)) (qV (i := 2) rfl (.inl rfl))) (qa qI qa0)))))) qa0))) qa0)))) (qa (qTup (qa (qV (i := 1) rfl (.inl rfl)) (qa (qV (i := 2) rfl (.inl rfl)) (qa (qCall G_law_draw (a.mono (by decide)) T.g_law_draw T.k_law_draw T.b_law_draw (qa (qV (i := 0) rfl (.inl rfl)) (qa qI qa0))) qa0)))) (qa (qTup (qa (qV (i := 2) rfl (.inl rfl)) (qa (qV (i := 1) rfl (.inl rfl)) (qa (qV (i := 3) rfl (.inl rfl)) qa0)))) qa0)))) rfl (.inl rfl))
    (qsCons (qSet (i := 5) sc_law_triples.nd (qCall G_law_pick (a.mono (by decide)) T.g_law_pick T.k_law_pick T.b_law_pick (qa (qV (i := 0) rfl (.inl rfl)) (qa (qLst (qa (qTup (qa qI (qa qI qa0))) (qa (qTup (qa qI (qa qI qa0))) (qa (qTup (qa qI (qa qI qa0))) (qa (qTup (qa (qOp add_opr (add_opd _) qI (qCall G_law_draw (a.mono (by decide)) T.g_law_draw T.k_law_draw T.b_law_draw (qa (qV (i := 0) rfl (.inl rfl)) (qa qI qa0)))) (qa qI qa0))) (qa (qTup (qa (qV (i := 1) rfl (.inl rfl)) (qa (qV (i := 1) rfl (.inl rfl)) qa0))) (qa (qTup (qa qI (qa (qV (i := 2) rfl (.inl rfl)) qa0))) (qa (qTup (qa qI (qa qI qa0))) qa0)))))))) qa0))) rfl (.inl rfl))
    (qsCons (qSet (i := 6) sc_law_triples.nd (qIx ix_seq (ix_opd _) (qCall G_law_divisors (a.mono (by decide)) T.g_law_divisors T.k_law_divisors T.b_law_divisors (qa (qIx ix_seq (ix_opd _) (qV (i := 5) rfl (.inl rfl)) qI) (qa (qIx ix_seq (ix_opd _) (qV (i := 5) rfl (.inl rfl)) qI) qa0))) (qUn un_neg (neg_un _) qI)) rfl (.inl rfl))
    (qsCons (qSet (i := 7) sc_law_triples.nd (qOp op_sub (sub_ii _) (qOp op_sub (sub_ii _) (qOp fdv_opr (fdv_ii _) (qOp mul_opr (mul_opd _) (qIx ix_seq (ix_opd _) (qV (i := 5) rfl (.inl rfl)) qI) (qIx ix_seq (ix_opd _) (qV (i := 5) rfl (.inl rfl)) qI)) (qV (i := 6) rfl (.inl rfl))) (qIx ix_seq (ix_opd _) (qV (i := 5) rfl (.inl rfl)) qI)) (qIx ix_seq (ix_opd _) (qV (i := 5) rfl (.inl rfl)) qI)) rfl (.inl rfl))
    (qsCons (qDrop (qMt PySem.F.plainAttrs_list PySem.F.slot_list_extend PySem.F.type_list_extend mt_ext2 (ext2_mtd _) (qV (i := 4) rfl (.inl rfl)) (qa (qLst (qa (qTup (qa (qIx ix_seq (ix_opd _) (qV (i := 5) rfl (.inl rfl)) qI) (qa (qIx ix_seq (ix_opd _) (qV (i := 5) rfl (.inl rfl)) qI) (qa (qBl (cr_maxS rfl) (max_cd _) T.n_max (qa qI (qa (qV (i := 7) rfl (.inl rfl)) qa0))) qa0)))) (qa (qTup (qa (qIx ix_seq (ix_opd _) (qV (i := 5) rfl (.inl rfl)) qI) (qa (qIx ix_seq (ix_opd _) (qV (i := 5) rfl (.inl rfl)) qI) (qa (qIf (qCmT op_gt (gt_ii _) (qOp add_opr (add_opd _) (qV (i := 7) rfl (.inl rfl)) (qV (i := 6) rfl (.inl rfl))) qI) (qOp add_opr (add_opd _) (qV (i := 7) rfl (.inl rfl)) (qV (i := 6) rfl (.inl rfl))) (qOp op_powB (pow_ii _) qI qI)) qa0)))) qa0))) qa0)))
    (qsCons (qSet (i := 8) sc_law_triples.nd (qCall G_law_pick (a.mono (by decide)) T.g_law_pick T.k_law_pick T.b_law_pick (qa (qV (i := 0) rfl (.inl rfl)) (qa (qLst (qa qI (qa qI (qa qI (qa qI (qa qI (qa qI (qa (qOp add_opr (add_opd _) qI (qCall G_law_draw (a.mono (by decide)) T.g_law_draw T.k_law_draw T.b_law_draw (qa (qV (i := 0) rfl (.inl rfl)) (qa qI qa0)))) qa0)))))))) qa0))) rfl (.inl rfl))
    (qsCons (qPar2 (i := 1) (j := 2) rfl sc_law_triples.nd (qa (qOp mul_opr (mul_opd _) (qV (i := 8) rfl (.inl rfl)) (qOp add_opr (add_opd _) qI (qCall G_law_draw (a.mono (by decide)) T.g_law_draw T.k_law_draw T.b_law_draw (qa (qV (i := 0) rfl (.inl rfl)) (qa (qOp fdv_opr (fdv_ii _) qI (qV (i := 8) rfl (.inl rfl))) qa0))))) (qa (qOp mul_opr (mul_opd _) (qV (i := 8) rfl (.inl rfl)) (qOp add_opr (add_opd _) qI (qCall G_law_draw (a.mono (by decide)) T.g_law_draw T.k_law_draw T.b_law_draw (qa (qV (i := 0) rfl (.inl rfl)) (qa (qOp fdv_opr (fdv_ii _) qI (qV (i := 8) rfl (.inl rfl))) qa0))))) qa0)))
    (qsCons (qDrop (qMt PySem.F.plainAttrs_list PySem.F.slot_list_append PySem.F.type_list_append mt_append (append_mtd _) (qV (i := 4) rfl (.inl rfl)) (qa (qTup (qa (qV (i := 1) rfl (.inl rfl)) (qa (qV (i := 2) rfl (.inl rfl)) (qa (qOp add_opr (add_opd _) (qOp add_opr (add_opd _) (qOp mul_opr (mul_opd _) (qV (i := 8) rfl (.inl rfl)) (qCall G_law_draw (a.mono (by decide)) T.g_law_draw T.k_law_draw T.b_law_draw (qa (qV (i := 0) rfl (.inl rfl)) (qa qI qa0)))) qI) (qCall G_law_draw (a.mono (by decide)) T.g_law_draw T.k_law_draw T.b_law_draw (qa (qV (i := 0) rfl (.inl rfl)) (qa (qOp op_sub (sub_ii _) (qV (i := 8) rfl (.inl rfl)) qI) qa0)))) qa0)))) qa0)))
    (qsCons (qDrop (qMt PySem.F.plainAttrs_list PySem.F.slot_list_append PySem.F.type_list_append mt_append (append_mtd _) (qV (i := 4) rfl (.inl rfl)) (qa (qTup (qa (qV (i := 1) rfl (.inl rfl)) (qa (qV (i := 2) rfl (.inl rfl)) (qa (qBl (cr_minS rfl) (min_cd _) T.n_min (qa (qOp op_powB (pow_ii _) qI qI) (qa (qOp add_opr (add_opd _) (qOp mul_opr (mul_opd _) (qOp fdv_opr (fdv_ii _) (qV (i := 3) rfl (.inl rfl)) (qV (i := 8) rfl (.inl rfl))) (qV (i := 8) rfl (.inl rfl))) (qCall G_law_draw (a.mono (by decide)) T.g_law_draw T.k_law_draw T.b_law_draw (qa (qV (i := 0) rfl (.inl rfl)) (qa (qV (i := 8) rfl (.inl rfl)) qa0)))) qa0))) qa0)))) qa0)))
    (qsCons (qDrop (qMt PySem.F.plainAttrs_list PySem.F.slot_list_append PySem.F.type_list_append mt_append (append_mtd _) (qV (i := 4) rfl (.inl rfl)) (qa (qTup (qa (qV (i := 1) rfl (.inl rfl)) (qa (qV (i := 2) rfl (.inl rfl)) (qa (qOp add_opr (add_opd _) (qOp mul_opr (mul_opd _) (qV (i := 1) rfl (.inl rfl)) (qCall G_law_draw (a.mono (by decide)) T.g_law_draw T.k_law_draw T.b_law_draw (qa (qV (i := 0) rfl (.inl rfl)) (qa qI qa0)))) (qOp mul_opr (mul_opd _) (qV (i := 2) rfl (.inl rfl)) (qCall G_law_draw (a.mono (by decide)) T.g_law_draw T.k_law_draw T.b_law_draw (qa (qV (i := 0) rfl (.inl rfl)) (qa qI qa0))))) qa0)))) qa0)))
    (qsCons (qDrop (qMt PySem.F.plainAttrs_list PySem.F.slot_list_append PySem.F.type_list_append mt_append (append_mtd _) (qV (i := 4) rfl (.inl rfl)) (qa (qTup (qa (qIx ix_seq (ix_opd _) (qV (i := 5) rfl (.inl rfl)) qI) (qa (qIx ix_seq (ix_opd _) (qV (i := 5) rfl (.inl rfl)) qI) (qa (qOp op_sub (sub_ii _) (qOp op_powB (pow_ii _) qI qI) (qCall G_law_pick (a.mono (by decide)) T.g_law_pick T.k_law_pick T.b_law_pick (qa (qV (i := 0) rfl (.inl rfl)) (qa (qLst (qa qI (qa qI (qa (qCall G_law_draw (a.mono (by decide)) T.g_law_draw T.k_law_draw T.b_law_draw (qa (qV (i := 0) rfl (.inl rfl)) (qa qI qa0))) qa0)))) qa0)))) qa0)))) qa0)))
    (qsOne (qRet (qOp add_opr (add_opd _) (qV (i := 4) rfl (.inl rfl)) (qLst (qa (qCall G_law_over (a.mono (by decide)) T.g_law_over T.k_law_over T.b_law_over (qa (qV (i := 0) rfl (.inl rfl)) qa0)) (qa (qCall G_law_over (a.mono (by decide)) T.g_law_over T.k_law_over T.b_law_over (qa (qV (i := 0) rfl (.inl rfl)) qa0)) qa0))))))))))))))))))
def B1_law_is_paper_right (F_gap_paper_error F_law_due F_gap_paper F_law_is_of_form F_law_own_sort : Fn) : VSt :=
  (vIfS (vTr (vOp dNe (vBl bReprD (vCons (vCall 4 F_gap_paper_error (vCons (vVar 0) (vCons (vVar 1) (vCons (vVar 2) (vCons (vVar 9) vNil))))) vNil)) (vBl bReprD (vCons (vCall 2 F_law_due (vCons (vVar 4) (vCons (vVar 9) vNil))) vNil)))) (vRet (vC (.bl false))) vPass)
def L1_law_is_paper_right (F_gap_paper_error F_law_due F_gap_paper F_law_is_of_form F_law_own_sort : Fn) : VSt :=
  (vFor (vIt (vOp dAdd (vVar 8) (vLst (vCons (vVar 6) (vCons (vOp dAdd (vVar 6) (vTup (vCons (vC (.int 0)) vNil))) (vCons (vSl (vVar 6) oNone (oSome (vC (.int 1)))) (vCons (vTup (vCons (vVar 6) vNil)) (vCons (vBl bList (vCons (vVar 6) vNil)) vNil)))))))) (gP (pN 9)) (B1_law_is_paper_right F_gap_paper_error F_law_due F_gap_paper F_law_is_of_form F_law_own_sort))
def S1_law_is_paper_right (F_gap_paper_error F_law_due F_gap_paper F_law_is_of_form F_law_own_sort : Fn) : VSt :=
  (vIfS (vTr (vOp dEq (vVar 5) (vC (.str (Str.ofString "sum"))))) (vAsg (vLst (vCons (vTup (vCons (vVar 5) (vCons (vTup (vCons (vOp dAdd (vOp dIx (vVar 7) (vC (.int 0))) (vC (.int 1))) (vCons (vOp dIx (vVar 7) (vC (.int 1))) vNil))) vNil))) (vCons (vTup (vCons (vVar 5) (vCons (vTup (vCons (vOp dIx (vVar 7) (vC (.int 0))) (vCons (vOp dAdd (vOp dIx (vVar 7) (vC (.int 1))) (vC (.int 1))) vNil))) vNil))) (vCons (vTup (vCons (vVar 5) (vCons (vTup (vCons (vOp dIx (vVar 7) (vC (.int 1))) (vCons (vOp dIx (vVar 7) (vC (.int 0))) vNil))) vNil))) (vCons (vTup (vCons (vVar 5) (vCons (vOp dAdd (vVar 7) (vTup (vCons (vC (.int 0)) vNil))) vNil))) vNil))))) (gName 8)) (vAsg (vLst (vCons (vTup (vCons (vVar 5) (vCons (vOp dAdd (vVar 7) (vC (.int 1))) vNil))) (vCons (vTup (vCons (vVar 5) (vCons (vOp dAdd (vVar 7) (vVar 1)) vNil))) (vCons (vTup (vCons (vVar 5) (vCons (vOp aSub (vVar 7) (vC (.int 1))) vNil))) (vCons (vTup (vCons (vVar 5) (vCons (vOp dMul (vVar 7) (vC (.int 2))) vNil))) (vCons (vTup (vCons (vVar 5) (vCons (vTup (vCons (vVar 7) (vCons (vVar 7) vNil))) vNil))) (vCons (vTup (vCons (vC (.str (Str.ofString "sum"))) (vCons (vVar 7) vNil))) vNil))))))) (gName 8)))
def S2_law_is_paper_right (F_gap_paper_error F_law_due F_gap_paper F_law_is_of_form F_law_own_sort : Fn) : VSt :=
  (vAsg (vOp dIx (vVar 6) (vC (.int 1))) (gName 7))
def S3_law_is_paper_right (F_gap_paper_error F_law_due F_gap_paper F_law_is_of_form F_law_own_sort : Fn) : VSt :=
  (vIfS (vOrT (vTr (vOp dNe (vBl bReprD (vCons (vCallK 3 F_gap_paper (kwP 0 3 3 [0, 1, 2]) vNil (vCons (vVar 0) (vCons (vVar 1) (vCons (vVar 2) vNil)))) vNil)) (vBl bReprD (vCons (vVar 6) vNil)))) (vTr (vOp dNotN (vCall 4 F_gap_paper_error (vCons (vVar 0) (vCons (vVar 1) (vCons (vVar 2) (vCons (vVar 6) vNil))))) (vC .non)))) (vRet (vC (.bl false))) vPass)
def S4_law_is_paper_right (F_gap_paper_error F_law_due F_gap_paper F_law_is_of_form F_law_own_sort : Fn) : VSt :=
  (vIfS (vOrT (vNotT (vTr (vCall 1 F_law_is_of_form (vCons (vVar 6) vNil)))) (vOrT (vTr (vOp dNotN (vCall 2 F_law_due (vCons (vVar 4) (vCons (vVar 6) vNil))) (vC .non))) (vTr (vOp dNe (vOp dIx (vVar 6) (vC (.int 0))) (vVar 5))))) (vRet (vC (.bl false))) vPass)
def S5_law_is_paper_right (F_gap_paper_error F_law_due F_gap_paper F_law_is_of_form F_law_own_sort : Fn) : VSt :=
  (vAsg (vCall 3 F_gap_paper (vCons (vVar 0) (vCons (vVar 1) (vCons (vVar 2) vNil)))) (gName 6))
def S6_law_is_paper_right (F_gap_paper_error F_law_due F_gap_paper F_law_is_of_form F_law_own_sort : Fn) : VSt :=
  (vPar 4 5 (vCons (vTup (vCons (vVar 0) (vCons (vVar 1) (vCons (vVar 2) (vCons (vVar 3) vNil))))) (vCons (vCall 3 F_law_own_sort (vCons (vVar 0) (vCons (vVar 1) (vCons (vVar 2) vNil)))) vNil)))
def m_law_is_paper_right (F_gap_paper_error F_law_due F_gap_paper F_law_is_of_form F_law_own_sort : Fn) : VSt :=
  (vSeq (S6_law_is_paper_right F_gap_paper_error F_law_due F_gap_paper F_law_is_of_form F_law_own_sort)
    (vSeq (S5_law_is_paper_right F_gap_paper_error F_law_due F_gap_paper F_law_is_of_form F_law_own_sort)
    (vSeq (S4_law_is_paper_right F_gap_paper_error F_law_due F_gap_paper F_law_is_of_form F_law_own_sort)
    (vSeq (S3_law_is_paper_right F_gap_paper_error F_law_due F_gap_paper F_law_is_of_form F_law_own_sort)
    (vSeq (S2_law_is_paper_right F_gap_paper_error F_law_due F_gap_paper F_law_is_of_form F_law_own_sort)
    (vSeq (S1_law_is_paper_right F_gap_paper_error F_law_due F_gap_paper F_law_is_of_form F_law_own_sort)
    (vSeq (L1_law_is_paper_right F_gap_paper_error F_law_due F_gap_paper F_law_is_of_form F_law_own_sort)
    (vRet (vC (.bl true))))))))))
theorem ok_law_is_paper_right (T : Txt K mg) {F_gap_paper_error F_law_due F_gap_paper F_law_is_of_form F_law_own_sort : Fn} (G_gap_paper_error : FnG P w K mg base 4 T.a_gap_paper_error T.d_gap_paper_error P_gap_paper_error F_gap_paper_error) (G_law_due : FnG P w K mg base 3 T.a_law_due T.d_law_due P_law_due F_law_due) (G_gap_paper : FnG P w K mg base 2 T.a_gap_paper T.d_gap_paper P_gap_paper F_gap_paper) (G_law_is_of_form : FnG P w K mg base 2 T.a_law_is_of_form T.d_law_is_of_form P_law_is_of_form F_law_is_of_form) (G_law_own_sort : FnG P w K mg base 2 T.a_law_own_sort T.d_law_own_sort P_law_own_sort F_law_own_sort) : FnG P w K mg base 5 T.a_law_is_paper_right T.d_law_is_paper_right P_law_is_paper_right (mF 10 (m_law_is_paper_right F_gap_paper_error F_law_due F_gap_paper F_law_is_of_form F_law_own_sort)) :=
  fnG_of T.f_law_is_paper_right sc_law_is_paper_right fun cdv A outer s H E a =>
    (qsCons (qPar2 (i := 4) (j := 5) rfl sc_law_is_paper_right.nd (qa (qTup (qa (qV (i := 0) rfl (.inl rfl)) (qa (qV (i := 1) rfl (.inl rfl)) (qa (qV (i := 2) rfl (.inl rfl)) (qa (qV (i := 3) rfl (.inl rfl)) qa0))))) (qa (qCall G_law_own_sort (a.mono (by decide)) T.g_law_own_sort T.k_law_own_sort T.b_law_own_sort (qa (qV (i := 0) rfl (.inl rfl)) (qa (qV (i := 1) rfl (.inl rfl)) (qa (qV (i := 2) rfl (.inl rfl)) qa0)))) qa0)))
    (qsCons (qSet (i := 6) sc_law_is_paper_right.nd (qCall G_gap_paper (a.mono (by decide)) T.g_gap_paper T.k_gap_paper T.b_gap_paper (qa (qV (i := 0) rfl (.inl rfl)) (qa (qV (i := 1) rfl (.inl rfl)) (qa (qV (i := 2) rfl (.inl rfl)) qa0)))) rfl (.inl rfl))
    (qsCons (qIfS (PW.pt (qOrT (qNotT (qT (qCall G_law_is_of_form (a.mono (by decide)) T.g_law_is_of_form T.k_law_is_of_form T.b_law_is_of_form (qa (qV (i := 6) rfl (.inl rfl)) qa0)))) (qOrT (qCmT op_notN (notN_opd _) (qCall G_law_due (a.mono (by decide)) T.g_law_due T.k_law_due T.b_law_due (qa (qV (i := 4) rfl (.inl rfl)) (qa (qV (i := 6) rfl (.inl rfl)) qa0))) qN) (qOr1 (qCmT (ne_opr a.hu) (ne_opd _) (qIx ix_seq (ix_opd _) (qV (i := 6) rfl (.inl rfl)) qI) (qV (i := 5) rfl (.inl rfl))))))) (qsOne (qRet qB)) qsNil)
    (qsCons (qIfS (PW.pt (qOrT (qCmT (ne_opr a.hu) (ne_opd _) (qBl (cr_reprD (SysIn.h (base := base)) a.gd a.rp) (reprD_cd _) T.n_repr (qa (qCallK0 G_gap_paper (a.mono (by decide)) T.g_gap_paper T.k_gap_paper (kw0 T) (qk (qV (i := 0) rfl (.inl rfl)) (qk (qV (i := 1) rfl (.inl rfl)) (qk (qV (i := 2) rfl (.inl rfl)) qk0)))) qa0)) (qBl (cr_reprD (SysIn.h (base := base)) a.gd a.rp) (reprD_cd _) T.n_repr (qa (qV (i := 6) rfl (.inl rfl)) qa0))) (qOr1 (qCmT op_notN (notN_opd _) (qCall G_gap_paper_error (a.mono (by decide)) T.g_gap_paper_error T.k_gap_paper_error T.b_gap_paper_error (qa (qV (i := 0) rfl (.inl rfl)) (qa (qV (i := 1) rfl (.inl rfl)) (qa (qV (i := 2) rfl (.inl rfl)) (qa (qV (i := 6) rfl (.inl rfl)) qa0))))) qN)))) (qsOne (qRet qB)) qsNil)
    (qsCons (qSet (i := 7) sc_law_is_paper_right.nd (qIx ix_seq (ix_opd _) (qV (i := 6) rfl (.inl rfl)) qI) rfl (.inl rfl))
    (qsCons (qIfS (qCmT (eq_opr a.hu) (eq_opd _) (qV (i := 5) rfl (.inl rfl)) qS) (qsOne (qSet (i := 8) sc_law_is_paper_right.nd (qLst (qa (qTup (qa (qV (i := 5) rfl (.inl rfl)) (qa (qTup (qa (qOp add_opr (add_opd _) (qIx ix_seq (ix_opd _) (qV (i := 7) rfl (.inl rfl)) qI) qI) (qa (qIx ix_seq (ix_opd _) (qV (i := 7) rfl (.inl rfl)) qI) qa0))) qa0))) (qa (qTup (qa (qV (i := 5) rfl (.inl rfl)) (qa (qTup (qa (qIx ix_seq (ix_opd _) (qV (i := 7) rfl (.inl rfl)) qI) (qa (qOp add_opr (add_opd _) (qIx ix_seq (ix_opd _) (qV (i := 7) rfl (.inl rfl)) qI) qI) qa0))) qa0))) (qa (qTup (qa (qV (i := 5) rfl (.inl rfl)) (qa (qTup (qa (qIx ix_seq (ix_opd _) (qV (i := 7) rfl (.inl rfl)) qI) (qa (qIx ix_seq (ix_opd _) (qV (i := 7) rfl (.inl rfl)) qI) qa0))) qa0))) (qa (qTup (qa (qV (i := 5) rfl (.inl rfl)) (qa (qOp add_opr (add_opd _) (qV (i := 7) rfl (.inl rfl)) (qTup (qa qI qa0))) qa0))) qa0))))) rfl (.inl rfl))) (qsOne (qSet (i := 8) sc_law_is_paper_right.nd (qLst (qa (qTup (qa (qV (i := 5) rfl (.inl rfl)) (qa (qOp add_opr (add_opd _) (qV (i := 7) rfl (.inl rfl)) qI) qa0))) (qa (qTup (qa (qV (i := 5) rfl (.inl rfl)) (qa (qOp add_opr (add_opd _) (qV (i := 7) rfl (.inl rfl)) (qV (i := 1) rfl (.inl rfl))) qa0))) (qa (qTup (qa (qV (i := 5) rfl (.inl rfl)) (qa (qOp op_sub (sub_ii _) (qV (i := 7) rfl (.inl rfl)) qI) qa0))) (qa (qTup (qa (qV (i := 5) rfl (.inl rfl)) (qa (qOp mul_opr (mul_opd _) (qV (i := 7) rfl (.inl rfl)) qI) qa0))) (qa (qTup (qa (qV (i := 5) rfl (.inl rfl)) (qa (qTup (qa (qV (i := 7) rfl (.inl rfl)) (qa (qV (i := 7) rfl (.inl rfl)) qa0))) qa0))) (qa (qTup (qa qS (qa (qV (i := 7) rfl (.inl rfl)) qa0))) qa0))))))) rfl (.inl rfl))))
    (qsCons (qFor a.ps rfl (qIt (qOp add_opr (add_opd _) (qV (i := 8) rfl (.inl rfl)) (qLst (qa (qV (i := 6) rfl (.inl rfl)) (qa (qOp add_opr (add_opd _) (qV (i := 6) rfl (.inl rfl)) (qTup (qa qI qa0))) (qa (qSl (qV (i := 6) rfl (.inl rfl)) qo0 (qo qI)) (qa (qTup (qa (qV (i := 6) rfl (.inl rfl)) qa0)) (qa (qTy call_list_of (list_cd _) T.n_list (qa (qV (i := 6) rfl (.inl rfl)) qa0)) qa0)))))))) (qgP (vs := [9]) (pg_name (i := 9) sc_law_is_paper_right.nd rfl (.inl rfl)) (tgd_name (by decide))) (qsOne (qIfS (qCmT (ne_opr a.hu) (ne_opd _) (qBl (cr_reprD (SysIn.h (base := base)) a.gd a.rp) (reprD_cd _) T.n_repr (qa (qCall G_gap_paper_error (a.mono (by decide)) T.g_gap_paper_error T.k_gap_paper_error T.b_gap_paper_error (qa (qV (i := 0) rfl (.inl rfl)) (qa (qV (i := 1) rfl (.inl rfl)) (qa (qV (i := 2) rfl (.inl rfl)) (qa (qV (i := 9) rfl (.inl rfl)) qa0))))) qa0)) (qBl (cr_reprD (SysIn.h (base := base)) a.gd a.rp) (reprD_cd _) T.n_repr (qa (qCall G_law_due (a.mono (by decide)) T.g_law_due T.k_law_due T.b_law_due (qa (qV (i := 4) rfl (.inl rfl)) (qa (qV (i := 9) rfl (.inl rfl)) qa0))) qa0))) (qsOne (qRet qB)) qsNil)))
    (qsOne (qRet qB)))))))))
def B1_law (F_law_triples F_law_is_paper_right F_gap_paper_error F_law_due F_law_own_sums F_law_own_rests F_law_own_overs F_law_divisors F_law_own_bag : Fn) : VSt :=
  (vSeq (vAsg (vBl bReprD (vCons (vCall 2 F_law_due (vCons (vVar 5) (vCons (vVar 9) vNil))) vNil)) (gName 10))
    (vSeq (vIfS (vAndT (vTr (vOp dEq (vOp aMod (vBl bInt (vCons (vVar 8) vNil)) (vC (.int 5))) (vC (.int 3)))) (vTr (vOp dNe (vBl bReprD (vCons (vCallK 4 F_gap_paper_error (kwP 0 4 4 [0, 1, 2, 3]) vNil (vCons (vVar 2) (vCons (vVar 3) (vCons (vVar 4) (vCons (vVar 9) vNil))))) vNil)) (vVar 10)))) (vRet (vC (.bl false))) vPass)
    (vIfS (vTr (vOp dNe (vBl bReprD (vCons (vCall 4 F_gap_paper_error (vCons (vVar 2) (vCons (vVar 3) (vCons (vVar 4) (vCons (vVar 9) vNil))))) vNil)) (vVar 10))) (vRet (vC (.bl false))) vPass)))
def L1_law (F_law_triples F_law_is_paper_right F_gap_paper_error F_law_due F_law_own_sums F_law_own_rests F_law_own_overs F_law_divisors F_law_own_bag : Fn) : VSt :=
  (vFor (vEnum (vCons (vVar 6) vNil)) (gP (pTup 2 (psCons (pN 8) (psCons (pN 9) psNil)))) (B1_law F_law_triples F_law_is_paper_right F_gap_paper_error F_law_due F_law_own_sums F_law_own_rests F_law_own_overs F_law_divisors F_law_own_bag))
def B2_law (F_law_triples F_law_is_paper_right F_gap_paper_error F_law_due F_law_own_sums F_law_own_rests F_law_own_overs F_law_divisors F_law_own_bag : Fn) : VSt :=
  (vSeq (vAsg (vTup (vCons (vVar 2) (vCons (vVar 3) (vCons (vVar 4) (vCons (vOp dIx (vCall 2 F_law_divisors (vCons (vVar 2) (vCons (vVar 3) vNil))) (vUn uNeg (vC (.int 1)))) vNil))))) (gName 5))
    (vSeq (vAsg (vOp dAdd (vOp dAdd (vCall 2 F_law_own_sums (vCons (vVar 1) (vCons (vVar 5) vNil))) (vCall 2 F_law_own_rests (vCons (vVar 1) (vCons (vVar 5) vNil)))) (vCall 2 F_law_own_overs (vCons (vVar 1) (vCons (vVar 5) vNil)))) (gName 6))
    (vSeq (vAsg (vBl bReprD (vCons (vVar 6) vNil)) (gName 7))
    (vSeq (L1_law F_law_triples F_law_is_paper_right F_gap_paper_error F_law_due F_law_own_sums F_law_own_rests F_law_own_overs F_law_divisors F_law_own_bag)
    (vIfS (vOrT (vTr (vOp dNe (vBl bReprD (vCons (vVar 6) vNil)) (vVar 7))) (vNotT (vTr (vCall 4 F_law_is_paper_right (vCons (vVar 2) (vCons (vVar 3) (vCons (vVar 4) (vCons (vOp dIx (vVar 5) (vC (.int 3))) vNil)))))))) (vRet (vC (.bl false))) vPass)))))
def L2_law (F_law_triples F_law_is_paper_right F_gap_paper_error F_law_due F_law_own_sums F_law_own_rests F_law_own_overs F_law_divisors F_law_own_bag : Fn) : VSt :=
  (vFor (vIt (vCall 1 F_law_triples (vCons (vVar 1) vNil))) (gP (pTup 3 (psCons (pN 2) (psCons (pN 3) (psCons (pN 4) psNil))))) (B2_law F_law_triples F_law_is_paper_right F_gap_paper_error F_law_due F_law_own_sums F_law_own_rests F_law_own_overs F_law_divisors F_law_own_bag))
def S1_law (F_law_triples F_law_is_paper_right F_gap_paper_error F_law_due F_law_own_sums F_law_own_rests F_law_own_overs F_law_divisors F_law_own_bag : Fn) : VSt :=
  (vAsg (vCall 1 F_law_own_bag (vCons (vVar 0) vNil)) (gName 1))
def m_law (F_law_triples F_law_is_paper_right F_gap_paper_error F_law_due F_law_own_sums F_law_own_rests F_law_own_overs F_law_divisors F_law_own_bag : Fn) : VSt :=
  (vSeq (S1_law F_law_triples F_law_is_paper_right F_gap_paper_error F_law_due F_law_own_sums F_law_own_rests F_law_own_overs F_law_divisors F_law_own_bag)
    (vSeq (L2_law F_law_triples F_law_is_paper_right F_gap_paper_error F_law_due F_law_own_sums F_law_own_rests F_law_own_overs F_law_divisors F_law_own_bag)
    (vRet (vC (.bl true)))))
theorem ok_law (T : Txt K mg) {F_law_triples F_law_is_paper_right F_gap_paper_error F_law_due F_law_own_sums F_law_own_rests F_law_own_overs F_law_divisors F_law_own_bag : Fn} (G_law_triples : FnG P w K mg base 4 T.a_law_triples T.d_law_triples P_law_triples F_law_triples) (G_law_is_paper_right : FnG P w K mg base 5 T.a_law_is_paper_right T.d_law_is_paper_right P_law_is_paper_right F_law_is_paper_right) (G_gap_paper_error : FnG P w K mg base 4 T.a_gap_paper_error T.d_gap_paper_error P_gap_paper_error F_gap_paper_error) (G_law_due : FnG P w K mg base 3 T.a_law_due T.d_law_due P_law_due F_law_due) (G_law_own_sums : FnG P w K mg base 2 T.a_law_own_sums T.d_law_own_sums P_law_own_sums F_law_own_sums) (G_law_own_rests : FnG P w K mg base 2 T.a_law_own_rests T.d_law_own_rests P_law_own_rests F_law_own_rests) (G_law_own_overs : FnG P w K mg base 2 T.a_law_own_overs T.d_law_own_overs P_law_own_overs F_law_own_overs) (G_law_divisors : FnG P w K mg base 1 T.a_law_divisors T.d_law_divisors P_law_divisors F_law_divisors) (G_law_own_bag : FnG P w K mg base 1 T.a_law_own_bag T.d_law_own_bag P_law_own_bag F_law_own_bag) : FnG P w K mg base 6 T.a_law T.d_law P_law (mF 11 (m_law F_law_triples F_law_is_paper_right F_gap_paper_error F_law_due F_law_own_sums F_law_own_rests F_law_own_overs F_law_divisors F_law_own_bag)) :=
  fnG_of T.f_law sc_law fun cdv A outer s H E a =>
    (qsCons (qSet (i := 1) sc_law.nd (qCall G_law_own_bag (a.mono (by decide)) T.g_law_own_bag T.k_law_own_bag T.b_law_own_bag (qa (qV (i := 0) rfl (.inl rfl)) qa0)) rfl (.inl rfl))
    (qsCons (qFor a.ps rfl (qIt (qCall G_law_triples (a.mono (by decide)) T.g_law_triples T.k_law_triples T.b_law_triples (qa (qV (i := 1) rfl (.inl rfl)) qa0))) (qgP (vs := [2, 3, 4]) (pg_tup rfl (pgs_cons (pg_name (i := 2) sc_law.nd rfl (.inl rfl)) (pgs_cons (pg_name (i := 3) sc_law.nd rfl (.inl rfl)) (pgs_cons (pg_name (i := 4) sc_law.nd rfl (.inl rfl)) pgs_nil)))) (tgd_tup (tgsd_cons (tgd_name (by decide)) (tgsd_cons (tgd_name (by decide)) (tgsd_cons (tgd_name (by decide)) tgsd_nil))))) (qsCons (qSet (i := 5) sc_law.nd (qTup (qa (qV (i := 2) rfl (.inl rfl)) (qa (qV (i := 3) rfl (.inl rfl)) (qa (qV (i := 4) rfl (.inl rfl)) (qa (qIx ix_seq (ix_opd _) (qCall G_law_divisors (a.mono (by decide)) T.g_law_divisors T.k_law_divisors T.b_law_divisors (qa (qV (i := 2) rfl (.inl rfl)) (qa (qV (i := 3) rfl (.inl rfl)) qa0))) (qUn un_neg (neg_un _) qI)) qa0))))) rfl (.inl rfl))
    (qsCons (qSet (i := 6) sc_law.nd (qOp add_opr (add_opd _) (qOp add_opr (add_opd _) (qCall G_law_own_sums (a.mono (by decide)) T.g_law_own_sums T.k_law_own_sums T.b_law_own_sums (qa (qV (i := 1) rfl (.inl rfl)) (qa (qV (i := 5) rfl (.inl rfl)) qa0))) (qCall G_law_own_rests (a.mono (by decide)) T.g_law_own_rests T.k_law_own_rests T.b_law_own_rests (qa (qV (i := 1) rfl (.inl rfl)) (qa (qV (i := 5) rfl (.inl rfl)) qa0)))) (qCall G_law_own_overs (a.mono (by decide)) T.g_law_own_overs T.k_law_own_overs T.b_law_own_overs (qa (qV (i := 1) rfl (.inl rfl)) (qa (qV (i := 5) rfl (.inl rfl)) qa0)))) rfl (.inl rfl))
    (qsCons (qSet (i := 7) sc_law.nd (qBl (cr_reprD (SysIn.h (base := base)) a.gd a.rp) (reprD_cd _) T.n_repr (qa (qV (i := 6) rfl (.inl rfl)) qa0)) rfl (.inl rfl))
    (qsCons (qFor a.ps rfl (qEnum T.n_enumerate (qa (qV (i := 6) rfl (.inl rfl)) qa0)) (qgP (vs := [8, 9]) (pg_tup rfl (pgs_cons (pg_name (i := 8) sc_law.nd rfl (.inl rfl)) (pgs_cons (pg_name (i := 9) sc_law.nd rfl (.inl rfl)) pgs_nil))) (tgd_tup (tgsd_cons (tgd_name (by decide)) (tgsd_cons (tgd_name (by decide)) tgsd_nil)))) (qsCons (qSet (i := 10) sc_law.nd (qBl (cr_reprD (SysIn.h (base := base)) a.gd a.rp) (reprD_cd _) T.n_repr (qa (qCall G_law_due (a.mono (by decide)) T.g_law_due T.k_law_due T.b_law_due (qa (qV (i := 5) rfl (.inl rfl)) (qa (qV (i := 9) rfl (.inl rfl)) qa0))) qa0)) rfl (.inl rfl))
    (qsCons (qIfS (PW.pt (qAndT (qCmT (eq_opr a.hu) (eq_opd _) (qOp op_modN (mod_ii _) (qTy call_int1 (int_cd _) T.n_int (qa (qV (i := 8) rfl (.inl rfl)) qa0)) qI) qI) (qAnd1 (qCmT (ne_opr a.hu) (ne_opd _) (qBl (cr_reprD (SysIn.h (base := base)) a.gd a.rp) (reprD_cd _) T.n_repr (qa (qCallK0 G_gap_paper_error (a.mono (by decide)) T.g_gap_paper_error T.k_gap_paper_error (kw1 T) (qk (qV (i := 2) rfl (.inl rfl)) (qk (qV (i := 3) rfl (.inl rfl)) (qk (qV (i := 4) rfl (.inl rfl)) (qk (qV (i := 9) rfl (.inl rfl)) qk0))))) qa0)) (qV (i := 10) rfl (.inl rfl)))))) (qsOne (qRet qB)) qsNil)
    (qsOne (qIfS (qCmT (ne_opr a.hu) (ne_opd _) (qBl (cr_reprD (SysIn.h (base := base)) a.gd a.rp) (reprD_cd _) T.n_repr (qa (qCall G_gap_paper_error (a.mono (by decide)) T.g_gap_paper_error T.k_gap_paper_error T.b_gap_paper_error (qa (qV (i := 2) rfl (.inl rfl)) (qa (qV (i := 3) rfl (.inl rfl)) (qa (qV (i := 4) rfl (.inl rfl)) (qa (qV (i := 9) rfl (.inl rfl)) qa0))))) qa0)) (qV (i := 10) rfl (.inl rfl))) (qsOne (qRet qB)) qsNil)))))
    (qsOne (qIfS (PW.pt (qOrT (qCmT (ne_opr a.hu) (ne_opd _) (qBl (cr_reprD (SysIn.h (base := base)) a.gd a.rp) (reprD_cd _) T.n_repr (qa (qV (i := 6) rfl (.inl rfl)) qa0)) (qV (i := 7) rfl (.inl rfl))) (qOr1 (qNotT (qT (qCall G_law_is_paper_right (a.mono (by decide)) T.g_law_is_paper_right T.k_law_is_paper_right T.b_law_is_paper_right (qa (qV (i := 2) rfl (.inl rfl)) (qa (qV (i := 3) rfl (.inl rfl)) (qa (qV (i := 4) rfl (.inl rfl)) (qa (qIx ix_seq (ix_opd _) (qV (i := 5) rfl (.inl rfl)) qI) qa0)))))))))) (qsOne (qRet qB)) qsNil)))))))
    (qsOne (qRet qB))))
def F_is_number : Fn := mF 1 (m_is_number)
def F_is_within : Fn := mF 3 (m_is_within F_is_number)
def F_greatest_divisor : Fn := mF 2 (m_greatest_divisor)
def F_gap_paper : Fn := mF 5 (m_gap_paper F_greatest_divisor)
def F_is_sum_form : Fn := mF 2 (m_is_sum_form F_is_within)
def F_over_fault : Fn := mF 4 (m_over_fault F_greatest_divisor)
def F_gap_paper_error : Fn := mF 7 (m_gap_paper_error F_is_within F_over_fault F_is_sum_form)
def F_law_own_bag : Fn := mF 4 (m_law_own_bag)
def F_law_draw : Fn := mF 4 (m_law_draw)
def F_law_pick : Fn := mF 2 (m_law_pick F_law_draw)
def F_law_great : Fn := mF 3 (m_law_great F_law_pick F_law_draw)
def F_law_is_within : Fn := mF 2 (m_law_is_within)
def F_law_divisors : Fn := mF 3 (m_law_divisors)
def F_law_own_sort : Fn := mF 5 (m_law_own_sort F_law_divisors)
def F_law_is_of_form : Fn := mF 3 (m_law_is_of_form F_law_is_within)
def F_law_due : Fn := mF 8 (m_law_due F_law_is_of_form)
def F_law_own_sums : Fn := mF 13 (m_law_own_sums F_law_draw)
def F_law_own_rests : Fn := mF 8 (m_law_own_rests F_law_draw F_law_divisors)
def F_law_own_overs : Fn := mF 10 (m_law_own_overs F_law_draw)
def F_law_over : Fn := mF 7 (m_law_over F_law_draw F_law_pick F_law_divisors)
def F_law_triples : Fn := mF 9 (m_law_triples F_law_over F_law_pick F_law_draw F_law_divisors F_law_great)
def F_law_is_paper_right : Fn := mF 10 (m_law_is_paper_right F_gap_paper_error F_law_due F_gap_paper F_law_is_of_form F_law_own_sort)
def F_law : Fn := mF 11 (m_law F_law_triples F_law_is_paper_right F_gap_paper_error F_law_due F_law_own_sums F_law_own_rests F_law_own_overs F_law_divisors F_law_own_bag)
theorem G_is_number (T : Txt K mg) : FnG P w K mg base 1 T.a_is_number T.d_is_number P_is_number F_is_number := ok_is_number T
theorem G_is_within (T : Txt K mg) : FnG P w K mg base 2 T.a_is_within T.d_is_within P_is_within F_is_within := ok_is_within T (G_is_number T)
theorem G_greatest_divisor (T : Txt K mg) : FnG P w K mg base 1 T.a_greatest_divisor T.d_greatest_divisor P_greatest_divisor F_greatest_divisor := ok_greatest_divisor T
theorem G_gap_paper (T : Txt K mg) : FnG P w K mg base 2 T.a_gap_paper T.d_gap_paper P_gap_paper F_gap_paper := ok_gap_paper T (G_greatest_divisor T)
theorem G_is_sum_form (T : Txt K mg) : FnG P w K mg base 3 T.a_is_sum_form T.d_is_sum_form P_is_sum_form F_is_sum_form := ok_is_sum_form T (G_is_within T)
theorem G_over_fault (T : Txt K mg) : FnG P w K mg base 2 T.a_over_fault T.d_over_fault P_over_fault F_over_fault := ok_over_fault T (G_greatest_divisor T)
theorem G_gap_paper_error (T : Txt K mg) : FnG P w K mg base 4 T.a_gap_paper_error T.d_gap_paper_error P_gap_paper_error F_gap_paper_error := ok_gap_paper_error T (G_is_within T) (G_over_fault T) (G_is_sum_form T)
theorem G_law_own_bag (T : Txt K mg) : FnG P w K mg base 1 T.a_law_own_bag T.d_law_own_bag P_law_own_bag F_law_own_bag := ok_law_own_bag T
theorem G_law_draw (T : Txt K mg) : FnG P w K mg base 1 T.a_law_draw T.d_law_draw P_law_draw F_law_draw := ok_law_draw T
theorem G_law_pick (T : Txt K mg) : FnG P w K mg base 2 T.a_law_pick T.d_law_pick P_law_pick F_law_pick := ok_law_pick T (G_law_draw T)
theorem G_law_great (T : Txt K mg) : FnG P w K mg base 3 T.a_law_great T.d_law_great P_law_great F_law_great := ok_law_great T (G_law_pick T) (G_law_draw T)
theorem G_law_is_within (T : Txt K mg) : FnG P w K mg base 1 T.a_law_is_within T.d_law_is_within P_law_is_within F_law_is_within := ok_law_is_within T
theorem G_law_divisors (T : Txt K mg) : FnG P w K mg base 1 T.a_law_divisors T.d_law_divisors P_law_divisors F_law_divisors := ok_law_divisors T
theorem G_law_own_sort (T : Txt K mg) : FnG P w K mg base 2 T.a_law_own_sort T.d_law_own_sort P_law_own_sort F_law_own_sort := ok_law_own_sort T (G_law_divisors T)
theorem G_law_is_of_form (T : Txt K mg) : FnG P w K mg base 2 T.a_law_is_of_form T.d_law_is_of_form P_law_is_of_form F_law_is_of_form := ok_law_is_of_form T (G_law_is_within T)
theorem G_law_due (T : Txt K mg) : FnG P w K mg base 3 T.a_law_due T.d_law_due P_law_due F_law_due := ok_law_due T (G_law_is_of_form T)
theorem G_law_own_sums (T : Txt K mg) : FnG P w K mg base 2 T.a_law_own_sums T.d_law_own_sums P_law_own_sums F_law_own_sums := ok_law_own_sums T (G_law_draw T)
theorem G_law_own_rests (T : Txt K mg) : FnG P w K mg base 2 T.a_law_own_rests T.d_law_own_rests P_law_own_rests F_law_own_rests := ok_law_own_rests T (G_law_draw T) (G_law_divisors T)
theorem G_law_own_overs (T : Txt K mg) : FnG P w K mg base 2 T.a_law_own_overs T.d_law_own_overs P_law_own_overs F_law_own_overs := ok_law_own_overs T (G_law_draw T)
theorem G_law_over (T : Txt K mg) : FnG P w K mg base 3 T.a_law_over T.d_law_over P_law_over F_law_over := ok_law_over T (G_law_draw T) (G_law_pick T) (G_law_divisors T)
theorem G_law_triples (T : Txt K mg) : FnG P w K mg base 4 T.a_law_triples T.d_law_triples P_law_triples F_law_triples := ok_law_triples T (G_law_over T) (G_law_pick T) (G_law_draw T) (G_law_divisors T) (G_law_great T)
theorem G_law_is_paper_right (T : Txt K mg) : FnG P w K mg base 5 T.a_law_is_paper_right T.d_law_is_paper_right P_law_is_paper_right F_law_is_paper_right := ok_law_is_paper_right T (G_gap_paper_error T) (G_law_due T) (G_gap_paper T) (G_law_is_of_form T) (G_law_own_sort T)
theorem G_law (T : Txt K mg) : FnG P w K mg base 6 T.a_law T.d_law P_law F_law := ok_law T (G_law_triples T) (G_law_is_paper_right T) (G_gap_paper_error T) (G_law_due T) (G_law_own_sums T) (G_law_own_rests T) (G_law_own_overs T) (G_law_divisors T) (G_law_own_bag T)
theorem chain (T : Txt K mg) : FnG P w K mg base 6 T.a_law T.d_law P_law F_law := G_law T
end K35

namespace K35
open PySem Vq
/-! ### the bag -/
def skipR : List Int → Int → List Int × Int
  | [], m => ([], m)
  | a :: r, m => if m = 0 then skipR r (if 1000000000 < a then a else 0) else (a :: r, m)
theorem skipR_len : ∀ (l : List Int) (m : Int), (skipR l m).1.length ≤ l.length
  | [], _ => Nat.le_refl _
  | a :: r, m => by
    unfold skipR
    split
    · exact Nat.le_succ_of_le (skipR_len r _)
    · exact Nat.le_refl _
def skipB (B : Bag) : Bag := ⟨(skipR B.rc B.m).1, (skipR B.rc B.m).2, B.x, Nat.le_trans (skipR_len _ _) B.hl⟩
def stirB (B : Bag) : Bag := ⟨B.rc, B.m, (B.x * 48271 + 11).fmod 2147483647, B.hl⟩
def drawB (n : Int) (B : Bag) : Int × Bag :=
  if 0 < (skipB B).m then ((skipB B).m.fmod n, ⟨(skipB B).rc, (skipB B).m.fdiv n, B.x, (skipB B).hl⟩)
  else (((((stirB (skipB B)).x * (stirB (skipB B)).x).fmod 2147483629).fdiv 7).fmod n, stirB (skipB B))
theorem drawB_range {n : Int} (hn : 0 < n) (B : Bag) : 0 ≤ (drawB n B).1 ∧ (drawB n B).1 < n := by
  unfold drawB
  split <;> exact ⟨Int.fmod_nonneg_of_pos _ hn, Int.fmod_lt_of_pos _ hn⟩
theorem pow109 : powOk 10 9 = true := by decide +kernel
theorem test_draw (b c : Nat) (e1 e2 : Option D) (B : Bag) (h : VH) (q : IsBag h b c B) :
    ∃ g, T1_law_draw [some (.ref b), e1, e2, none] h = .ok (decide (B.m = 0 ∧ B.rc ≠ []), h ++ g) := by
  by_cases hm : B.m = 0
  · refine ⟨[.lst []], ?_⟩
    have z := dNe_L (h := h ++ [.lst []]) (n := c) (m := h.length) (a := B.rc.reverse) (b := []) (q.app _).lkc (by simp)
    simp [T1_law_draw, q.lkb, L2.atI, L2.ixN, hm, z]
  · refine ⟨[], ?_⟩
    simp [T1_law_draw, q.lkb, L2.atI, L2.ixN, hm]
theorem body_draw (b c : Nat) (e1 e2 : Option D) (a : Int) (r : List Int) (m x : Int) (hl : (a :: r).length ≤ 63) (hl' : r.length ≤ 63) (h : VH) (q : IsBag h b c ⟨a :: r, m, x, hl⟩) :
    B1_law_draw [some (.ref b), e1, e2, none] h = .ok (.nx, [some (.ref b), e1, some (.int a), none], putBag h b c ⟨r, if 1000000000 < a then a else 0, x, hl'⟩) := by
  have q1 : IsBag (putBag h b c ⟨r, m, x, hl'⟩) b c ⟨r, m, x, hl'⟩ := q.put _
  have st := q1.set1
  simp only [put_put q.ne] at st
  by_cases ha : 1000000000 < a <;> simp [B1_law_draw, q.lkb, L2.atI, L2.ixN, q.tyc, q.pop rfl hl', aPow_i pow109, ha, st]
theorem loop_draw (b c : Nat) (e1 : Option D) : ∀ (rc : List Int) (m x : Int) (hl : rc.length ≤ 63) (hl2 : (skipR rc m).1.length ≤ 63) (n : Nat) (h : VH) (e2 : Option D), IsBag h b c ⟨rc, m, x, hl⟩ → rc.length < n →
    ∃ e3 g, whileF T1_law_draw B1_law_draw n [some (.ref b), e1, e2, none] h = .ok (.nx, [some (.ref b), e1, e3, none], putBag h b c ⟨(skipR rc m).1, (skipR rc m).2, x, hl2⟩ ++ g)
  | [], m, x, hl, hl2, n + 1, h, e2, q, hn => by
    obtain ⟨g, t⟩ := test_draw b c e1 e2 _ h q
    refine ⟨e2, g, ?_⟩
    unfold whileF
    rw [t]
    simp [skipR, q.self]
  | a :: r, m, x, hl, hl2, n + 1, h, e2, q, hn => by
    obtain ⟨g, t⟩ := test_draw b c e1 e2 _ h q
    have hl' : r.length ≤ 63 := Nat.le_of_succ_le hl
    unfold whileF
    rw [t]
    by_cases hm : m = 0
    · have q1 := q.app g
      have e : skipR (a :: r) m = skipR r (if 1000000000 < a then a else 0) := by
        show (if m = 0 then _ else _) = _
        rw [if_pos hm]
      obtain ⟨e3, g2, ih⟩ := loop_draw b c e1 r (if 1000000000 < a then a else 0) x hl' (e ▸ hl2) n _ (some (.int a)) (q1.put _) (by simpa using hn)
      refine ⟨e3, g ++ g2, ?_⟩
      simp only [Res.ok_bind, hm, true_and, ne_eq, reduceCtorEq, not_false_eq_true, decide_true, if_true]
      rw [body_draw b c e1 e2 a r m x hl hl' _ q1]
      simp only [Res.ok_bind]
      rw [ih, put_put q.ne, q.put_app, List.append_assoc]
      simp only [← hm, e]
    · refine ⟨e2, g, ?_⟩
      simp [hm, skipR, q.self]
theorem x_draw (h : VH) (b c : Nat) (B : Bag) (n : Int) (q : IsBag h b c B) (hn : divOk n = true) :
    ∃ g, F_law_draw [.ref b, .int n] h = .ok (.int (drawB n B).1, putBag h b c (drawB n B).2 ++ g) := by
  obtain ⟨e3, g, l⟩ := loop_draw b c (some (.int n)) B.rc B.m B.x B.hl (skipB B).hl 1000000 h none q (Nat.lt_of_le_of_lt B.hl (by decide))
  have l : whileF T1_law_draw B1_law_draw 1000000 [some (.ref b), some (.int n), none, none] h = .ok (.nx, [some (.ref b), some (.int n), e3, none], putBag h b c (skipB B) ++ g) := l
  refine ⟨g, ?_⟩
  have h0 : n ≠ 0 := by
    intro z
    rw [z] at hn
    exact absurd hn (by decide)
  have q1 : IsBag (putBag h b c (skipB B) ++ g) b c (skipB B) := (q.put _).app g
  have pp : ∀ B2, putBag (putBag h b c (skipB B) ++ g) b c B2 = putBag h b c B2 ++ g := fun B2 => by rw [(q.put _).put_app, put_put q.ne]
  have st1 := q1.set1
  have st2 := q1.set2 (stirB (skipB B)).x
  simp only [pp] at st1
  rw [pp] at st2
  have st2 : sLst (.ref b) (.int 2) (.int (stirB (skipB B)).x) (putBag h b c (skipB B) ++ g) = some (putBag h b c (stirB (skipB B)) ++ g) := st2
  have ex : ((skipB B).x * 48271 + 11).fmod 2147483647 = (stirB (skipB B)).x := rfl
  have hx : mulOk (skipB B).x 48271 = true := by simp [mulOk]
  have hxx : mulOk (stirB (skipB B)).x (stirB (skipB B)).x = true := by
    rw [← ex]
    have h1 := Int.fmod_nonneg_of_pos ((skipB B).x * 48271 + 11) (show (0 : Int) < 2147483647 by decide)
    have h2 := Int.fmod_lt_of_pos ((skipB B).x * 48271 + 11) (show (0 : Int) < 2147483647 by decide)
    simp only [mulOk, Bool.or_eq_true, decide_eq_true_eq]
    left
    left
    omega
  by_cases hp : 0 < (skipB B).m
  · refine mF_rt (s' := [some (.ref b), some (.int n), e3, some (.int ((skipB B).m.fmod n))]) ?_
    simp [m_law_draw, S1_law_draw, S2_law_draw, L1_law_draw, vWhile, l, q1.lkb, L2.atI, L2.ixN, hp, aMod_i h0, aFdv_i hn, st1, drawB]
    rfl
  · refine mF_rt (s' := [some (.ref b), some (.int n), e3, none]) ?_
    have q2 : lk (putBag h b c (stirB (skipB B)) ++ g) b = some [.ref c, .int (stirB (skipB B)).m, .int (stirB (skipB B)).x] := ((q.put _).app g).lkb
    simp [m_law_draw, S1_law_draw, S2_law_draw, L1_law_draw, vWhile, l, q1.lkb, L2.atI, L2.ixN, hp, dMul_i hx, aMod_i, ex, st2, q2, dMul_i hxx, aFdv_i (show divOk 7 = true by decide), aMod_i h0, drawB]
end K35

namespace K35
open PySem Vq
def tupI (l : List Int) : D := .tup (l.map .int)
theorem inRng_small {i : Int} (h0 : -1000000 ≤ i) (h1 : i ≤ 1000000) : inRng i = true := by
  unfold inRng
  exact decide_eq_true (by omega)
theorem divOk_small {i : Int} (h0 : 1 ≤ i) (h1 : i ≤ 1000000000) : divOk i = true := by
  unfold divOk
  simp
  left
  omega
theorem s_draw {h : VH} {b c : Nat} (q : Hb b c h) {n : Int} (hn : 0 < n) (hd : divOk n = true) : ∃ d h', F_law_draw [.ref b, .int n] h = .ok (.int d, h') ∧ 0 ≤ d ∧ d < n ∧ Keep b c h h' := by
  obtain ⟨B, q⟩ := q
  obtain ⟨g, e⟩ := x_draw h b c B n q hd
  exact ⟨_, _, e, (drawB_range hn B).1, (drawB_range hn B).2, .put q _ g⟩
theorem s_drawS {h : VH} {b c : Nat} (q : Hb b c h) {n : Int} (hn : 0 < n) (hs : n ≤ 1000000000) : ∃ d h', F_law_draw [.ref b, .int n] h = .ok (.int d, h') ∧ 0 ≤ d ∧ d < n ∧ Keep b c h h' := s_draw q hn (divOk_small hn hs)
theorem s_pick {h : VH} {b c n : Nat} (q : Hb b c h) {l : List D} (e : lk h n = some l) (hb : n ≠ b) (hc : n ≠ c) (h0 : l ≠ []) (hs : l.length ≤ 1000000000) : ∃ d h', F_law_pick [.ref b, .ref n] h = .ok (d, h') ∧ d ∈ l ∧ Keep b c h h' := by
  have hp : 0 < l.length := List.length_pos_iff.mpr h0
  obtain ⟨i, h', e1, h1, h2, k⟩ := s_drawS q (n := l.length) (by omega) (by omega)
  have e2 : lk h' n = some l := k.cells hb hc e
  have hlt : i.toNat < l.length := by omega
  have ia : L2.atI l i = some (l[i.toNat]'hlt) := atI_nn h1 hlt
  refine ⟨l[i.toNat]'hlt, h', mF_rt (s' := [some (.ref b), some (.ref n)]) ?_, List.getElem_mem _, k⟩
  simp [m_law_pick, e, e1, e2, ia]
def absL (ns : List Int) : List Int := ns.map fun i => if i < 0 then -i else i
def V3 (ns : List Int) : VH := [.ro (ns.map .int), .lst (ns.map .int), .lst ((absL ns).map .int)]
theorem s_own_bag (ns : List Int) (hn : ns.length ≤ 63) : ∃ b c h', F_law_own_bag [.ref 0] (scriptH ns) = .ok (.ref b, h') ∧ Hb b c h' := by
  have cut : cutD (ns.map D.int) none (some 63) = ns.map .int := by
    have e : HT.sIx ns.length ns.length (some 63) = ns.length := by
      show (if (63 : Int) < 0 then ((63 : Int) + (ns.length : Int)).toNat else min (63 : Int).toNat ns.length) = _
      rw [if_neg (by decide)]
      exact Nat.min_eq_right hn
    have e0 : HT.sIx ns.length 0 none = 0 := rfl
    unfold cutD
    simp only [List.length_map, e, e0, Nat.sub_zero, List.drop_zero]
    exact List.take_of_length_le (by simp)
  have sl : slD (.ref 0) none (some 63) (scriptH ns) = some (.ref 1, [.ro (ns.map .int), .lst (ns.map .int)]) := by
    show some (D.ref 1, scriptH ns ++ [.lst (cutD (ns.map D.int) none (some 63))]) = _
    rw [cut]
    rfl
  have c1 : C1_law_own_bag [some (.ref 0), none, none, none] (scriptH ns) = .ok (.ref 2, V3 ns) := by
    unfold C1_law_own_bag
    rw [lc_lst (n := 1) (h1 := [.ro (ns.map .int), .lst (ns.map .int)]) (ys := ns) (c := .int) (fun _ => true) (fun i => .int (if i < 0 then -i else i)) (by simp [sl]) (by rfl) (by omega) (by
      intro i hi acc
      refine ⟨_, rfl, rfl, fun _ => ?_⟩
      simp [E1_law_own_bag, vwipe])]
    simp only [V3, absL, List.filter_eq_self.mpr (fun _ _ => rfl), List.map_map]
    rfl
  have l2 : lk (V3 ns) 2 = some ((absL ns).map .int) := rfl
  have al : (absL ns).length = ns.length := by simp [absL]
  obtain ⟨s', h', e1, ⟨x, d, e2, e3⟩⟩ := for_all (it := vIt (vVar 1)) (g := gP (pN 3)) (body := B1_law_own_bag) (s := [some (.ref 0), some (.ref 2), some (.int (3535 + ns.length)), none]) (h := V3 ns) (h1 := V3 ns) (src := fun h => lk h 2) (xs := (absL ns).map .int)
    (fun _ s h => ∃ x d, s = [some (.ref 0), some (.ref 2), some (.int x), d] ∧ h = V3 ns) (by simp) (by rintro i s h ⟨x, d, rfl, rfl⟩; exact l2) ⟨_, _, rfl, rfl⟩ (by
      rintro i d s h ed ⟨x, d', rfl, rfl⟩
      have hm := List.mem_of_getElem? ed
      obtain ⟨a, _, rfl⟩ := List.mem_map.mp hm
      refine ⟨[some (.ref 0), some (.ref 2), some (.int ((x * 48271 + a.fmod 2147483629 + 7).fmod 2147483647)), some (.int a)], V3 ns, .inl ?_, ⟨_, _, rfl, rfl⟩⟩
      have hx : mulOk x 48271 = true := by simp [mulOk]
      have g1 : gP (pN 3) (.int a) [some (.ref 0), some (.ref 2), some (.int x), d'] (V3 ns) = .ok ([some (.ref 0), some (.ref 2), some (.int x), some (.int a)], V3 ns) := rfl
      unfold turn
      rw [g1]
      simp [B1_law_own_bag, dMul_i hx, aMod_i])
  subst e2 e3
  refine ⟨5, 4, [.ro (ns.map .int), .lst (ns.map .int), .lst ((absL ns).map .int), .lst ((absL ns).map .int), .lst ((absL ns).reverse.map .int), .lst [.ref 4, .int 0, .int x]], mF_rt (s' := [some (.ref 0), some (.ref 2), some (.int x), d]) ?_, ⟨⟨absL ns, 0, x, by omega⟩, rfl, rfl, by decide⟩⟩
  have e1 : L1_law_own_bag [some (.ref 0), some (.ref 2), some (.int (3535 + ns.length)), none] (V3 ns) = .ok (.nx, [some (.ref 0), some (.ref 2), some (.int x), d], V3 ns) := e1
  have e4 : V3 ns ++ [.lst ((absL ns).map .int)] = [.ro (ns.map .int), .lst (ns.map .int), .lst ((absL ns).map .int), .lst ((absL ns).map .int)] := rfl
  have l3 : lk [.ro (ns.map .int), .lst (ns.map .int), .lst ((absL ns).map .int), .lst ((absL ns).map .int)] 3 = some ((absL ns).map .int) := rfl
  have n3 : (V3 ns).length = 3 := rfl
  simp [m_law_own_bag, S1_law_own_bag, S2_law_own_bag, c1, l2, al, e1, l3, n3, e4]
end K35

namespace K35
open PySem Vq
def isNum : D → Bool
  | .int _ => true
  | _ => false
def isIB : D → Bool
  | .int _ => true
  | .bl _ => true
  | _ => false
def isB : D → Bool
  | .bl _ => true
  | _ => false
def isT : D → Bool
  | .tup _ => true
  | .ftup _ => true
  | _ => false
def notF : D → Bool
  | .ftup _ => false
  | _ => true
theorem kit_i (d : D) : L2.kitB (tyNm d) "int" = some (isIB d) := by
  cases d <;> (simp only [tyNm, isIB]; decide +kernel)
theorem kit_b (d : D) : L2.kitB (tyNm d) "bool" = some (isB d) := by
  cases d <;> (simp only [tyNm, isB]; decide +kernel)
theorem kit_t (d : D) : L2.kitB (tyNm d) "tuple" = some (isT d) := by
  cases d <;> (simp only [tyNm, isT]; decide +kernel)
theorem x_is_number (d : D) (h : VH) : F_is_number [d] h = .ok (.bl (isNum d), h) := by
  have k1 := kit_i d
  have k2 := kit_b d
  refine mF_rt (s' := [some d]) ?_
  cases d <;> (simp only [isIB, isB] at k1 k2; simp -implicitDefEqProofs [m_is_number, vIsi, k1, k2, isNum])
def inW (lo hi : Int) : D → Bool
  | .int i => decide (lo ≤ i) && decide (i ≤ hi)
  | _ => false
theorem x_is_within (d : D) (lo hi : Int) (h : VH) : F_is_within [d, .int lo, .int hi] h = .ok (.bl (inW lo hi d), h) := by
  have n := x_is_number d h
  refine mF_rt (s' := [some d, some (.int lo), some (.int hi)]) ?_
  cases d with
  | int i =>
    simp only [isNum] at n
    by_cases c : lo ≤ i
    · simp -implicitDefEqProofs [m_is_within, n, inW, c]
    · simp -implicitDefEqProofs [m_is_within, n, inW, c]
  | _ => simp only [isNum] at n; simp -implicitDefEqProofs [m_is_within, n, inW]
theorem bAll_r {h : VH} {n : Nat} {l : List Bool} (e : lk h n = some (l.map .bl)) : bAll [.ref n] h = some (.bl (l.all id), h) := by
  unfold bAll pureB argBools
  simp [e]
def MAXN : Int := 1000000000000000000000000000000
theorem pow30 (h : VH) : aPow (.int 10) (.int 30) h = some (.int MAXN, h) := by
  have e : aPow (.int 10) (.int 30) h = (if powOk 10 30 = true then some (D.int ((10 : Int) ^ (30 : Int).toNat)) else none).map fun d => (d, h) := rfl
  rw [e, if_pos (by decide +kernel)]
  rfl
def minI (a b : Int) : Int := if b < a then b else a
theorem mn_is (a b : Int) (h : VH) : bMin [.int a, .int b] h = some (.int (min a b), h) := by
  have : bMin [.int a, .int b] h = some (.int (minI a b), h) := rfl
  rw [this]
  have e : minI a b = min a b := by
    unfold minI
    split <;> omega
  rw [e]

def isS : D → Bool
  | .str _ => true
  | _ => false
theorem kit_s (d : D) : L2.kitB (tyNm d) "str" = some (isS d) := by
  cases d <;> (simp only [tyNm, isS]; decide +kernel)
theorem x_law_within (d : D) (lo : Int) (h : VH) : F_law_is_within [d, .int lo] h = .ok (.bl (inW lo MAXN d), h) := by
  have k1 := kit_i d
  have k2 := kit_b d
  have p := pow30 h
  refine mF_rt (s' := [some d, some (.int lo)]) ?_
  cases d with
  | int i =>
    simp only [isIB, isB] at k1 k2
    by_cases c : lo ≤ i
    · simp -implicitDefEqProofs [m_law_is_within, vIsi, k1, k2, inW, c, p]
    · simp -implicitDefEqProofs [m_law_is_within, vIsi, k1, k2, inW, c, p]
  | _ => simp only [isIB, isB] at k1 k2; simp -implicitDefEqProofs [m_law_is_within, vIsi, k1, k2, inW]
theorem fmod_nat (a b : Nat) : (a : Int).fmod (b : Int) = ((a % b : Nat) : Int) := (Int.ofNat_fmod a b).symm
theorem gcd_loop (h : VH) : ∀ (n a b : Nat), b < n → whileF T1_greatest_divisor B1_greatest_divisor n [some (.int (a : Int)), some (.int (b : Int))] h = .ok (.nx, [some (.int ((Nat.gcd a b : Nat) : Int)), some (.int 0)], h) := by
  intro n
  induction n with
  | zero => intro a b hb; omega
  | succ n ih =>
    intro a b hb
    unfold whileF
    by_cases b0 : b = 0
    · subst b0
      simp -implicitDefEqProofs [T1_greatest_divisor]
    · have b0' : ¬ (b : Int) = 0 := by omega
      have am := aMod_i (i := (a : Int)) (j := (b : Int)) (h := h) (by omega)
      rw [fmod_nat] at am
      have lt : a % b < b := Nat.mod_lt _ (by omega)
      have r := ih b (a % b) (by omega)
      have eg : Nat.gcd b (a % b) = Nat.gcd a b := by rw [Nat.gcd_comm b, ← Nat.gcd_rec, Nat.gcd_comm]
      rw [eg] at r
      have t : T1_greatest_divisor [some (.int (a : Int)), some (.int (b : Int))] h = .ok (true, h) := by
        simp -implicitDefEqProofs [T1_greatest_divisor, b0, b0']
      have bd : B1_greatest_divisor [some (.int (a : Int)), some (.int (b : Int))] h = .ok (.nx, [some (.int (b : Int)), some (.int ((a % b : Nat) : Int))], h) := by
        generalize hq : ((a % b : Nat) : Int) = q at *
        simp -implicitDefEqProofs [B1_greatest_divisor, am]
      rw [t, Res.ok_bind, if_pos rfl, bd, Res.ok_bind]
      exact r
theorem x_gcd (a b : Nat) (hb : b ≤ 1000) (h : VH) : F_greatest_divisor [.int (a : Int), .int (b : Int)] h = .ok (.int ((Nat.gcd a b : Nat) : Int), h) := by
  have l := gcd_loop h 1000000 a b (by omega)
  refine mF_rt (s' := [some (.int ((Nat.gcd a b : Nat) : Int)), some (.int 0)]) ?_
  simp -implicitDefEqProofs [m_greatest_divisor, L1_greatest_divisor, vWhile, l]
theorem mul_sm {x y : Int} (h0 : -1000000 ≤ y) (h1 : y ≤ 1000000) : mulOk x y = true := by
  unfold mulOk
  have : decide (-(2 ^ 64) < y ∧ y < 2 ^ 64) = true := decide_eq_true (by omega)
  rw [this]
  simp
theorem gap_loop {h k d : Int} (c : D) (h60 : 0 ≤ h ∧ h ≤ 1000) (k0 : k ≠ 0) {X : Nat} (hX : ((X : Int) * h - d).fmod k = 0) (hl : ∀ x : Nat, x < X → ((x : Int) * h - d).fmod k ≠ 0) (hp : VH) : ∀ (j x n : Nat), x + j = X → j < n →
    whileF (T1_gap_paper F_greatest_divisor) (B1_gap_paper F_greatest_divisor) n [some (.int h), some (.int k), some (.int d), some c, some (.int (x : Int))] hp = .ok (.nx, [some (.int h), some (.int k), some (.int d), some c, some (.int (X : Int))], hp) := by
  intro j
  induction j with
  | zero =>
    intro x n hx hn
    have e : x = X := by omega
    subst e
    obtain ⟨n, rfl⟩ : ∃ m, n = m + 1 := ⟨n - 1, by omega⟩
    have mo : mulOk (x : Int) h = true := mul_sm (by omega) (by omega)
    have am := aMod_i (i := (x : Int) * h - d) (j := k) (h := hp) k0
    rw [hX] at am
    unfold whileF
    generalize hg : (x : Int) * h = q at *
    simp -implicitDefEqProofs [T1_gap_paper, dMul_i mo, hg, am]
  | succ j ih =>
    intro x n hx hn
    obtain ⟨n, rfl⟩ : ∃ m, n = m + 1 := ⟨n - 1, by omega⟩
    have mo : mulOk (x : Int) h = true := mul_sm (by omega) (by omega)
    have am := aMod_i (i := (x : Int) * h - d) (j := k) (h := hp) k0
    have ne := hl x (by omega)
    have r := ih (x + 1) n (by omega) (by omega)
    have cx : ((x + 1 : Nat) : Int) = (x : Int) + 1 := by omega
    rw [cx] at r
    unfold whileF
    have t : T1_gap_paper F_greatest_divisor [some (.int h), some (.int k), some (.int d), some c, some (.int (x : Int))] hp = .ok (true, hp) := by
      clear hl hX r ih
      generalize hg : (x : Int) * h = q at *
      generalize (q - d).fmod k = u at *
      simp -implicitDefEqProofs [T1_gap_paper, dMul_i mo, hg, am, ne]
    have bd : B1_gap_paper F_greatest_divisor [some (.int h), some (.int k), some (.int d), some c, some (.int (x : Int))] hp = .ok (.nx, [some (.int h), some (.int k), some (.int d), some c, some (.int ((x : Int) + 1))], hp) := by
      simp -implicitDefEqProofs [B1_gap_paper]
    rw [t, Res.ok_bind, if_pos rfl, bd, Res.ok_bind]
    exact r
abbrev wS : Str := Str.ofString "sum"
abbrev wO : Str := Str.ofString "over"
abbrev wR : Str := Str.ofString "rest"
theorem x_gap_rest {h k : Nat} {d : Int} (hk : k ≤ 1000) (h0 : 0 < h) (hd : d.fmod (Nat.gcd h k : Nat) ≠ 0) (hp : VH) : F_gap_paper [.int h, .int k, .int d] hp = .ok (.tup [.str wR, .int ((Nat.gcd h k : Nat) : Int)], hp) := by
  have g := x_gcd h k hk hp
  have g0 : 0 < Nat.gcd h k := Nat.gcd_pos_of_pos_left _ h0
  have am := aMod_i (i := d) (j := ((Nat.gcd h k : Nat) : Int)) (h := hp) (by omega)
  refine mF_rt (s' := [some (.int (h : Int)), some (.int (k : Int)), some (.int d), some (.int ((Nat.gcd h k : Nat) : Int)), none]) ?_
  generalize d.fmod (Nat.gcd h k : Nat) = u at *
  simp -implicitDefEqProofs [m_gap_paper, S3_gap_paper, S2_gap_paper, g, am, hd]
theorem x_gap_found {h k : Nat} {d : Int} (hk : k ≤ 1000) (hh : h ≤ 1000) (h0 : 0 < h) (k0 : 0 < k) (hd : d.fmod (Nat.gcd h k : Nat) = 0) {X : Nat} (zX : X ≤ 1000) (hX : ((X : Int) * h - d).fmod k = 0) (hl : ∀ x : Nat, x < X → ((x : Int) * h - d).fmod k ≠ 0) (hp : VH) :
    F_gap_paper [.int h, .int k, .int d] hp = .ok (if d < (X : Int) * h then .tup [.str wO, .int (X : Int)] else .tup [.str wS, .tup [.int (X : Int), .int ((d - (X : Int) * h).fdiv k)]], hp) := by
  have g := x_gcd h k hk hp
  have g0 : 0 < Nat.gcd h k := Nat.gcd_pos_of_pos_left _ h0
  have am := aMod_i (i := d) (j := ((Nat.gcd h k : Nat) : Int)) (h := hp) (by omega)
  rw [hd] at am
  have lp := gap_loop (h := (h : Int)) (k := (k : Int)) (d := d) (.int ((Nat.gcd h k : Nat) : Int)) (by omega) (by omega) hX hl hp X 0 1000000 (by omega) (by omega)
  have lp : L1_gap_paper F_greatest_divisor [some (.int (h : Int)), some (.int (k : Int)), some (.int d), some (.int ((Nat.gcd h k : Nat) : Int)), some (.int 0)] hp = _ := lp
  have mo : mulOk (X : Int) (h : Int) = true := mul_sm (by omega) (by omega)
  have dk : divOk (k : Int) = true := divOk_small (by omega) (by omega)
  refine mF_rt (s' := [some (.int (h : Int)), some (.int (k : Int)), some (.int d), some (.int ((Nat.gcd h k : Nat) : Int)), some (.int (X : Int))]) ?_
  have fd := aFdv_i (i := d - (X : Int) * h) (j := (k : Int)) (h := hp) dk
  clear hX hl
  generalize hg : (X : Int) * (h : Int) = q at *
  generalize (d - q).fdiv k = u at *
  by_cases c : d < q
  · simp -implicitDefEqProofs [m_gap_paper, S3_gap_paper, S2_gap_paper, S1_gap_paper, g, am, lp, dMul_i mo, hg, c]
  · simp -implicitDefEqProofs [m_gap_paper, S3_gap_paper, S2_gap_paper, S1_gap_paper, g, am, lp, dMul_i mo, hg, c, fd]
end K35

namespace K35
open PySem Vq
/-! ### papers, of any value -/
inductive Pap
  | sum (a b : Int)
  | over (x : Int)
  | rest (g : Int)
def inN (lo i : Int) : Bool := decide (lo ≤ i) && decide (i ≤ MAXN)
theorem inW_i (lo i : Int) : inW lo MAXN (.int i) = inN lo i := rfl
def sumOf : D → Option (Int × Int)
  | .tup [.int a, .int b] => if inN 0 a && inN 0 b then some (a, b) else none
  | _ => none
def intOf (lo : Int) : D → Option Int
  | .int x => if inN lo x then some x else none
  | _ => none
def papOf : D → Option Pap
  | .tup [.str w, t] => if w = wS then (sumOf t).map fun p => .sum p.1 p.2 else if w = wO then (intOf 0 t).map .over else if w = wR then (intOf 1 t).map .rest else none
  | _ => none
def dueP (h k d g : Int) : Option Pap → D
  | none => .str (Str.ofString "form")
  | some (.sum a b) => if a * h + b * k = d then .non else .tup [.str wS, .int (a * h + b * k)]
  | some (.over x) => if k ≤ x * g then .str (Str.ofString "great") else if (x * h - d).fmod k = 0 then (if x * h ≤ d then .str (Str.ofString "told") else .non) else .str wR
  | some (.rest g) => if h.fmod g = 0 ∧ k.fmod g = 0 then (if d.fmod g = 0 then .str (Str.ofString "told") else .non) else .str (Str.ofString "divides")
/-- no tuple of a known object, not even inside -/
def okF : D → Bool
  | .ftup _ => false
  | .tup [_, .ftup _] => false
  | _ => true
def sumB (t : D) : Bool := (sumOf t).isSome
def all2 (lo : Int) (l : List D) : Bool := l.length == 2 && l.all (inW lo MAXN)
theorem keyB (p : Int × Int) (b : Bool) : (if b = true then some p else none).isSome = (0 + 1 + 1 == 2 && b) := by cases b <;> rfl
theorem papOf_str (w : Str) (t : D) : papOf (.tup [.str w, t]) = if w = wS then (sumOf t).map fun p => .sum p.1 p.2 else if w = wO then (intOf 0 t).map .over else if w = wR then (intOf 1 t).map .rest else none := rfl
theorem dueP_over (h k d g x : Int) : dueP h k d g (some (.over x)) = if k ≤ x * g then .str (Str.ofString "great") else if (x * h - d).fmod k = 0 then (if x * h ≤ d then .str (Str.ofString "told") else .non) else .str wR := rfl
theorem dueP_sum (h k d g a b : Int) : dueP h k d g (some (.sum a b)) = if a * h + b * k = d then .non else .tup [.str wS, .int (a * h + b * k)] := rfl
theorem dueP_rest (h k d g x : Int) : dueP h k d g (some (.rest x)) = if h.fmod x = 0 ∧ k.fmod x = 0 then (if d.fmod x = 0 then .str (Str.ofString "told") else .non) else .str (Str.ofString "divides") := rfl
theorem sumOf_some {t : D} {p : Int × Int} (so : sumOf t = some p) : ∃ a b, t = .tup [.int a, .int b] ∧ p = (a, b) := by
  unfold sumOf at so
  split at so
  · split at so
    · cases so
      exact ⟨_, _, rfl, rfl⟩
    · cases so
  · cases so
theorem sumB_tup : ∀ l : List D, sumB (.tup l) = all2 0 l
  | [] => rfl
  | [x] => by cases x <;> rfl
  | [x, y] => by
    unfold sumB all2
    cases x with
    | int a =>
      cases y with
      | int b =>
        simp only [sumOf, inW_i, List.length_cons, List.length_nil, List.all_cons, List.all_nil, Bool.and_true]
        exact keyB _ _
      | _ => simp [sumOf, inW]
    | _ => cases y <;> simp [sumOf, inW]
  | x :: y :: z :: r => by
    have e : sumOf (.tup (x :: y :: z :: r)) = none := by
      unfold sumOf
      split
      · rename_i h
        simp at h
      · rfl
    unfold sumB all2
    rw [e]
    simp
theorem C1_sum {l : List D} (hz : l.length ≤ 1000) (h : VH) : C1_is_sum_form F_is_within [some (.tup l), none] h = .ok (.ref h.length, h ++ [.lst ((l.map (inW 0 MAXN)).map .bl)]) := by
  unfold C1_is_sum_form
  rw [lc_tup (h1 := h) (ys := l) (c := id) (fun _ => true) (fun y => .bl (inW 0 MAXN y)) (by simp) (by omega) (by
    intro y hy acc
    have c := x_is_within y 0 MAXN (h ++ [.lst acc])
    have c : F_is_within [y, .int 0, .int 1000000000000000000000000000000] (h ++ [.lst acc]) = .ok (.bl (inW 0 MAXN y), h ++ [.lst acc]) := c
    generalize inW 0 MAXN y = u at *
    refine ⟨_, rfl, rfl, fun _ => ?_⟩
    simp -implicitDefEqProofs [E1_is_sum_form, vwipe, c])]
  simp only [List.filter_eq_self.mpr (fun _ _ => rfl), List.map_map]
  rfl
theorem x_is_sum_form {t : D} (ht : notF t = true) (hz : ∀ l, t = .tup l → l.length ≤ 1000) (h : VH) : ∃ h', F_is_sum_form [t] h = .ok (.bl (sumB t), h') ∧ Grow h h' := by
  have kt := kit_t t
  cases hT : isT t with
  | false =>
    rw [hT] at kt
    have sb : sumB t = false := by cases t <;> first | rfl | cases hT
    rw [sb]
    refine ⟨h, mF_rt (s' := [some t, none]) ?_, .refl h⟩
    simp -implicitDefEqProofs [m_is_sum_form, vIsi, kt]
  | true =>
    rw [hT] at kt
    obtain ⟨l, rfl⟩ : ∃ l, t = .tup l := by cases t <;> first | exact ⟨_, rfl⟩ | (cases hT; done) | (cases ht; done)
    rw [sumB_tup]
    unfold all2
    by_cases hl : l.length = 2
    · have hl' : (l.length : Int) = 2 := by omega
      have c1 := C1_sum (hz l rfl) h
      have ba := bAll_r (h := h ++ [.lst ((l.map (inW 0 MAXN)).map .bl)]) (n := h.length) (l := l.map (inW 0 MAXN)) (lk_at h _ [])
      rw [List.all_map, show l.all (id ∘ inW 0 MAXN) = l.all (inW 0 MAXN) from rfl] at ba
      have e2 : (l.length == 2) = true := by rw [hl]; rfl
      rw [e2, Bool.true_and]
      refine ⟨h ++ [.lst ((l.map (inW 0 MAXN)).map .bl)], mF_rt (s' := [some (.tup l), none]) ?_, .new _ _⟩
      generalize (l.map (inW 0 MAXN)).map D.bl = u at *
      simp -implicitDefEqProofs [m_is_sum_form, vIsi, kt, hl', c1, ba]
    · have hl' : ¬ (l.length : Int) = 2 := by omega
      have e2 : (l.length == 2) = false := by simp [hl]
      rw [e2, Bool.false_and]
      refine ⟨h, mF_rt (s' := [some (.tup l), none]) ?_, .refl h⟩
      simp -implicitDefEqProofs [m_is_sum_form, vIsi, kt, hl']
theorem x_over_fault {h k : Nat} {d : Int} (hk : k ≤ 1000) (hh : h ≤ 1000) (k0 : 0 < k) (x : Int) (hp : VH) : F_over_fault [.int h, .int k, .int d, .int x] hp = .ok (dueP h k d (Nat.gcd h k : Nat) (some (.over x)), hp) := by
  have g := x_gcd h k hk hp
  have g1 : Nat.gcd h k ≤ k := Nat.gcd_le_right _ k0
  have mg : mulOk x ((Nat.gcd h k : Nat) : Int) = true := mul_sm (by omega) (by omega)
  have mh : mulOk x (h : Int) = true := mul_sm (by omega) (by omega)
  have am := aMod_i (i := x * h - d) (j := (k : Int)) (h := hp) (by omega)
  refine mF_rt (s' := [some (.int (h : Int)), some (.int (k : Int)), some (.int d), some (.int x)]) ?_
  rw [dueP_over]
  generalize hg : x * ((Nat.gcd h k : Nat) : Int) = q at *
  generalize hq : x * (h : Int) = r at *
  generalize (r - d).fmod k = u at *
  by_cases c1 : (k : Int) ≤ q
  · simp -implicitDefEqProofs [m_over_fault, S2_over_fault, g, dMul_i mg, hg, c1]
  · by_cases c2 : u = 0
    · by_cases c3 : r ≤ d <;> simp -implicitDefEqProofs [m_over_fault, S2_over_fault, S1_over_fault, g, dMul_i mg, dMul_i mh, hg, hq, am, c1, c2, c3]
    · simp -implicitDefEqProofs [m_over_fault, S2_over_fault, S1_over_fault, g, dMul_i mg, dMul_i mh, hg, hq, am, c1, c2]
abbrev EF {α : Type} (f : Fn → Fn → Fn → α) : α := f F_is_within F_over_fault F_is_sum_form
theorem x_paper_error {h k : Nat} {d : Int} (hk : k ≤ 1000) (hh : h ≤ 1000) (k0 : 0 < k) {v : D} (hv : okF v = true) (hz : ∀ l, v = .tup l → l.length ≤ 1000 ∧ ∀ t ∈ l, ∀ l2, t = .tup l2 → l2.length ≤ 1000) (hp : VH) :
    ∃ h', F_gap_paper_error [.int h, .int k, .int d, v] hp = .ok (dueP h k d (Nat.gcd h k : Nat) (papOf v), h') ∧ Grow hp h' := by
  have kt := kit_t v
  cases hT : isT v with
  | false =>
    rw [hT] at kt
    have np : papOf v = none := by cases v <;> first | rfl | cases hT
    rw [np]
    refine ⟨hp, mF_rt (s' := [some (.int (h : Int)), some (.int (k : Int)), some (.int d), some v, none, none, none]) ?_, .refl _⟩
    simp -implicitDefEqProofs [m_gap_paper_error, S6_gap_paper_error, vIsi, kt, dueP]
  | true =>
    rw [hT] at kt
    obtain ⟨l, rfl⟩ : ∃ l, v = .tup l := by cases v <;> first | exact ⟨_, rfl⟩ | (cases hT; done) | (cases hv; done)
    rcases l with _ | ⟨x, _ | ⟨t, _ | ⟨u, r⟩⟩⟩
    · refine ⟨hp, mF_rt (s' := [some (.int (h : Int)), some (.int (k : Int)), some (.int d), some (.tup []), none, none, none]) ?_, .refl _⟩
      simp -implicitDefEqProofs [m_gap_paper_error, S6_gap_paper_error, vIsi, kt, papOf, dueP]
    · refine ⟨hp, mF_rt (s' := [some (.int (h : Int)), some (.int (k : Int)), some (.int d), some (.tup [x]), none, none, none]) ?_, .refl _⟩
      simp -implicitDefEqProofs [m_gap_paper_error, S6_gap_paper_error, vIsi, kt, papOf, dueP]
    · have ks := kit_s x
      have z0 : L2.atI [x, t] 0 = some x := rfl
      cases hx : isS x with
      | false =>
        rw [hx] at ks
        have np : papOf (.tup [x, t]) = none := by cases x <;> first | rfl | cases hx
        rw [np]
        refine ⟨hp, mF_rt (s' := [some (.int (h : Int)), some (.int (k : Int)), some (.int d), some (.tup [x, t]), none, none, none]) ?_, .refl _⟩
        simp -implicitDefEqProofs [m_gap_paper_error, S6_gap_paper_error, vIsi, kt, ks, z0, dueP]
      | true =>
        obtain ⟨w, rfl⟩ : ∃ w, x = .str w := by cases x <;> first | exact ⟨_, rfl⟩ | cases hx
        rw [hx] at ks
        have e6 : EF S6_gap_paper_error [some (.int (h : Int)), some (.int (k : Int)), some (.int d), some (.tup [.str w, t]), none, none, none] hp = .ok (.nx, [some (.int (h : Int)), some (.int (k : Int)), some (.int d), some (.tup [.str w, t]), none, none, none], hp) := by
          simp -implicitDefEqProofs [EF, S6_gap_paper_error, vIsi, kt, ks, z0]
        have e5 : EF S5_gap_paper_error [some (.int (h : Int)), some (.int (k : Int)), some (.int d), some (.tup [.str w, t]), none, none, none] hp = .ok (.nx, [some (.int (h : Int)), some (.int (k : Int)), some (.int d), some (.tup [.str w, t]), some (.str w), some t, none], hp) := by
          simp -implicitDefEqProofs [EF, S5_gap_paper_error]
        have ntf : notF t = true := by
          cases t <;> first | rfl | cases hv
        obtain ⟨h1, es, gs⟩ := x_is_sum_form (t := t) ntf (fun l2 e => (hz _ rfl).2 t (by simp) l2 e) hp
        have w0 := fun lo hp => x_is_within t lo MAXN hp
        have w0 : ∀ lo hp, F_is_within [t, .int lo, .int 1000000000000000000000000000000] hp = .ok (.bl (inW lo MAXN t), hp) := w0
        simp only [EF] at e6 e5
        by_cases cS : w = wS
        · subst cS
          have nO : ¬ (wS : Str) = Str.ofString "over" := by decide +kernel
          have nR : ¬ (wS : Str) = Str.ofString "rest" := by decide +kernel
          cases so : sumOf t with
          | none =>
            have sb : sumB t = false := by unfold sumB; rw [so]; rfl
            rw [sb] at es
            have np : papOf (.tup [.str wS, t]) = none := by
              rw [papOf_str, if_pos rfl, so]
              rfl
            rw [np]
            refine ⟨h1, mF_rt (s' := [some (.int (h : Int)), some (.int (k : Int)), some (.int d), some (.tup [.str wS, t]), some (.str wS), some t, none]) ?_, gs⟩
            show m_gap_paper_error _ _ _ [some (.int (h : Int)), some (.int (k : Int)), some (.int d), some (.tup [.str wS, t]), none, none, none] hp = _
            unfold m_gap_paper_error
            rw [seq_nx e6, seq_nx e5]
            simp -implicitDefEqProofs [S4_gap_paper_error, S3_gap_paper_error, S2_gap_paper_error, es, nO, nR, dueP]
          | some p =>
            have sb : sumB t = true := by unfold sumB; rw [so]; rfl
            rw [sb] at es
            obtain ⟨a, b, rfl, rfl⟩ := sumOf_some so
            have np : papOf (.tup [.str wS, .tup [.int a, .int b]]) = some (.sum a b) := by
              rw [papOf_str, if_pos rfl, so]
              rfl
            rw [np]
            have ma : mulOk a (h : Int) = true := mul_sm (by omega) (by omega)
            have mb : mulOk b (k : Int) = true := mul_sm (by omega) (by omega)
            have i0 : L2.atI [D.int a, D.int b] 0 = some (.int a) := rfl
            have i1 : L2.atI [D.int a, D.int b] 1 = some (.int b) := rfl
            refine ⟨h1, mF_rt (s' := [some (.int (h : Int)), some (.int (k : Int)), some (.int d), some (.tup [.str wS, .tup [.int a, .int b]]), some (.str wS), some (.tup [.int a, .int b]), some (.int (a * h + b * k))]) ?_, gs⟩
            show m_gap_paper_error _ _ _ [some (.int (h : Int)), some (.int (k : Int)), some (.int d), some (.tup [.str wS, .tup [.int a, .int b]]), none, none, none] hp = _
            unfold m_gap_paper_error
            rw [seq_nx e6, seq_nx e5, dueP_sum]
            generalize h1a : a * (h : Int) = q1 at *
            generalize h2a : b * (k : Int) = q2 at *
            by_cases cd : q1 + q2 = d <;> simp -implicitDefEqProofs [S4_gap_paper_error, es, i0, i1, dMul_i ma, dMul_i mb, h1a, h2a, cd]
        · have cS' : ¬ w = Str.ofString "sum" := cS
          by_cases cO : w = wO
          · subst cO
            have nR : ¬ (wO : Str) = Str.ofString "rest" := by decide +kernel
            cases so : intOf 0 t with
            | none =>
              have sb : inW 0 MAXN t = false := by
                cases t with
                | int x =>
                  rw [inW_i]
                  unfold intOf at so
                  simp only at so
                  by_cases ci : inN 0 x = true
                  · rw [if_pos ci] at so; cases so
                  · simpa using ci
                | _ => rfl
              have w1 := w0 0 hp
              rw [sb] at w1
              have np : papOf (.tup [.str wO, t]) = none := by
                rw [papOf_str, if_neg cS, if_pos rfl, so]
                rfl
              rw [np]
              refine ⟨hp, mF_rt (s' := [some (.int (h : Int)), some (.int (k : Int)), some (.int d), some (.tup [.str wO, t]), some (.str wO), some t, none]) ?_, .refl _⟩
              show m_gap_paper_error _ _ _ [some (.int (h : Int)), some (.int (k : Int)), some (.int d), some (.tup [.str wO, t]), none, none, none] hp = _
              unfold m_gap_paper_error
              rw [seq_nx e6, seq_nx e5]
              simp -implicitDefEqProofs [S4_gap_paper_error, S3_gap_paper_error, S2_gap_paper_error, w1, cS', nR, dueP]
            | some x =>
              obtain ⟨rfl, ci⟩ : t = .int x ∧ inN 0 x = true := by
                cases t with
                | int y =>
                  unfold intOf at so
                  simp only at so
                  by_cases ci : inN 0 y = true
                  · rw [if_pos ci] at so
                    cases so
                    exact ⟨rfl, ci⟩
                  · rw [if_neg ci] at so; cases so
                | _ => cases so
              have w1 := w0 0 hp
              rw [inW_i, ci] at w1
              have np : papOf (.tup [.str wO, .int x]) = some (.over x) := by
                rw [papOf_str, if_neg cS, if_pos rfl, so]
                rfl
              rw [np]
              have ov := x_over_fault (h := h) (k := k) (d := d) hk hh k0 x hp
              refine ⟨hp, mF_rt (s' := [some (.int (h : Int)), some (.int (k : Int)), some (.int d), some (.tup [.str wO, .int x]), some (.str wO), some (.int x), none]) ?_, .refl _⟩
              show m_gap_paper_error _ _ _ [some (.int (h : Int)), some (.int (k : Int)), some (.int d), some (.tup [.str wO, .int x]), none, none, none] hp = _
              unfold m_gap_paper_error
              rw [seq_nx e6, seq_nx e5]
              generalize dueP h k d (Nat.gcd h k : Nat) (some (.over x)) = uu at *
              simp -implicitDefEqProofs [S4_gap_paper_error, S3_gap_paper_error, w1, cS', ov]
          · have cO' : ¬ w = Str.ofString "over" := cO
            by_cases cR : w = wR
            · subst cR
              cases so : intOf 1 t with
              | none =>
                have sb : inW 1 MAXN t = false := by
                  cases t with
                  | int x =>
                    rw [inW_i]
                    unfold intOf at so
                    simp only at so
                    by_cases ci : inN 1 x = true
                    · rw [if_pos ci] at so; cases so
                    · simpa using ci
                  | _ => rfl
                have w1 := w0 1 hp
                rw [sb] at w1
                have np : papOf (.tup [.str wR, t]) = none := by
                  rw [papOf_str, if_neg cS, if_neg cO, if_pos rfl, so]
                  rfl
                rw [np]
                refine ⟨hp, mF_rt (s' := [some (.int (h : Int)), some (.int (k : Int)), some (.int d), some (.tup [.str wR, t]), some (.str wR), some t, none]) ?_, .refl _⟩
                show m_gap_paper_error _ _ _ [some (.int (h : Int)), some (.int (k : Int)), some (.int d), some (.tup [.str wR, t]), none, none, none] hp = _
                unfold m_gap_paper_error
                rw [seq_nx e6, seq_nx e5]
                simp -implicitDefEqProofs [S4_gap_paper_error, S3_gap_paper_error, S2_gap_paper_error, w1, cS', cO', dueP]
              | some x =>
                obtain ⟨rfl, ci⟩ : t = .int x ∧ inN 1 x = true := by
                  cases t with
                  | int y =>
                    unfold intOf at so
                    simp only at so
                    by_cases ci : inN 1 y = true
                    · rw [if_pos ci] at so
                      cases so
                      exact ⟨rfl, ci⟩
                    · rw [if_neg ci] at so; cases so
                  | _ => cases so
                have w1 := w0 1 hp
                rw [inW_i, ci] at w1
                have x1 : 1 ≤ x := by
                  unfold inN at ci
                  simp only [Bool.and_eq_true, decide_eq_true_eq] at ci
                  exact ci.1
                have np : papOf (.tup [.str wR, .int x]) = some (.rest x) := by
                  rw [papOf_str, if_neg cS, if_neg cO, if_pos rfl, so]
                  rfl
                rw [np]
                have a1 := aMod_i (i := (h : Int)) (j := x) (h := hp) (by omega)
                have a2 := aMod_i (i := (k : Int)) (j := x) (h := hp) (by omega)
                have a3 := aMod_i (i := d) (j := x) (h := hp) (by omega)
                refine ⟨hp, mF_rt (s' := [some (.int (h : Int)), some (.int (k : Int)), some (.int d), some (.tup [.str wR, .int x]), some (.str wR), some (.int x), none]) ?_, .refl _⟩
                show m_gap_paper_error _ _ _ [some (.int (h : Int)), some (.int (k : Int)), some (.int d), some (.tup [.str wR, .int x]), none, none, none] hp = _
                unfold m_gap_paper_error
                rw [seq_nx e6, seq_nx e5, dueP_rest]
                generalize (h : Int).fmod x = q1 at *
                generalize (k : Int).fmod x = q2 at *
                generalize d.fmod x = q3 at *
                by_cases c1 : q1 = 0
                · by_cases c2 : q2 = 0
                  · by_cases c3 : q3 = 0 <;> simp -implicitDefEqProofs [S4_gap_paper_error, S3_gap_paper_error, S2_gap_paper_error, S1_gap_paper_error, w1, cS', cO', a1, a2, a3, c1, c2, c3]
                  · simp -implicitDefEqProofs [S4_gap_paper_error, S3_gap_paper_error, S2_gap_paper_error, S1_gap_paper_error, w1, cS', cO', a1, a2, a3, c1, c2]
                · simp -implicitDefEqProofs [S4_gap_paper_error, S3_gap_paper_error, S2_gap_paper_error, S1_gap_paper_error, w1, cS', cO', a1, a2, a3, c1]
            · have cR' : ¬ w = Str.ofString "rest" := cR
              have np : papOf (.tup [.str w, t]) = none := by
                rw [papOf_str, if_neg cS, if_neg cO, if_neg cR]
              rw [np]
              refine ⟨hp, mF_rt (s' := [some (.int (h : Int)), some (.int (k : Int)), some (.int d), some (.tup [.str w, t]), some (.str w), some t, none]) ?_, .refl _⟩
              show m_gap_paper_error _ _ _ [some (.int (h : Int)), some (.int (k : Int)), some (.int d), some (.tup [.str w, t]), none, none, none] hp = _
              unfold m_gap_paper_error
              rw [seq_nx e6, seq_nx e5]
              simp -implicitDefEqProofs [S4_gap_paper_error, S3_gap_paper_error, S2_gap_paper_error, cS', cO', cR', dueP]
    · have l3 : ¬ (((r.length : Int) + 1 + 1 + 1) = 2) := by omega
      have np : papOf (.tup (x :: t :: u :: r)) = none := by
        unfold papOf
        split
        · rename_i h
          simp at h
        · rfl
      rw [np]
      refine ⟨hp, mF_rt (s' := [some (.int (h : Int)), some (.int (k : Int)), some (.int d), some (.tup (x :: t :: u :: r)), none, none, none]) ?_, .refl _⟩
      simp -implicitDefEqProofs [m_gap_paper_error, S6_gap_paper_error, vIsi, kt, l3, dueP]
end K35

namespace K35
open PySem Vq
/-! ### the law's own judging, of any value -/
theorem at0 (x y : D) : L2.atI [x, y] 0 = some x := rfl
theorem at1 (x y : D) : L2.atI [x, y] 1 = some y := rfl
theorem nOR : ¬ (Str.ofString "over" : Str) = Str.ofString "rest" := by decide +kernel
theorem nRS : ¬ (Str.ofString "rest" : Str) = Str.ofString "sum" := by decide +kernel
theorem intOf_some {lo : Int} {t : D} {x : Int} (so : intOf lo t = some x) : t = .int x ∧ inN lo x = true := by
  cases t with
  | int y =>
    unfold intOf at so
    simp only at so
    by_cases ci : inN lo y = true
    · rw [if_pos ci] at so
      cases so
      exact ⟨rfl, ci⟩
    · rw [if_neg ci] at so; cases so
  | _ => cases so
theorem intOf_is (lo : Int) (t : D) : (intOf lo t).isSome = inW lo MAXN t := by
  cases t with
  | int y =>
    rw [inW_i]
    show (if inN lo y = true then some y else none).isSome = _
    cases inN lo y <;> rfl
  | _ => rfl
theorem pap_is (w : Str) (t : D) : (papOf (.tup [.str w, t])).isSome = if w = wS then sumB t else if w = wO then inW 0 MAXN t else if w = wR then inW 1 MAXN t else false := by
  rw [papOf_str]
  by_cases cS : w = wS
  · rw [if_pos cS, if_pos cS, Option.isSome_map]
    rfl
  · rw [if_neg cS, if_neg cS]
    by_cases cO : w = wO
    · rw [if_pos cO, if_pos cO, Option.isSome_map, intOf_is]
    · rw [if_neg cO, if_neg cO]
      by_cases cR : w = wR
      · rw [if_pos cR, if_pos cR, Option.isSome_map, intOf_is]
      · rw [if_neg cR, if_neg cR]
        rfl
inductive Cl (v : D) : Prop
  | no (h : isT v = false) (n : papOf v = none)
  | len (l : List D) (e : v = .tup l) (h : ¬ (l.length : Int) = 2) (n : papOf v = none)
  | key (x t : D) (e : v = .tup [x, t]) (h : isS x = false) (n : papOf v = none)
  | word (w : Str) (t : D) (e : v = .tup [.str w, t]) (h : notF t = true)
theorem classify {v : D} (hv : okF v = true) : Cl v := by
  cases hT : isT v with
  | false => exact .no hT (by cases v <;> first | rfl | cases hT)
  | true =>
    obtain ⟨l, rfl⟩ : ∃ l, v = .tup l := by cases v <;> first | exact ⟨_, rfl⟩ | (cases hT; done) | (cases hv; done)
    rcases l with _ | ⟨x, _ | ⟨t, _ | ⟨u, r⟩⟩⟩
    · exact .len _ rfl (by decide) rfl
    · exact .len _ rfl (by simp) (by cases x <;> rfl)
    · cases hx : isS x with
      | false => exact .key x t rfl hx (by cases x <;> first | rfl | cases hx)
      | true =>
        obtain ⟨w, rfl⟩ : ∃ w, x = .str w := by cases x <;> first | exact ⟨_, rfl⟩ | (cases hx; done)
        exact .word w t rfl (by cases t <;> first | rfl | cases hv)
    · refine .len _ rfl (by simp only [List.length_cons]; omega) ?_
      unfold papOf
      split
      · rename_i h
        simp at h
      · rfl
theorem C1_form {l : List D} (hz : l.length ≤ 1000) (v : D) (h : VH) : C1_law_is_of_form F_law_is_within [some v, some (.tup l), none] h = .ok (.ref h.length, h ++ [.lst ((l.map (inW 0 MAXN)).map .bl)]) := by
  unfold C1_law_is_of_form
  rw [lc_tup (h1 := h) (ys := l) (c := id) (fun _ => true) (fun y => .bl (inW 0 MAXN y)) (by simp) (by omega) (by
    intro y hy acc
    have c := x_law_within y 0 (h ++ [.lst acc])
    generalize inW 0 MAXN y = u at *
    refine ⟨_, rfl, rfl, fun _ => ?_⟩
    simp -implicitDefEqProofs [E1_law_is_of_form, vwipe, c])]
  simp only [List.filter_eq_self.mpr (fun _ _ => rfl), List.map_map]
  rfl
abbrev MF {α : Type} (f : Fn → α) : α := f F_law_is_within
theorem form_sum {t : D} (ht : notF t = true) (hz : ∀ l, t = .tup l → l.length ≤ 1000) (h : VH) : ∃ s' h', MF S2_law_is_of_form [some (.tup [.str wS, t]), none, none] h = .ok (.rt (.bl (sumB t)), s', h') ∧ Grow h h' := by
  have kt := kit_t t
  have z0 : L2.atI [D.str wS, t] 0 = some (.str wS) := rfl
  have z1 : L2.atI [D.str wS, t] 1 = some t := rfl
  cases hT : isT t with
  | false =>
    rw [hT] at kt
    have sb : sumB t = false := by cases t <;> first | rfl | cases hT
    rw [sb]
    refine ⟨[some (.tup [.str wS, t]), some t, none], h, ?_, .refl h⟩
    simp -implicitDefEqProofs [MF, S2_law_is_of_form, vIsi, kt, z0, z1]
  | true =>
    rw [hT] at kt
    obtain ⟨l, rfl⟩ : ∃ l, t = .tup l := by cases t <;> first | exact ⟨_, rfl⟩ | (cases hT; done) | (cases ht; done)
    rw [sumB_tup]
    unfold all2
    by_cases hl : l.length = 2
    · have hl' : (l.length : Int) = 2 := by omega
      have c1 := C1_form (hz l rfl) (.tup [.str wS, .tup l]) h
      have ba := bAll_r (h := h ++ [.lst ((l.map (inW 0 MAXN)).map .bl)]) (n := h.length) (l := l.map (inW 0 MAXN)) (lk_at h _ [])
      rw [List.all_map, show l.all (id ∘ inW 0 MAXN) = l.all (inW 0 MAXN) from rfl] at ba
      have e2 : (l.length == 2) = true := by rw [hl]; rfl
      rw [e2, Bool.true_and]
      refine ⟨[some (.tup [.str wS, .tup l]), some (.tup l), none], h ++ [.lst ((l.map (inW 0 MAXN)).map .bl)], ?_, .new _ _⟩
      generalize (l.map (inW 0 MAXN)).map D.bl = u at *
      simp -implicitDefEqProofs [MF, S2_law_is_of_form, vIsi, kt, z0, z1, hl', c1, ba]
    · have hl' : ¬ (l.length : Int) = 2 := by omega
      have e2 : (l.length == 2) = false := by simp [hl]
      rw [e2, Bool.false_and]
      refine ⟨[some (.tup [.str wS, .tup l]), some (.tup l), none], h, ?_, .refl h⟩
      simp -implicitDefEqProofs [MF, S2_law_is_of_form, vIsi, kt, z0, z1, hl']
def Szs (v : D) : Prop := ∀ l, v = .tup l → l.length ≤ 1000 ∧ ∀ t ∈ l, ∀ l2, t = .tup l2 → l2.length ≤ 1000
theorem x_of_form {v : D} (hv : okF v = true) (hz : Szs v) (h : VH) : ∃ h', F_law_is_of_form [v] h = .ok (.bl (papOf v).isSome, h') ∧ Grow h h' := by
  have kt := kit_t v
  rcases classify hv with ⟨hT, n⟩ | ⟨l, rfl, hl, n⟩ | ⟨x, t, rfl, hx, n⟩ | ⟨w, t, rfl, ht⟩
  · rw [hT] at kt
    rw [n]
    refine ⟨h, mF_rt (s' := [some v, none, none]) ?_, .refl _⟩
    simp -implicitDefEqProofs [m_law_is_of_form, S3_law_is_of_form, vIsi, kt]
  · simp only [isT] at kt
    rw [n]
    refine ⟨h, mF_rt (s' := [some (.tup l), none, none]) ?_, .refl _⟩
    simp -implicitDefEqProofs [m_law_is_of_form, S3_law_is_of_form, vIsi, kt, hl]
  · simp only [isT] at kt
    have ks := kit_s x
    rw [hx] at ks
    have z0 : L2.atI [x, t] 0 = some x := rfl
    rw [n]
    refine ⟨h, mF_rt (s' := [some (.tup [x, t]), none, none]) ?_, .refl _⟩
    simp -implicitDefEqProofs [m_law_is_of_form, S3_law_is_of_form, vIsi, kt, ks, z0]
  · simp only [isT] at kt
    have ks := kit_s (.str w)
    simp only [isS] at ks
    have z0 := at0
    have z1 := at1
    have nOR := nOR
    have e3 : MF S3_law_is_of_form [some (.tup [.str w, t]), none, none] h = .ok (.nx, [some (.tup [.str w, t]), none, none], h) := by
      simp -implicitDefEqProofs [MF, S3_law_is_of_form, vIsi, kt, ks, z0]
    rw [pap_is]
    by_cases cS : w = wS
    · subst cS
      rw [if_pos rfl]
      obtain ⟨s', h', e, g⟩ := form_sum ht (fun l2 e => (hz _ rfl).2 t (by simp) l2 e) h
      refine ⟨h', mF_rt (s' := s') ?_, g⟩
      show MF m_law_is_of_form [some (.tup [.str wS, t]), none, none] h = _
      simp only [MF] at *
      unfold m_law_is_of_form
      rw [seq_nx e3, seq_rt e]
    · rw [if_neg cS]
      have cS' : ¬ w = Str.ofString "sum" := cS
      have e2 : MF S2_law_is_of_form [some (.tup [.str w, t]), none, none] h = .ok (.nx, [some (.tup [.str w, t]), none, none], h) := by
        simp -implicitDefEqProofs [MF, S2_law_is_of_form, z0, cS']
      have w0 := x_law_within t 0 h
      have w1 := x_law_within t 1 h
      by_cases cR : w = wR
      · have nO : ¬ w = wO := by rw [cR]; decide +kernel
        rw [if_neg nO, if_pos cR]
        have cR' : w = Str.ofString "rest" := cR
        refine ⟨h, mF_rt (s' := [some (.tup [.str w, t]), none, none]) ?_, .refl _⟩
        show MF m_law_is_of_form [some (.tup [.str w, t]), none, none] h = _
        simp only [MF] at *
        unfold m_law_is_of_form
        rw [seq_nx e3, seq_nx e2]
        generalize inW 1 MAXN t = u at *
        simp -implicitDefEqProofs [S1_law_is_of_form, z0, z1, cR', w1]
      · have cR' : ¬ w = Str.ofString "rest" := cR
        refine ⟨h, mF_rt (s' := [some (.tup [.str w, t]), none, none]) ?_, .refl _⟩
        show MF m_law_is_of_form [some (.tup [.str w, t]), none, none] h = _
        simp only [MF] at *
        unfold m_law_is_of_form
        rw [seq_nx e3, seq_nx e2]
        by_cases cO : w = wO
        · rw [if_pos cO]
          have cO' : w = Str.ofString "over" := cO
          generalize inW 0 MAXN t = u at *
          simp -implicitDefEqProofs [S1_law_is_of_form, z0, z1, nOR, cO', w0]
        · rw [if_neg cO, if_neg cR]
          have cO' : ¬ w = Str.ofString "over" := cO
          simp -implicitDefEqProofs [S1_law_is_of_form, z0, z1, cR', cO']
abbrev DF {α : Type} (f : Fn → α) : α := f F_law_is_of_form
theorem x_due {h k : Nat} {d : Int} (hk : k ≤ 1000) (hh : h ≤ 1000) (k0 : 0 < k) {g : Int} (hg0 : 0 ≤ g) (hg1 : g ≤ 1000) {v : D} (hv : okF v = true) (hz : Szs v) (hp : VH) :
    ∃ h', F_law_due [.tup [.int h, .int k, .int d, .int g], v] hp = .ok (dueP h k d g (papOf v), h') ∧ Grow hp h' := by
  obtain ⟨h1, e1, g1⟩ := x_of_form hv hz hp
  have e7 : DF S7_law_due [some (.tup [.int h, .int k, .int d, .int g]), some v, none, none, none, none, none, none] hp = .ok (.nx, [some (.tup [.int h, .int k, .int d, .int g]), some v, some (.int h), some (.int k), some (.int d), some (.int g), none, none], hp) := by
    simp -implicitDefEqProofs [DF, S7_law_due]
  cases hp0 : papOf v with
  | none =>
    rw [hp0] at e1
    refine ⟨h1, mF_rt (s' := [some (.tup [.int h, .int k, .int d, .int g]), some v, some (.int h), some (.int k), some (.int d), some (.int g), none, none]) ?_, g1⟩
    show m_law_due F_law_is_of_form [some (.tup [.int h, .int k, .int d, .int g]), some v, none, none, none, none, none, none] hp = _
    simp only [DF] at e7
    unfold m_law_due
    rw [seq_nx e7]
    simp -implicitDefEqProofs [S6_law_due, e1, dueP]
  | some p =>
    rw [hp0] at e1
    have e6 : DF S6_law_due [some (.tup [.int h, .int k, .int d, .int g]), some v, some (.int h), some (.int k), some (.int d), some (.int g), none, none] hp = .ok (.nx, [some (.tup [.int h, .int k, .int d, .int g]), some v, some (.int h), some (.int k), some (.int d), some (.int g), none, none], h1) := by
      simp -implicitDefEqProofs [DF, S6_law_due, e1]
    rcases classify hv with ⟨hT, n⟩ | ⟨l, rfl, hl, n⟩ | ⟨x, t, rfl, hx, n⟩ | ⟨w, t, rfl, ht⟩
    · rw [n] at hp0; cases hp0
    · rw [n] at hp0; cases hp0
    · rw [n] at hp0; cases hp0
    · have z0 := at0
      have z1 := at1
      have nRS := nRS
      rw [papOf_str] at hp0
      simp only [DF] at e7 e6
      by_cases cS : w = wS
      · rw [if_pos cS] at hp0
        obtain ⟨ab, so, rfl⟩ := Option.map_eq_some_iff.mp hp0
        obtain ⟨a, b, rfl, rfl⟩ := sumOf_some so
        have cS' : w = Str.ofString "sum" := cS
        have ma : mulOk a (h : Int) = true := mul_sm (by omega) (by omega)
        have mb : mulOk b (k : Int) = true := mul_sm (by omega) (by omega)
        have i0 : L2.atI [D.int a, D.int b] 0 = some (.int a) := rfl
        have i1 : L2.atI [D.int a, D.int b] 1 = some (.int b) := rfl
        refine ⟨h1, mF_rt (s' := [some (.tup [.int h, .int k, .int d, .int g]), some (.tup [.str w, .tup [.int a, .int b]]), some (.int h), some (.int k), some (.int d), some (.int g), some (.int (a * h + b * k)), none]) ?_, g1⟩
        show m_law_due F_law_is_of_form [some (.tup [.int h, .int k, .int d, .int g]), some (.tup [.str w, .tup [.int a, .int b]]), none, none, none, none, none, none] hp = _
        unfold m_law_due
        rw [seq_nx e7, seq_nx e6, dueP_sum]
        generalize h1a : a * (h : Int) = q1 at *
        generalize h2a : b * (k : Int) = q2 at *
        by_cases cd : q1 + q2 = d <;> simp -implicitDefEqProofs [S5_law_due, z0, z1, cS', i0, i1, dMul_i ma, dMul_i mb, h1a, h2a, cd]
      · rw [if_neg cS] at hp0
        have cS' : ¬ w = Str.ofString "sum" := cS
        by_cases cO : w = wO
        · rw [if_pos cO] at hp0
          obtain ⟨x, so, rfl⟩ := Option.map_eq_some_iff.mp hp0
          obtain ⟨rfl, ci⟩ := intOf_some so
          have nR : ¬ w = Str.ofString "rest" := by rw [cO]; decide +kernel
          have mg : mulOk x g = true := mul_sm (by omega) (by omega)
          have mh : mulOk x (h : Int) = true := mul_sm (by omega) (by omega)
          have am := aMod_i (i := x * h - d) (j := (k : Int)) (h := h1) (by omega)
          have fn := Int.fmod_nonneg_of_pos (x * h - d) (show (0 : Int) < (k : Int) by omega)
          refine ⟨h1, mF_rt (s' := [some (.tup [.int h, .int k, .int d, .int g]), some (.tup [.str w, .int x]), some (.int h), some (.int k), some (.int d), some (.int g), none, some (.int x)]) ?_, g1⟩
          show m_law_due F_law_is_of_form [some (.tup [.int h, .int k, .int d, .int g]), some (.tup [.str w, .int x]), none, none, none, none, none, none] hp = _
          unfold m_law_due
          rw [seq_nx e7, seq_nx e6, dueP_over]
          generalize hq1 : x * g = q at *
          generalize hq : x * (h : Int) = r at *
          generalize (r - d).fmod k = u at *
          by_cases c1 : (k : Int) ≤ q
          · simp -implicitDefEqProofs [S5_law_due, S4_law_due, S3_law_due, S2_law_due, z0, z1, cS', nR, dMul_i mg, hq1, c1]
          · by_cases c2 : u = 0
            · have c2' : ¬ (0 < u) := by omega
              by_cases c3 : r ≤ d <;> simp -implicitDefEqProofs [S5_law_due, S4_law_due, S3_law_due, S2_law_due, S1_law_due, z0, z1, cS', nR, dMul_i mg, dMul_i mh, hq1, hq, am, c1, c2, c3]
            · have c2' : 0 < u := by omega
              simp -implicitDefEqProofs [S5_law_due, S4_law_due, S3_law_due, S2_law_due, S1_law_due, z0, z1, cS', nR, dMul_i mg, dMul_i mh, hq1, hq, am, c1, c2, c2']
        · rw [if_neg cO] at hp0
          by_cases cR : w = wR
          · rw [if_pos cR] at hp0
            obtain ⟨x, so, rfl⟩ := Option.map_eq_some_iff.mp hp0
            obtain ⟨rfl, ci⟩ := intOf_some so
            have cR' : w = Str.ofString "rest" := cR
            have x1 : 1 ≤ x := by
              unfold inN at ci
              simp only [Bool.and_eq_true, decide_eq_true_eq] at ci
              exact ci.1
            have a1 := aMod_i (i := (h : Int)) (j := x) (h := h1) (by omega)
            have a2 := aMod_i (i := (k : Int)) (j := x) (h := h1) (by omega)
            have a3 := aMod_i (i := d) (j := x) (h := h1) (by omega)
            have f1 := Int.fmod_nonneg_of_pos (h : Int) (show (0 : Int) < x by omega)
            have f2 := Int.fmod_nonneg_of_pos (k : Int) (show (0 : Int) < x by omega)
            refine ⟨h1, mF_rt (s' := [some (.tup [.int h, .int k, .int d, .int g]), some (.tup [.str w, .int x]), some (.int h), some (.int k), some (.int d), some (.int g), none, some (.int x)]) ?_, g1⟩
            show m_law_due F_law_is_of_form [some (.tup [.int h, .int k, .int d, .int g]), some (.tup [.str w, .int x]), none, none, none, none, none, none] hp = _
            unfold m_law_due
            rw [seq_nx e7, seq_nx e6, dueP_rest]
            generalize (h : Int).fmod x = q1 at *
            generalize (k : Int).fmod x = q2 at *
            generalize d.fmod x = q3 at *
            by_cases c1 : q1 = 0
            · by_cases c2 : q2 = 0
              · by_cases c3 : q3 = 0 <;> simp -implicitDefEqProofs [S5_law_due, S4_law_due, S3_law_due, z0, z1, nRS, cR', a1, a2, a3, c1, c2, c3]
              · have c2' : 0 < q2 := by omega
                simp -implicitDefEqProofs [S5_law_due, S4_law_due, S3_law_due, z0, z1, nRS, cR', a1, a2, a3, c1, c2, c2']
            · have c1' : 0 < q1 := by omega
              simp -implicitDefEqProofs [S5_law_due, S4_law_due, S3_law_due, z0, z1, nRS, cR', a1, a2, a3, c1, c1']
          · rw [if_neg cR] at hp0; cases hp0
end K35

namespace K35
open PySem Vq
/-! ### plain number facts -/
theorem bezout (a b : Nat) : ∃ u v : Int, u * a + v * b = (Nat.gcd a b : Nat) := by
  induction a, b using Nat.gcd.induction with
  | H0 n => exact ⟨0, 1, by simp⟩
  | H1 m n hm ih =>
    obtain ⟨u, v, e⟩ := ih
    rw [← Nat.gcd_rec] at e
    refine ⟨v - u * ((n / m : Nat) : Int), u, ?_⟩
    rw [← e]
    have q : (n : Int) = (m : Int) * ((n / m : Nat) : Int) + ((n % m : Nat) : Int) := by
      have := Nat.div_add_mod n m
      omega
    have q2 : u * (n : Int) = u * ((m : Int) * ((n / m : Nat) : Int)) + u * ((n % m : Nat) : Int) := by rw [← Int.mul_add, ← q]
    rw [q2, Int.sub_mul, Int.mul_assoc u, Int.mul_comm ((n / m : Nat) : Int)]
    omega
theorem fmod_dvd {a : Int} {k : Nat} : a.fmod (k : Int) = 0 ↔ (k : Int) ∣ a := by
  rw [Int.fmod_eq_emod_of_nonneg _ (by omega)]
  exact (Int.dvd_iff_emod_eq_zero ..).symm
theorem solve {h k : Nat} (k0 : 0 < k) {d : Int} (hd : ((Nat.gcd h k : Nat) : Int) ∣ d) : ∃ x : Nat, x * Nat.gcd h k < k ∧ (k : Int) ∣ (x : Int) * h - d := by
  obtain ⟨g, hg⟩ : ∃ g, g = Nat.gcd h k := ⟨_, rfl⟩
  have g0 : 0 < g := by rw [hg]; exact Nat.gcd_pos_of_pos_right _ k0
  obtain ⟨u, v, e⟩ := bezout h k
  rw [← hg] at hd e ⊢
  obtain ⟨h', eh⟩ : g ∣ h := by rw [hg]; exact Nat.gcd_dvd_left ..
  obtain ⟨m, ek⟩ : g ∣ k := by rw [hg]; exact Nat.gcd_dvd_right ..
  obtain ⟨e', ed⟩ := hd
  have m0 : 0 < m := by
    rcases Nat.eq_zero_or_pos m with z | z
    · rw [z] at ek; omega
    · exact z
  obtain ⟨x0, hx0⟩ : ∃ x0, x0 = u * e' := ⟨_, rfl⟩
  have n0 : 0 ≤ x0 % (m : Int) := Int.emod_nonneg _ (by omega)
  have n1 : x0 % (m : Int) < m := Int.emod_lt_of_pos _ (by omega)
  refine ⟨(x0 % (m : Int)).toNat, ?_, ?_⟩
  · rw [ek, Nat.mul_comm g m]
    exact Nat.mul_lt_mul_of_pos_right (by omega) g0
  · rw [Int.toNat_of_nonneg n0]
    have q : x0 % (m : Int) = x0 - (m : Int) * (x0 / (m : Int)) := Int.emod_def ..
    refine ⟨-(v * e') - (x0 / (m : Int)) * h', ?_⟩
    rw [q]
    have t1 : x0 * (h : Int) = d - (k : Int) * (v * e') := by
      have : u * (h : Int) = (g : Int) - v * (k : Int) := by omega
      rw [hx0, Int.mul_right_comm, this, Int.sub_mul, ed, Int.mul_comm v (k : Int), Int.mul_assoc (k : Int)]
    have t2 : (m : Int) * (x0 / (m : Int)) * (h : Int) = (k : Int) * ((x0 / (m : Int)) * (h' : Int)) := by
      have e1 : (h : Int) = (g : Int) * (h' : Int) := by rw [eh]; simp
      have e2 : (k : Int) = (g : Int) * (m : Int) := by rw [ek]; simp
      rw [e1, e2]
      generalize x0 / (m : Int) = w
      rw [Int.mul_assoc, Int.mul_comm (g : Int) (m : Int), Int.mul_assoc (m : Int), Int.mul_left_comm w]
    rw [Int.sub_mul, t1, t2, Int.mul_sub, Int.mul_neg]
    omega
theorem least {P : Nat → Prop} (dec : ∀ n, P n ∨ ¬ P n) : ∀ n, P n → ∃ X, X ≤ n ∧ P X ∧ ∀ x < X, ¬ P x := by
  intro n
  induction n using Nat.strongRecOn with
  | _ n ih =>
    intro hn
    by_cases h : ∃ m, m < n ∧ P m
    · obtain ⟨m, hm, pm⟩ := h
      obtain ⟨X, z, r⟩ := ih m hm pm
      exact ⟨X, by omega, r⟩
    · exact ⟨n, Nat.le_refl _, hn, fun x hx px => h ⟨x, hx, px⟩⟩
def dv (h k : Nat) : List Nat := ((List.range (min h k)).filter fun j => h % (1 + j) == 0 && k % (1 + j) == 0).map fun j => 1 + j
theorem dv_mem {h k g : Nat} (m : g ∈ dv h k) : 1 ≤ g ∧ g ∣ h ∧ g ∣ k := by
  unfold dv at m
  obtain ⟨j, hj, rfl⟩ := List.mem_map.mp m
  have := (List.mem_filter.mp hj).2
  simp only [Bool.and_eq_true, beq_iff_eq] at this
  exact ⟨by omega, Nat.dvd_of_mod_eq_zero this.1, Nat.dvd_of_mod_eq_zero this.2⟩
theorem dv_split {h k : Nat} (h0 : 0 < h) (k0 : 0 < k) : ∃ l, dv h k = l ++ [Nat.gcd h k] := by
  obtain ⟨g, hg⟩ : ∃ g, g = Nat.gcd h k := ⟨_, rfl⟩
  have g0 : 0 < g := by rw [hg]; exact Nat.gcd_pos_of_pos_right _ k0
  have g1 : g ≤ h := by rw [hg]; exact Nat.gcd_le_left _ h0
  have g2 : g ≤ k := by rw [hg]; exact Nat.gcd_le_right _ k0
  have d1 : g ∣ h := by rw [hg]; exact Nat.gcd_dvd_left ..
  have d2 : g ∣ k := by rw [hg]; exact Nat.gcd_dvd_right ..
  obtain ⟨m, hm⟩ : ∃ m, min h k = g - 1 + (1 + m) := ⟨min h k - g, by omega⟩
  rw [← hg]
  unfold dv
  rw [hm, List.range_add, List.range_add, List.map_append, List.filter_append, List.filter_append]
  have e1 : (((List.range 1).map fun x => g - 1 + x).filter fun j => h % (1 + j) == 0 && k % (1 + j) == 0) = [g - 1] := by
    have p : (h % (1 + (g - 1)) == 0 && k % (1 + (g - 1)) == 0) = true := by
      rw [show 1 + (g - 1) = g by omega, Nat.mod_eq_zero_of_dvd d1, Nat.mod_eq_zero_of_dvd d2]
      rfl
    show ([g - 1 + 0].filter fun j => h % (1 + j) == 0 && k % (1 + j) == 0) = [g - 1]
    rw [Nat.add_zero, List.filter_cons_of_pos (by exact p), List.filter_nil]
  have e2 : ((((List.range m).map fun x => 1 + x).map fun x => g - 1 + x).filter fun j => h % (1 + j) == 0 && k % (1 + j) == 0) = [] := by
    rw [List.filter_eq_nil_iff]
    intro j hj
    obtain ⟨i, hi, rfl⟩ := List.mem_map.mp hj
    obtain ⟨i, _, rfl⟩ := List.mem_map.mp hi
    intro q
    simp only [Bool.and_eq_true, beq_iff_eq] at q
    have a := Nat.dvd_gcd (Nat.dvd_of_mod_eq_zero q.1) (Nat.dvd_of_mod_eq_zero q.2)
    rw [← hg] at a
    have := Nat.le_of_dvd g0 a
    omega
  rw [e1, e2, List.append_nil, List.map_append]
  refine ⟨_, congrArg _ ?_⟩
  show [1 + (g - 1)] = [g]
  rw [show 1 + (g - 1) = g by omega]
end K35

namespace K35
open PySem Vq
theorem bAny_r {h : VH} {n : Nat} {l : List Bool} (e : lk h n = some (l.map .bl)) : bAny [.ref n] h = some (.bl (l.any id), h) := by
  unfold bAny pureB argBools
  simp [e]
def intsN (l : List Nat) : List D := l.map fun (g : Nat) => D.int (g : Int)
theorem x_divisors {h k : Nat} (hh : h ≤ 1000) (hk : k ≤ 1000) (hp : VH) : F_law_divisors [.int (h : Int), .int (k : Int)] hp = .ok (.ref hp.length, hp ++ [.lst (intsN (dv h k))]) := by
  have mn := mn_is (h : Int) (k : Int) hp
  rw [show min (h : Int) (k : Int) = ((min h k : Nat) : Int) by omega] at mn
  have c1 : C1_law_divisors [some (.int (h : Int)), some (.int (k : Int)), none] hp = .ok (.ref hp.length, hp ++ [.lst (intsN (dv h k))]) := by
    unfold C1_law_divisors
    rw [lc_rng2 (h1 := hp) (i := 1) (j := ((min h k : Nat) : Int) + 1) (fun j => h % (1 + j) == 0 && k % (1 + j) == 0) (fun j => .int ((1 : Int) + (j : Int))) (by
      generalize ((min h k : Nat) : Int) = m at *
      simp [mn]) (by decide) (by decide) (by omega) (by omega) (by
      intro j hj acc
      have a1 := aMod_i (i := (h : Int)) (j := (1 : Int) + (j : Int)) (h := hp ++ [.lst acc]) (by omega)
      have a2 := aMod_i (i := (k : Int)) (j := (1 : Int) + (j : Int)) (h := hp ++ [.lst acc]) (by omega)
      have cj : (1 : Int) + (j : Int) = ((1 + j : Nat) : Int) := by omega
      have f1 : (h : Int).fmod ((1 : Int) + (j : Int)) = ((h % (1 + j) : Nat) : Int) := by rw [cj, fmod_nat]
      have f2 : (k : Int).fmod ((1 : Int) + (j : Int)) = ((k % (1 + j) : Nat) : Int) := by rw [cj, fmod_nat]
      rw [f1] at a1
      rw [f2] at a2
      clear f1 f2
      refine ⟨_, rfl, ?_, fun _ => ?_⟩
      · generalize h % (1 + j) = q1 at *
        generalize k % (1 + j) = q2 at *
        have z : ∀ q : Nat, ((q : Int) = 0) ↔ q = 0 := fun q => by omega
        by_cases c1 : q1 = 0
        · by_cases c2 : q2 = 0 <;> simp -implicitDefEqProofs [T1_law_divisors, vwipe, a1, a2, c1, c2]
        · simp -implicitDefEqProofs [T1_law_divisors, vwipe, a1, a2, c1]
      · simp -implicitDefEqProofs [E1_law_divisors, vwipe])]
    rw [show (((min h k : Nat) : Int) + 1 - 1).toNat = min h k by omega]
    unfold intsN dv
    rw [List.map_map]
    have fe : (fun (j : Nat) => D.int ((1 : Int) + (j : Int))) = ((fun (g : Nat) => D.int (g : Int)) ∘ fun j => 1 + j) := by
      funext j
      show D.int ((1 : Int) + (j : Int)) = D.int ((1 + j : Nat) : Int)
      congr 1
    rw [fe]
  refine mF_rt (s' := [some (.int (h : Int)), some (.int (k : Int)), none]) ?_
  generalize intsN (dv h k) = u at *
  simp -implicitDefEqProofs [m_law_divisors, c1]
def hasSum (h k : Nat) (d : Int) : Bool := (List.range ((min (d.fdiv h) k + 1).toNat)).any fun (a : Nat) => decide ((d - (a : Int) * h).fmod k = 0)
def hasRest (h k : Nat) (d : Int) : Bool := (dv h k).any fun (g : Nat) => decide (0 < d.fmod (g : Int))
def sortW (h k : Nat) (d : Int) : Str := if hasSum h k d then wS else if hasRest h k d then wR else wO
theorem s_own_sort {h k : Nat} (h0 : 0 < h) (k0 : 0 < k) (hh : h ≤ 1000) (hk : k ≤ 1000) {d : Int} (d0 : 0 ≤ d) (hp : VH) : ∃ h', F_law_own_sort [.int (h : Int), .int (k : Int), .int d] hp = .ok (.str (sortW h k d), h') ∧ Grow hp h' := by
  have dh : divOk (h : Int) = true := divOk_small (by omega) (by omega)
  have fd := aFdv_i (i := d) (j := (h : Int)) (h := hp) dh
  have q0 : 0 ≤ d.fdiv (h : Int) := by
    rw [Int.fdiv_eq_ediv_of_nonneg _ (by omega)]
    exact Int.ediv_nonneg d0 (by omega)
  have mn := mn_is (d.fdiv (h : Int)) (k : Int) hp
  have c2 : C2_law_own_sort F_law_divisors [some (.int (h : Int)), some (.int (k : Int)), some (.int d), none, none] hp = .ok (.ref hp.length, hp ++ [.lst (((List.range ((min (d.fdiv h) k + 1).toNat)).map fun (a : Nat) => decide ((d - (a : Int) * h).fmod k = 0)).map .bl)]) := by
    unfold C2_law_own_sort
    rw [lc_rng1 (h1 := hp) (n := min (d.fdiv h) k + 1) (fun a => .bl (decide ((d - (a : Int) * h).fmod k = 0))) (by
      generalize d.fdiv (h : Int) = q at *
      generalize min q (k : Int) = m at *
      simp [fd, mn]) (by omega) (by omega) (by
      intro a ha acc
      have mo : mulOk (a : Int) (h : Int) = true := mul_sm (by omega) (by omega)
      have am := aMod_i (i := d - (a : Int) * h) (j := (k : Int)) (h := hp ++ [.lst acc]) (by omega)
      refine ⟨_, rfl, ?_⟩
      generalize hr : (a : Int) * (h : Int) = r at *
      generalize (d - r).fmod (k : Int) = u at *
      simp -implicitDefEqProofs [E2_law_own_sort, vwipe, dMul_i mo, hr, am])]
    rw [List.map_map]
    rfl
  have b2 := bAny_r (h := hp ++ [.lst (((List.range ((min (d.fdiv h) k + 1).toNat)).map fun (a : Nat) => decide ((d - (a : Int) * h).fmod k = 0)).map .bl)]) (n := hp.length) (l := (List.range ((min (d.fdiv h) k + 1).toNat)).map fun (a : Nat) => decide ((d - (a : Int) * h).fmod k = 0)) (lk_at hp _ [])
  rw [List.any_map] at b2
  have eA : (List.range ((min (d.fdiv h) k + 1).toNat)).any (id ∘ fun (a : Nat) => decide ((d - (a : Int) * h).fmod k = 0)) = hasSum h k d := rfl
  rw [eA] at b2
  obtain ⟨h1, eh1⟩ : ∃ h1, h1 = hp ++ [.lst (((List.range ((min (d.fdiv h) k + 1).toNat)).map fun (a : Nat) => decide ((d - (a : Int) * h).fmod k = 0)).map .bl)] := ⟨_, rfl⟩
  have g1 : Grow hp h1 := by rw [eh1]; exact .new _ _
  rw [← eh1] at c2 b2
  unfold sortW
  cases hA : hasSum h k d with
  | true =>
    rw [hA] at b2
    refine ⟨h1, mF_rt (s' := [some (.int (h : Int)), some (.int (k : Int)), some (.int d), none, none]) ?_, g1⟩
    simp -implicitDefEqProofs [m_law_own_sort, S2_law_own_sort, c2, b2]
  | false =>
    rw [hA] at b2
    have xd := x_divisors (h := h) (k := k) hh hk h1
    obtain ⟨h2, eh2⟩ : ∃ h2, h2 = h1 ++ [.lst (intsN (dv h k))] := ⟨_, rfl⟩
    rw [← eh2] at xd
    have l2 : lk h2 h1.length = some (intsN (dv h k)) := by rw [eh2]; exact lk_at _ _ []
    have c1 : C1_law_own_sort F_law_divisors [some (.int (h : Int)), some (.int (k : Int)), some (.int d), none, none] h1 = .ok (.ref h2.length, h2 ++ [.lst (((dv h k).map fun (g : Nat) => decide (0 < d.fmod (g : Int))).map .bl)]) := by
      unfold C1_law_own_sort
      rw [lc_lst (h1 := h2) (n := h1.length) (ys := dv h k) (c := fun (g : Nat) => D.int (g : Int)) (fun _ => true) (fun (g : Nat) => .bl (decide (0 < d.fmod (g : Int)))) (by simp [xd]) l2 (by
        have : (dv h k).length ≤ min h k := by
          unfold dv
          rw [List.length_map]
          refine Nat.le_trans (List.length_filter_le _ _) ?_
          rw [List.length_range]
          exact Nat.le_refl _
        omega) (by
        intro g hg acc
        have gp := (dv_mem hg).1
        have am := aMod_i (i := d) (j := (g : Int)) (h := h2 ++ [.lst acc]) (by omega)
        refine ⟨_, rfl, rfl, fun _ => ?_⟩
        generalize d.fmod (g : Int) = u at *
        simp -implicitDefEqProofs [E1_law_own_sort, vwipe, am])]
      simp only [List.filter_eq_self.mpr (fun _ _ => rfl), List.map_map]
      rfl
    have b1 := bAny_r (h := h2 ++ [.lst (((dv h k).map fun (g : Nat) => decide (0 < d.fmod (g : Int))).map .bl)]) (n := h2.length) (l := (dv h k).map fun (g : Nat) => decide (0 < d.fmod (g : Int))) (lk_at h2 _ [])
    rw [List.any_map] at b1
    have eB : (dv h k).any (id ∘ fun (g : Nat) => decide (0 < d.fmod (g : Int))) = hasRest h k d := rfl
    rw [eB] at b1
    obtain ⟨h3, eh3⟩ : ∃ h3, h3 = h2 ++ [.lst (((dv h k).map fun (g : Nat) => decide (0 < d.fmod (g : Int))).map .bl)] := ⟨_, rfl⟩
    have g3 : Grow hp h3 := by rw [eh3, eh2]; exact (g1.app _).app _
    rw [← eh3] at c1 b1
    refine ⟨h3, mF_rt (s' := [some (.int (h : Int)), some (.int (k : Int)), some (.int d), none, none]) ?_, g3⟩
    cases hB : hasRest h k d with
    | true =>
      rw [hB] at b1
      simp -implicitDefEqProofs [m_law_own_sort, S2_law_own_sort, S1_law_own_sort, c2, b2, c1, b1]
    | false =>
      rw [hB] at b1
      simp -implicitDefEqProofs [m_law_own_sort, S2_law_own_sort, S1_law_own_sort, c2, b2, c1, b1]
/-- the told paper -/
structure ToldP (h k : Nat) (d : Int) (w : Str) (t : D) : Prop where
  paper : ∀ hp, F_gap_paper [.int (h : Int), .int (k : Int), .int d] hp = .ok (.tup [.str w, t], hp)
  sort : sortW h k d = w
  pap : ∃ p, papOf (.tup [.str w, t]) = some p ∧ dueP h k d (Nat.gcd h k : Nat) (some p) = .non
  shape : (w = wS ∧ ∃ a b : Int, t = .tup [.int a, .int b] ∧ 0 ≤ a ∧ a ≤ MAXN ∧ 0 ≤ b ∧ b ≤ MAXN) ∨ ((w = wR ∨ w = wO) ∧ ∃ x : Int, t = .int x ∧ 0 ≤ x ∧ x ≤ 1000)
theorem told_is {h k : Nat} (h0 : 0 < h) (k0 : 0 < k) (hh : h ≤ 1000) (hk : k ≤ 1000) {d : Int} (d0 : 0 ≤ d) (d1 : d ≤ MAXN) : ∃ w t, ToldP h k d w t := by
  obtain ⟨g, hg⟩ : ∃ g, g = Nat.gcd h k := ⟨_, rfl⟩
  have g0 : 0 < g := by rw [hg]; exact Nat.gcd_pos_of_pos_right _ k0
  have gh : g ∣ h := by rw [hg]; exact Nat.gcd_dvd_left ..
  have gk : g ∣ k := by rw [hg]; exact Nat.gcd_dvd_right ..
  have gk1 := Nat.le_of_dvd k0 gk
  have big : (1000000 : Int) ≤ MAXN := by decide
  have gIh : (g : Int) ∣ (h : Int) := Int.ofNat_dvd.mpr gh
  have gIk : (g : Int) ∣ (k : Int) := Int.ofNat_dvd.mpr gk
  have nRO : ¬ wR = wS := by decide +kernel
  have nOS : ¬ wO = wS := by decide +kernel
  have nRO' : ¬ wR = wO := by decide +kernel
  by_cases hd : d.fmod (g : Int) = 0
  · have gd : (g : Int) ∣ d := fmod_dvd.mp hd
    obtain ⟨x, zx, dx⟩ := solve (h := h) (k := k) k0 (d := d) (by rw [← hg]; exact gd)
    rw [← hg] at zx
    obtain ⟨X, lX, pX, mX⟩ := least (P := fun x : Nat => (k : Int) ∣ (x : Int) * h - d) (fun n => Classical.em _) x dx
    have XG : X * g < k := Nat.lt_of_le_of_lt (Nat.mul_le_mul_right g lX) zx
    have Xk : X < k := Nat.lt_of_le_of_lt (Nat.le_mul_of_pos_right X g0) XG
    have fX : ((X : Int) * h - d).fmod k = 0 := fmod_dvd.mpr pX
    have pg := fun hp => x_gap_found (h := h) (k := k) (d := d) hk hh h0 k0 (by rw [← hg]; exact hd) (X := X) (by omega) fX (fun y hy z => mX y hy (fmod_dvd.mp z)) hp
    by_cases c : d < (X : Int) * h
    · refine ⟨wO, .int (X : Int), ⟨fun hp => ?_, ?_, ⟨.over X, ?_, ?_⟩, .inr ⟨.inr rfl, _, rfl, by omega, by omega⟩⟩⟩
      · rw [pg hp, if_pos c]
      · have nA : hasSum h k d = false := by
          unfold hasSum
          rw [List.any_eq_false]
          intro a ha q
          have q := of_decide_eq_true q
          have ra := List.mem_range.mp ha
          have al : (a : Int) ≤ d.fdiv (h : Int) := by omega
          have ah : (a : Int) * h ≤ d := by
            rw [Int.fdiv_eq_ediv_of_nonneg _ (by omega)] at al
            exact (Int.le_ediv_iff_mul_le (by omega)).mp al
          have ka : (k : Int) ∣ (a : Int) * h - d := by
            have := fmod_dvd.mp q
            have e : (a : Int) * h - d = -(d - (a : Int) * h) := by omega
            rw [e]
            exact Int.dvd_neg.mpr this
          have : X ≤ a := by
            rcases Nat.lt_or_ge a X with z | z
            · exact absurd ka (mX a z)
            · exact z
          have : (X : Int) * h ≤ (a : Int) * h := Int.mul_le_mul_of_nonneg_right (by omega) (by omega)
          omega
        have nB : hasRest h k d = false := by
          unfold hasRest
          rw [List.any_eq_false]
          intro y hy q
          have q := of_decide_eq_true q
          obtain ⟨y1, y2, y3⟩ := dv_mem hy
          have yg : y ∣ g := by rw [hg]; exact Nat.dvd_gcd y2 y3
          have : (y : Int) ∣ d := Int.dvd_trans (Int.ofNat_dvd.mpr yg) gd
          have := fmod_dvd.mpr this
          omega
        unfold sortW
        rw [nA, nB]
        rfl
      · have i : inN 0 (X : Int) = true := by
          unfold inN
          rw [decide_eq_true (show (0 : Int) ≤ X by omega), decide_eq_true (show (X : Int) ≤ MAXN by omega)]
          rfl
        rw [papOf_str, if_neg nOS, if_pos rfl]
        unfold intOf
        simp only [i, if_true]
        rfl
      · rw [dueP_over, ← hg, if_neg, if_pos fX, if_neg (by omega)]
        have : ((X * g : Nat) : Int) < (k : Int) := by omega
        rw [Int.natCast_mul] at this
        omega
    · have kd : (k : Int) ∣ d - (X : Int) * h := by
        have e : d - (X : Int) * h = -((X : Int) * h - d) := by omega
        rw [e]
        exact Int.dvd_neg.mpr pX
      obtain ⟨y, hy⟩ : ∃ y, y = (d - (X : Int) * h).fdiv k := ⟨_, rfl⟩
      have yk : y * k = d - (X : Int) * h := by
        rw [hy, Int.fdiv_eq_ediv_of_nonneg _ (by omega)]
        exact Int.ediv_mul_cancel kd
      have y0 : 0 ≤ y := by
        rw [hy, Int.fdiv_eq_ediv_of_nonneg _ (by omega)]
        exact Int.ediv_nonneg (by omega) (by omega)
      have Xh0 : (0 : Int) ≤ (X : Int) * h := Int.mul_nonneg (by omega) (by omega)
      have y1 : y ≤ d := by
        have : y * 1 ≤ y * (k : Int) := Int.mul_le_mul_of_nonneg_left (by omega) y0
        omega
      refine ⟨wS, .tup [.int (X : Int), .int y], ⟨fun hp => ?_, ?_, ⟨.sum X y, ?_, ?_⟩, .inl ⟨rfl, _, _, rfl, by omega, by omega, y0, by omega⟩⟩⟩
      · rw [pg hp, if_neg c, ← hy]
      · have A : hasSum h k d = true := by
          unfold hasSum
          rw [List.any_eq_true]
          refine ⟨X, List.mem_range.mpr ?_, decide_eq_true (fmod_dvd.mpr kd)⟩
          have : (X : Int) ≤ d.fdiv (h : Int) := by
            rw [Int.fdiv_eq_ediv_of_nonneg _ (by omega)]
            exact (Int.le_ediv_iff_mul_le (by omega)).mpr (by omega)
          omega
        unfold sortW
        rw [A]
        rfl
      · have i1 : inN 0 (X : Int) = true := by
          unfold inN
          rw [decide_eq_true (show (0 : Int) ≤ X by omega), decide_eq_true (show (X : Int) ≤ MAXN by omega)]
          rfl
        have i2 : inN 0 y = true := by
          unfold inN
          rw [decide_eq_true y0, decide_eq_true (show y ≤ MAXN by omega)]
          rfl
        rw [papOf_str, if_pos rfl]
        unfold sumOf
        simp only [i1, i2, Bool.and_self, if_true]
        rfl
      · rw [dueP_sum, if_pos (by omega)]
  · refine ⟨wR, .int (g : Int), ⟨fun hp => ?_, ?_, ⟨.rest g, ?_, ?_⟩, .inr ⟨.inl rfl, _, rfl, by omega, by omega⟩⟩⟩
    · rw [hg] at hd ⊢
      exact x_gap_rest hk h0 hd hp
    · have nA : hasSum h k d = false := by
        unfold hasSum
        rw [List.any_eq_false]
        intro a ha q
        have q := fmod_dvd.mp (of_decide_eq_true q)
        apply hd
        refine fmod_dvd.mpr ?_
        have g1 : (g : Int) ∣ d - (a : Int) * h := Int.dvd_trans gIk q
        have g2 : (g : Int) ∣ (a : Int) * h := Int.dvd_mul_of_dvd_right gIh
        have := Int.dvd_add g1 g2
        rwa [Int.sub_add_cancel] at this
      have B : hasRest h k d = true := by
        unfold hasRest
        rw [List.any_eq_true]
        obtain ⟨l, el⟩ := dv_split h0 k0
        refine ⟨g, by rw [el, hg]; simp, decide_eq_true ?_⟩
        have := Int.fmod_nonneg_of_pos d (show (0 : Int) < (g : Int) by omega)
        omega
      unfold sortW
      rw [nA, B]
      rfl
    · have i : inN 1 (g : Int) = true := by
        unfold inN
        rw [decide_eq_true (show (1 : Int) ≤ g by omega), decide_eq_true (show (g : Int) ≤ MAXN by omega)]
        rfl
      rw [papOf_str, if_neg nRO, if_neg nRO', if_pos rfl]
      unfold intOf
      simp only [i, if_true]
      rfl
    · rw [dueP_rest, if_pos ⟨fmod_dvd.mpr gIh, fmod_dvd.mpr gIk⟩, if_neg hd]
end K35

namespace K35
open PySem Vq
structure Its (h : VH) (l : List D) (S : Nat) : Prop where
  ex : ∃ ps, pyQs (refQ h 6) l = some ps ∧ pyQs (refQ h 5) l = some ps ∧ gdQs ps = true ∧ PyData.depthAll ps ≤ 10 ∧ szQs ps ≤ S
theorem pyQs_app (f : Nat → Option PyData) : ∀ (a b : List D), pyQs f (a ++ b) = (pyQs f a).bind fun x => (pyQs f b).map fun y => x ++ y
  | [], b => by
    simp only [List.nil_append, pyQs, Option.bind_some]
    cases pyQs f b <;> rfl
  | d :: r, b => by
    simp only [List.cons_append, pyQs, pyQs_app f r b]
    cases pyQ f d with
    | none => rfl
    | some x =>
      simp only [Option.bind_some]
      cases pyQs f r with
      | none => rfl
      | some y =>
        simp only [Option.bind_some, Option.map_some]
        cases pyQs f b <;> rfl
theorem gdQs_app : ∀ a b : List PyData, gdQs (a ++ b) = (gdQs a && gdQs b)
  | [], b => by simp [gdQs]
  | x :: r, b => by simp only [List.cons_append, gdQs, gdQs_app r b, Bool.and_assoc]
theorem szQs_app : ∀ a b : List PyData, szQs (a ++ b) = szQs a + szQs b
  | [], b => by simp [szQs]
  | x :: r, b => by
    simp only [List.cons_append, szQs, szQs_app r b]
    omega
theorem depth_app : ∀ a b : List PyData, PyData.depthAll (a ++ b) = max (PyData.depthAll a) (PyData.depthAll b)
  | [], b => by simp [PyData.depthAll]
  | x :: r, b => by
    simp only [List.cons_append, PyData.depthAll, depth_app r b]
    omega
theorem Its.nil (h : VH) : Its h [] 0 := ⟨[], rfl, rfl, rfl, Nat.zero_le _, Nat.le_refl _⟩
theorem Its.app {h : VH} {a b : List D} {S T : Nat} (x : Its h a S) (y : Its h b T) : Its h (a ++ b) (S + T) := by
  obtain ⟨p, p1, p2, p3, p4, p5⟩ := x.ex
  obtain ⟨q, q1, q2, q3, q4, q5⟩ := y.ex
  refine ⟨p ++ q, ?_, ?_, ?_, ?_, ?_⟩
  · rw [pyQs_app, p1, q1]; rfl
  · rw [pyQs_app, p2, q2]; rfl
  · rw [gdQs_app, p3, q3]; rfl
  · rw [depth_app]; omega
  · rw [szQs_app]; omega
theorem Its.le {h : VH} {a : List D} {S T : Nat} (x : Its h a S) (hs : S ≤ T) : Its h a T := x.ex.elim fun p ⟨p1, p2, p3, p4, p5⟩ => ⟨p, p1, p2, p3, p4, Nat.le_trans p5 hs⟩
theorem Its.one {h : VH} {d : D} {p : PyData} (h1 : pyQ (refQ h 6) d = some p) (h2 : pyQ (refQ h 5) d = some p) (g : gdQ p = true) (hd : p.depth ≤ 10) {S : Nat} (hs : szQ p ≤ S) : Its h [d] S := by
  refine ⟨[p], by simp only [pyQs, h1]; rfl, by simp only [pyQs, h2]; rfl, by simp only [gdQs, g]; rfl, ?_, ?_⟩
  · simp only [PyData.depthAll]
    omega
  · simp only [szQs]
    omega
theorem Its.sh {h : VH} {l : List D} {S : Nat} (x : Its h l S) (hs : S ≤ 7990) : ∃ t, Sh h (.tup l) t := by
  obtain ⟨ps, p1, _, p3, p4, p5⟩ := x.ex
  refine sh_of (p := .tuple ps) (by simp only [pyQ, p1]; rfl) (by simp only [gdQ]; exact p3) (by simp only [PyData.depth]; omega) (by simp only [szQ]; omega)
theorem Its.shL {h : VH} {l : List D} {S : Nat} (x : Its h l S) (hs : S ≤ 7990) {n : Nat} (e : h[n]? = some (.lst l)) : ∃ t, Sh h (.ref n) t := by
  obtain ⟨ps, _, p2, p3, p4, p5⟩ := x.ex
  have el : lkL h n = some l := by
    unfold lkL
    rw [e]
  refine sh_of (p := .list ps) ?_ (by simp only [gdQ]; exact p3) (by simp only [PyData.depth]; omega) (by simp only [szQ]; omega)
  show (lkL h n).bind (fun l => (pyQs (refQ h 5) l).map PyData.list) = _
  rw [el, Option.bind_some, p2]
  rfl
theorem log_small {i : Int} (h0 : -(10 ^ 400) ≤ i) (h1 : i ≤ 10 ^ 400) : i.natAbs.log2 < 1920 := by
  have p := (pl_small h0 h1).sho
  have e : pyOf (.int i) = .int i := rfl
  rw [e] at p
  simpa only [PyData.showable, decide_eq_true_eq] using p
theorem sh_str (h : VH) (s : String) (hg : gdQ (.str (Str.ofString s)) = true) (hz : (Str.ofString s).length ≤ 100) : ∃ t, Sh h (.str (Str.ofString s)) t :=
  sh_of (p := .str (Str.ofString s)) rfl hg (Nat.zero_le _) (by simp only [szQ]; omega)
theorem get_at {h : VH} {n : Nat} {c d : Cell} (e : h[n]? = some c) : (h ++ [d])[n]? = some c := by
  rw [List.getElem?_append_left (lt_of_get e)]
  exact e
theorem _root_.Vq.Grow.cell {h h' : VH} (g : Grow h h') {n : Nat} {c : Cell} (e : h[n]? = some c) : h'[n]? = some c := by
  obtain ⟨u, rfl⟩ := g
  rw [List.getElem?_append_left (lt_of_get e)]
  exact e
/-! ### values that may be shown, by their look -/
mutual
def okD : D → Prop
  | .non => True
  | .bl _ => True
  | .int i => i.natAbs.log2 < 1920
  | .str s => gdQ (.str s) = true ∧ s.length ≤ 7
  | .tup l => okDs l
  | .ftup _ => False
  | .dic _ _ => False
  | .ref _ => False
def okDs : List D → Prop
  | [] => True
  | d :: r => okD d ∧ okDs r
end
mutual
def szD : D → Nat
  | .str _ => 8
  | .tup l => szDs l + 1
  | _ => 1
def szDs : List D → Nat
  | [] => 0
  | d :: r => szD d + szDs r
end
mutual
def dpD : D → Nat
  | .tup l => dpDs l + 1
  | _ => 0
def dpDs : List D → Nat
  | [] => 0
  | d :: r => max (dpD d) (dpDs r)
end
mutual
theorem okD_py : ∀ v : D, okD v → ∃ p, (∀ f, pyQ f v = some p) ∧ gdQ p = true ∧ p.depth ≤ dpD v ∧ szQ p ≤ szD v
  | .non, _ => ⟨.none, fun _ => rfl, rfl, by simp [PyData.depth], by simp [szQ, szD]⟩
  | .bl b, _ => ⟨.bool b, fun _ => rfl, rfl, by simp [PyData.depth], by simp [szQ, szD]⟩
  | .int i, h => ⟨.int i, fun _ => rfl, by simp only [okD] at h; simp only [gdQ]; exact decide_eq_true h, by simp [PyData.depth], by simp [szQ, szD]⟩
  | .str s, h => ⟨.str s, fun _ => rfl, by simp only [okD] at h; exact h.1, by simp [PyData.depth], by simp only [okD] at h; simp only [szQ, szD]; omega⟩
  | .tup l, h => by
    simp only [okD] at h
    obtain ⟨ps, h1, h2, h3, h4⟩ := okDs_py l h
    refine ⟨.tuple ps, fun f => by simp only [pyQ, h1 f]; rfl, by simp only [gdQ]; exact h2, by simp only [PyData.depth, dpD]; omega, by simp only [szQ, szD]; omega⟩
  | .ftup _, h => by simp only [okD] at h
  | .dic _ _, h => by simp only [okD] at h
  | .ref _, h => by simp only [okD] at h
theorem okDs_py : ∀ l : List D, okDs l → ∃ ps, (∀ f, pyQs f l = some ps) ∧ gdQs ps = true ∧ PyData.depthAll ps ≤ dpDs l ∧ szQs ps ≤ szDs l
  | [], _ => ⟨[], fun _ => rfl, rfl, by simp [PyData.depthAll], by simp [szQs]⟩
  | d :: r, h => by
    simp only [okDs] at h
    obtain ⟨p, h1, h2, h3, h4⟩ := okD_py d h.1
    obtain ⟨ps, k1, k2, k3, k4⟩ := okDs_py r h.2
    refine ⟨p :: ps, fun f => by simp only [pyQs, h1 f, k1 f]; rfl, by simp only [gdQs, h2, k2]; rfl, by simp only [PyData.depthAll, dpDs]; omega, by simp only [szQs, szDs]; omega⟩
end
def Pv (v : D) : Prop := ∃ p, (∀ f, pyQ f v = some p) ∧ gdQ p = true ∧ p.depth ≤ 4 ∧ szQ p ≤ 30
theorem pv_of {v : D} (h : okD v) (hd : dpD v ≤ 4) (hs : szD v ≤ 30) : Pv v := by
  obtain ⟨p, h1, h2, h3, h4⟩ := okD_py v h
  exact ⟨p, h1, h2, by omega, by omega⟩
theorem pv_dic {s : Str} {i : Int} (hs : gdQ (.str s) = true) (hz : s.length ≤ 7) (hi : i.natAbs.log2 < 1920) : Pv (.dic [.inr s] [.int i]) :=
  ⟨.dict [(.str s, .int i)], fun _ => rfl, by simp only [gdQ, gdQk, decide_eq_true hi] at hs ⊢; simp [hs], by simp [PyData.depth, PyData.depthKv], by simp only [szQ, szQk]; omega⟩
def szB : D → Bool
  | .tup l => decide (l.length ≤ 1000) && l.all fun t => match t with
    | .tup l2 => decide (l2.length ≤ 1000)
    | _ => true
  | _ => true
theorem szs_of {v : D} (h : szB v = true) : Szs v := by
  intro l e
  subst e
  simp only [szB, Bool.and_eq_true, decide_eq_true_eq, List.all_eq_true] at h
  refine ⟨h.1, fun t ht l2 e => ?_⟩
  have := h.2 t ht
  rw [e] at this
  simpa using this
/-- a value handed in: no cells, or one list behind the place F -/
def VR (F : Nat) (h : VH) (v : D) : Prop := okF v = true ∧ Szs v ∧ (Pv v ∨ ∃ n l, F < n ∧ h[n]? = some (.lst l) ∧ (∀ d ∈ l, Pv d) ∧ l.length ≤ 3 ∧ (v = .ref n ∨ ∃ w, gdQ (.str w) = true ∧ w.length ≤ 7 ∧ v = .tup [.str w, .ref n]))
theorem vr_pure {F : Nat} {h : VH} {v : D} (p : Pv v) (o : okF v = true) (z : szB v = true) : VR F h v := ⟨o, szs_of z, .inl p⟩
theorem vr_ref {F n : Nat} {h : VH} {l : List D} (hn : F < n) (e : h[n]? = some (.lst l)) (hl : ∀ d ∈ l, Pv d) (hz : l.length ≤ 3) : VR F h (.ref n) := ⟨rfl, szs_of rfl, .inr ⟨n, l, hn, e, hl, hz, .inl rfl⟩⟩
theorem vr_wref {F n : Nat} {h : VH} {l : List D} {w : Str} (hn : F < n) (e : h[n]? = some (.lst l)) (hl : ∀ d ∈ l, Pv d) (hz : l.length ≤ 3) (hw : gdQ (.str w) = true) (hwz : w.length ≤ 7) : VR F h (.tup [.str w, .ref n]) := ⟨rfl, szs_of rfl, .inr ⟨n, l, hn, e, hl, hz, .inr ⟨w, hw, hwz, rfl⟩⟩⟩
theorem VR.grow {F : Nat} {h h' : VH} {v : D} (x : VR F h v) (g : Grow h h') : VR F h' v := ⟨x.1, x.2.1, x.2.2.imp id fun ⟨n, l, hn, e, r⟩ => ⟨n, l, hn, g.cell e, r⟩⟩
theorem VR.set {F : Nat} {h : VH} {v : D} (x : VR F h v) (c : Cell) : VR F (h.set F c) v := ⟨x.1, x.2.1, x.2.2.imp id fun ⟨n, l, hn, e, r⟩ => ⟨n, l, hn, by rw [List.getElem?_set_ne (by omega)]; exact e, r⟩⟩
theorem VR.keep {b c F : Nat} {h0 h h' : VH} {v : D} (q : Hb b c h0) (hF : h0.length ≤ F) (k : Keep b c h h') (x : VR F h v) : VR F h' v := ⟨x.1, x.2.1, x.2.2.imp id fun ⟨n, l, hn, e, r⟩ => ⟨n, l, hn, Keep.cell q (by omega) k e, r⟩⟩
theorem pvs {l : List D} (hl : ∀ d ∈ l, Pv d) : ∃ ps, (∀ f, pyQs f l = some ps) ∧ gdQs ps = true ∧ PyData.depthAll ps ≤ 4 ∧ szQs ps ≤ 30 * l.length := by
  induction l with
  | nil => exact ⟨[], fun _ => rfl, rfl, by simp [PyData.depthAll], by simp [szQs]⟩
  | cons d r ih =>
    obtain ⟨p, h1, h2, h3, h4⟩ := hl d (List.mem_cons_self ..)
    obtain ⟨ps, k1, k2, k3, k4⟩ := ih fun x hx => hl x (List.mem_cons_of_mem _ hx)
    refine ⟨p :: ps, fun f => by simp only [pyQs, h1 f, k1 f]; rfl, by simp only [gdQs, h2, k2]; rfl, by simp only [PyData.depthAll]; omega, by simp only [szQs, List.length_cons]; omega⟩
theorem VR.its {F : Nat} {h : VH} {v : D} (x : VR F h v) : (Pv v ∧ Its h [v] 30) ∨ Its h [v] 110 := by
  rcases x.2.2 with ⟨p, h1, h2, h3, h4⟩ | ⟨n, l, _, e, hl, hz, hv⟩
  · exact .inl ⟨⟨p, h1, h2, h3, h4⟩, .one (h1 _) (h1 _) h2 (by omega) h4⟩
  · right
    obtain ⟨ps, k1, k2, k3, k4⟩ := pvs hl
    have el : lkL h n = some l := by
      unfold lkL
      rw [e]
    have rq : ∀ k, refQ h (k + 1) n = some (.list ps) := fun k => by
      show (lkL h n).bind (fun l => (pyQs (refQ h k) l).map PyData.list) = _
      rw [el, Option.bind_some, k1]
      rfl
    rcases hv with rfl | ⟨w, hw, hwz, rfl⟩
    · exact .one (p := .list ps) (by simp only [pyQ]; exact rq 5) (by simp only [pyQ]; exact rq 4) (by simp only [gdQ]; exact k2) (by simp only [PyData.depth]; omega) (by simp only [szQ]; omega)
    · exact .one (p := .tuple [.str w, .list ps]) (by simp only [pyQ, pyQs, rq 5]; rfl) (by simp only [pyQ, pyQs, rq 4]; rfl) (by
        simp only [gdQ, gdQs, Bool.and_true] at hw ⊢
        rw [hw, k2]
        rfl) (by simp only [PyData.depth, PyData.depthAll]; omega) (by simp only [szQ, szQs]; omega)
end K35

namespace K35
open PySem Vq
def wt : D → Nat
  | .ref _ => 110
  | .tup [.str _, .ref _] => 110
  | _ => 30
theorem wt_ge (v : D) : 30 ≤ wt v := by
  unfold wt
  split <;> omega
theorem VR.wts {F : Nat} {h : VH} {v : D} (x : VR F h v) : Its h [v] (wt v) := by
  rcases x.2.2 with p | ⟨n, l, hn, e, hl, hz, hv⟩
  · obtain ⟨p, h1, h2, h3, h4⟩ := p
    exact (Its.one (h1 _) (h1 _) h2 (by omega) h4).le (wt_ge v)
  · rcases x.its with y | y
    · exact y.2.le (wt_ge v)
    · rcases hv with rfl | ⟨w, _, _, rfl⟩
      · exact y
      · exact y
theorem its_all {F : Nat} {h : VH} {L : List D} (hL : ∀ v ∈ L, VR F h v) : Its h L (L.map wt).sum := by
  induction L with
  | nil => exact .nil h
  | cons v r ih =>
    have a := (hL v (List.mem_cons_self ..)).wts
    have b := ih fun x hx => hL x (List.mem_cons_of_mem _ hx)
    rw [List.map_cons, List.sum_cons]
    exact a.app b
theorem len_wt (L : List D) : L.length ≤ (L.map wt).sum := by
  induction L with
  | nil => simp
  | cons v r ih =>
    have := wt_ge v
    rw [List.map_cons, List.sum_cons, List.length_cons]
    omega
/-- what is found so far -/
structure Fnd (b c : Nat) (h0 : VH) (F : Nat) (h : VH) (N : Nat) : Prop where
  keep : Keep b c h0 h
  ex : ∃ L, h[F]? = some (.lst L) ∧ (∀ v ∈ L, VR F h v) ∧ (L.map wt).sum ≤ N
theorem Fnd.go {b c : Nat} {h0 : VH} {F : Nat} {h h1 : VH} {N : Nat} (q0 : Hb b c h0) (hF : h0.length ≤ F) (f : Fnd b c h0 F h N) (k : Keep b c h h1) : Fnd b c h0 F h1 N := by
  obtain ⟨L, c1, vr, z⟩ := f.ex
  exact ⟨f.keep.trans k, L, Keep.cell q0 hF k c1, fun v hv => (vr v hv).keep q0 hF k, z⟩
theorem Fnd.le {b c : Nat} {h0 : VH} {F : Nat} {h : VH} {N M : Nat} (f : Fnd b c h0 F h N) (hz : N ≤ M) : Fnd b c h0 F h M := by
  obtain ⟨L, c1, vr, z⟩ := f.ex
  exact ⟨f.keep, L, c1, vr, by omega⟩
theorem vLst_okR {r : VA} {s : VS} {h h1 : VH} {ds : List D} (er : r s h = .ok (ds, h1)) (hz : ds.length ≤ 1000) : vLst r s h = .ok (.ref h1.length, h1 ++ [.lst ds]) := by
  have z : ds.length ≤ sizeLine := le_line (by omega)
  simp [er, z]
theorem Fnd.step {b c : Nat} {h0 : VH} {F : Nat} {h : VH} {N : Nat} (q0 : Hb b c h0) (hF : h0.length ≤ F) (f : Fnd b c h0 F h N) {i k : Nat} {args : VA} {s : VS} {vals : List D} {h1 : VH} (si : s[i]? = some (some (.ref F))) (ea : args s h = .ok (vals, h1)) (k1 : Keep b c h h1) (hv : ∀ v ∈ vals, VR F h1 v) (hk : (vals.map wt).sum ≤ k) (hN : N ≤ 100000) (hk2 : k ≤ 1000) :
    ∃ h', (vDrop (vMt "list" mExt2 (vVar i) (vCons (vLst args) vNil))) s h = .ok (.nx, s, h') ∧ Fnd b c h0 F h' (N + k) ∧ ∀ n cl, h0.length ≤ n → n ≠ F → h[n]? = some cl → h'[n]? = some cl := by
  obtain ⟨L, cF, vr, z⟩ := f.ex
  have lv := len_wt vals
  have lL := len_wt L
  have eL := vLst_okR ea (by omega)
  obtain ⟨h2, eh2⟩ : ∃ h2, h2 = h1 ++ [.lst vals] := ⟨_, rfl⟩
  rw [← eh2] at eL
  have k2 : Keep b c h h2 := by rw [eh2]; exact k1.app _
  have g2 : Grow h1 h2 := by rw [eh2]; exact .new _ _
  have c2 : h2[F]? = some (.lst L) := Keep.cell q0 hF k2 cF
  have cM : h2[h1.length]? = some (.lst vals) := by rw [eh2]; exact List.getElem?_concat_length ..
  have ex := mExt2_r c2 cM (by omega)
  have ty := tyL_of (lk_of cF)
  have ty2 := tyL_of (lk_of c2)
  have bl := q0.b_lt
  have cl := q0.c_lt
  refine ⟨h2.set F (.lst (L ++ vals)), ?_, ⟨(f.keep.trans k2).set hF (by omega) (by omega), L ++ vals, List.getElem?_set_self (lt_of_get c2), fun v hv' => ?_, ?_⟩, fun n cl hn hF' e => by rw [List.getElem?_set_ne (Ne.symm hF')]; exact Keep.cell q0 hn k2 e⟩
  · generalize vLst args = a at *
    simp -implicitDefEqProofs [vVar, si, ty, eL, ty2, ex]
  · rcases List.mem_append.mp hv' with m | m
    · exact ((vr v m).keep q0 hF k2).set _
    · exact ((hv v m).grow g2).set _
  · rw [List.map_append, List.sum_append]
    omega
theorem lgs {i : Int} (h0 : -(1000 * MAXN) ≤ i) (h1 : i ≤ 1000 * MAXN) : i.natAbs.log2 < 1920 := by
  have e : 1000 * MAXN ≤ 10 ^ 400 := by decide +kernel
  exact log_small (by omega) (by omega)
theorem w_sum : gdQ (.str (Str.ofString "sum")) = true ∧ (Str.ofString "sum").length ≤ 7 := by decide +kernel
theorem w_ab : gdQ (.str (Str.ofString "ab")) = true ∧ (Str.ofString "ab").length ≤ 7 := by decide +kernel
theorem w_sums : gdQ (.str (Str.ofString "sums")) = true ∧ (Str.ofString "sums").length ≤ 7 := by decide +kernel
theorem w_Sum : gdQ (.str (Str.ofString "Sum")) = true ∧ (Str.ofString "Sum").length ≤ 7 := by decide +kernel
theorem w_rest : gdQ (.str (Str.ofString "rest")) = true ∧ (Str.ofString "rest").length ≤ 7 := by decide +kernel
theorem w_Rest : gdQ (.str (Str.ofString "Rest")) = true ∧ (Str.ofString "Rest").length ≤ 7 := by decide +kernel
theorem w_nil : gdQ (.str (Str.ofString "")) = true ∧ (Str.ofString "").length ≤ 7 := by decide +kernel
theorem w_over : gdQ (.str (Str.ofString "over")) = true ∧ (Str.ofString "over").length ≤ 7 := by decide +kernel
theorem w_Over : gdQ (.str (Str.ofString "Over")) = true ∧ (Str.ofString "Over").length ≤ 7 := by decide +kernel
theorem w_overs : gdQ (.str (Str.ofString "overs")) = true ∧ (Str.ofString "overs").length ≤ 7 := by decide +kernel
theorem w_ints : ∀ n ∈ List.range 130, gdQ (.str (toString ((n : Nat) : Int) : Str)) = true ∧ (toString ((n : Nat) : Int) : Str).length ≤ 7 := by decide +kernel
theorem w_int {i : Int} (h0 : 0 ≤ i) (h1 : i < 130) : gdQ (.str (toString i : Str)) = true ∧ (toString i : Str).length ≤ 7 := by
  have := w_ints i.toNat (List.mem_range.mpr (by omega))
  rwa [Int.toNat_of_nonneg h0] at this
def P55 : Int := 10 ^ 55
def HUGE : Int := P55 ^ 7
theorem HUGE_log : HUGE.natAbs.log2 < 1920 := by decide +kernel
theorem pow55 (h : VH) : aPow (.int 10) (.int 55) h = some (.int P55, h) := by
  have e : aPow (.int 10) (.int 55) h = (if powOk 10 55 = true then some (D.int ((10 : Int) ^ (55 : Int).toNat)) else none).map fun d => (d, h) := rfl
  rw [e, if_pos (by decide +kernel)]
  rfl
theorem powHuge (h : VH) : aPow (.int P55) (.int 7) h = some (.int HUGE, h) := by
  have e : aPow (.int P55) (.int 7) h = (if powOk P55 7 = true then some (D.int (P55 ^ (7 : Int).toNat)) else none).map fun d => (d, h) := rfl
  rw [e, if_pos (by decide +kernel)]
  rfl
theorem pow6 (h : VH) : aPow (.int 10) (.int 6) h = some (.int 1000000, h) := by
  have e : aPow (.int 10) (.int 6) h = (if powOk 10 6 = true then some (D.int ((10 : Int) ^ (6 : Int).toNat)) else none).map fun d => (d, h) := rfl
  rw [e, if_pos (by decide +kernel)]
  rfl
theorem VR.mono {F F' : Nat} {h : VH} {v : D} (x : VR F h v) (hF : F' ≤ F) : VR F' h v := ⟨x.1, x.2.1, x.2.2.imp id fun ⟨n, l, hn, r⟩ => ⟨n, l, by omega, r⟩⟩
end K35

namespace K35
open PySem Vq
theorem lc_rng1t {a : VA} {vs : List Nat} {g : VP} {t : VT} {e : VE} {s : VS} {h h1 : VH} {n : Int} (p : Nat → Bool) (f : Nat → D) (ha : a s h = .ok ([.int n], h1)) (h0 : -1000000 ≤ n) (h2 : n ≤ 1000000)
    (step : ∀ k : Nat, (k : Int) < n → ∀ acc, ∃ s', g (.int (k : Int)) (vwipe s vs) = some s' ∧ t s' (h1 ++ [.lst acc]) = .ok (p k, h1 ++ [.lst acc]) ∧ (p k = true → e s' (h1 ++ [.lst acc]) = .ok (f k, h1 ++ [.lst acc]))) :
    vLc (vRng1 a) vs g t e s h = .ok (.ref h1.length, h1 ++ [.lst (((List.range n.toNat).filter p).map f)]) :=
  lc_pure (it := vRng1 a) (vs := vs) (g := g) (t := t) (e := e) (s := s) (h := h) (h1 := h1) (src := fun _ => some (rangeD 0 1 n.toNat)) (ys := List.range n.toNat) (c := fun (k : Nat) => D.int ((0 : Int) + (k : Int))) p f
    (vRng1_of ha (by unfold inRng; exact decide_eq_true (by omega))) (fun acc => by rw [rangeD_one]) (by rw [List.length_range]; exact le_line (by omega)) (fun k hk acc => by
      have hk' : (k : Int) < n := by
        have := List.mem_range.mp hk
        omega
      obtain ⟨s', e1, e2⟩ := step k hk' acc
      exact ⟨s', by rw [Int.zero_add]; exact e1, e2⟩)
abbrev SF {α : Type} (f : Fn → α) : α := f F_law_draw
/-- what is given: gaps, a sum, the common divisor -/
structure Case (h k : Nat) (d : Int) (g : Nat) : Prop where
  h0 : 0 < h
  h1 : h ≤ 60
  k0 : 0 < k
  k1 : k ≤ 60
  d0 : 0 ≤ d
  d1 : d ≤ MAXN
  g0 : 0 < g
  g1 : g ≤ 60
  gh : g ≤ h
  gk : g ≤ k
  eg : g = Nat.gcd h k
theorem case_of {h k : Nat} {d : Int} (h0 : 0 < h) (h1 : h ≤ 60) (k0 : 0 < k) (k1 : k ≤ 60) (d0 : 0 ≤ d) (d1 : d ≤ MAXN) : Case h k d (Nat.gcd h k) :=
  ⟨h0, h1, k0, k1, d0, d1, Nat.gcd_pos_of_pos_left _ h0, Nat.le_trans (Nat.gcd_le_left _ h0) h1, Nat.gcd_le_left _ h0, Nat.gcd_le_right _ k0, rfl⟩
theorem fdiv_bnd {a : Int} {n : Nat} (n0 : 0 < n) (a0 : 0 ≤ a) : 0 ≤ a.fdiv (n : Int) ∧ a.fdiv (n : Int) ≤ a ∧ a.fdiv (n : Int) * n ≤ a := by
  rw [Int.fdiv_eq_ediv_of_nonneg _ (by omega)]
  have h1 := Int.ediv_nonneg a0 (show (0 : Int) ≤ (n : Int) by omega)
  have h2 := Int.ediv_mul_le a (show (n : Int) ≠ 0 by omega)
  have h3 : a / (n : Int) * 1 ≤ a / (n : Int) * n := Int.mul_le_mul_of_nonneg_left (by omega) h1
  exact ⟨h1, by omega, h2⟩
/-- the first ones -/
theorem sums_head {b c : Nat} {h0 hp : VH} (q0 : Hb b c h0) (kp : Keep b c h0 hp) {h k g : Nat} {d : Int} (C : Case h k d g) (cs f0 : D) (a10 a11 a12 : Option D) :
    ∃ (a bb : Int) (tn : Int) (fs : D) (hp' : VH), (vSeq (SF S11_law_own_sums) (vSeq (SF S10_law_own_sums) (vSeq (SF S9_law_own_sums) (SF S8_law_own_sums)))) [some (.ref b), some cs, some (.int (h : Int)), some (.int (k : Int)), some (.int d), some (.int (g : Int)), some f0, none, none, none, a10, a11, a12] hp =
      .ok (.nx, [some (.ref b), some cs, some (.int (h : Int)), some (.int (k : Int)), some (.int d), some (.int (g : Int)), some f0, some fs, some (.int a), some (.int bb), some (.int tn), a11, a12], hp') ∧ Keep b c hp hp' ∧ 0 ≤ a ∧ a ≤ 60 ∧ 0 ≤ bb ∧ bb ≤ MAXN ∧ 0 ≤ tn ∧ tn ≤ 1000000 := by
  obtain ⟨h0', h1', k0, k1, d0, d1, g0, g1, gh, gk, eg⟩ := C
  obtain ⟨q1, q2, q3⟩ := fdiv_bnd (a := d) (n := h) h0' d0
  obtain ⟨dh, hdh⟩ : ∃ dh, dh = d.fdiv (h : Int) := ⟨_, rfl⟩
  have oh : divOk (h : Int) = true := divOk_small (by omega) (by omega)
  have ok : divOk (k : Int) = true := divOk_small (by omega) (by omega)
  have fd := fun hp => aFdv_i (i := d) (j := (h : Int)) (h := hp) oh
  rw [← hdh] at q1 q2 q3 fd
  have mn := mn_is dh (k : Int) hp
  -- the first ones
  obtain ⟨al, c1, hal⟩ : ∃ al : List Int, SF C1_law_own_sums [some (.ref b), some cs, some (.int (h : Int)), some (.int (k : Int)), some (.int d), some (.int (g : Int)), some f0, none, none, none, a10, a11, a12] hp = .ok (.ref hp.length, hp ++ [.lst (al.map .int)]) ∧ ∀ a ∈ al, 0 ≤ a ∧ a ≤ dh ∧ a ≤ k := by
    refine ⟨((List.range ((min dh (k : Int) + 1).toNat)).filter fun (a : Nat) => decide ((d - (a : Int) * h).fmod k = 0)).map fun (n : Nat) => (n : Int), ?_, fun a ha => ?_⟩
    · show C1_law_own_sums _ _ hp = _
      unfold C1_law_own_sums
      rw [lc_rng1t (h1 := hp) (n := min dh (k : Int) + 1) (fun a => decide ((d - (a : Int) * h).fmod k = 0)) (fun a => .int (a : Int)) (by
        generalize min dh (k : Int) = m at *
        simp [fd, mn]) (by omega) (by omega) (by
        intro a ha acc
        have mo : mulOk (a : Int) (h : Int) = true := mul_sm (by omega) (by omega)
        have am := aMod_i (i := d - (a : Int) * h) (j := (k : Int)) (h := hp ++ [.lst acc]) (by omega)
        refine ⟨_, rfl, ?_, fun _ => ?_⟩
        · generalize hr : (a : Int) * (h : Int) = r at *
          generalize (d - r).fmod (k : Int) = u at *
          simp -implicitDefEqProofs [T1_law_own_sums, vwipe, dMul_i mo, hr, am]
        · simp -implicitDefEqProofs [E1_law_own_sums, vwipe])]
      rw [List.map_map]
      rfl
    · obtain ⟨n, hn, rfl⟩ := List.mem_map.mp ha
      have := List.mem_range.mp (List.mem_filter.mp hn).1
      omega
  obtain ⟨h1, eh1⟩ : ∃ h1, h1 = hp ++ [.lst (al.map .int)] := ⟨_, rfl⟩
  rw [← eh1] at c1
  have k01 : Keep b c hp h1 := by rw [eh1]; exact (kp.bag).keep _
  have e11 : SF S11_law_own_sums [some (.ref b), some cs, some (.int (h : Int)), some (.int (k : Int)), some (.int d), some (.int (g : Int)), some f0, none, none, none, a10, a11, a12] hp = .ok (.nx, [some (.ref b), some cs, some (.int (h : Int)), some (.int (k : Int)), some (.int d), some (.int (g : Int)), some f0, some (.ref hp.length), none, none, a10, a11, a12], h1) := by
    simp only [SF] at c1
    simp -implicitDefEqProofs [SF, S11_law_own_sums, c1]
  have l1 : lk h1 hp.length = some (al.map .int) := by rw [eh1]; exact lk_at _ _ []
  obtain ⟨h2, eh2⟩ : ∃ h2, h2 = h1 ++ [.lst []] := ⟨_, rfl⟩
  have l2 : lk h2 hp.length = some (al.map .int) := by rw [eh2]; exact lk_app l1 _
  have ne := eqLp (α := Int) (by decide) true (h := h2) (n := hp.length) (m := h1.length) (a := al) (b := []) l2 (by rw [eh2]; exact lk_at _ _ [])
  have ne : dNe (.ref hp.length) (.ref h1.length) h2 = some (.bl (!decide (al = [])), h2) := ne
  have k12 : Keep b c h1 h2 := by rw [eh2]; exact (k01.bag).keep _
  have eh2' := eh2.symm
  obtain ⟨a, h3, e10, k23, a0, a1, a2⟩ : ∃ (a : Int) (h3 : VH), SF S10_law_own_sums [some (.ref b), some cs, some (.int (h : Int)), some (.int (k : Int)), some (.int d), some (.int (g : Int)), some f0, some (.ref hp.length), none, none, a10, a11, a12] h1 = .ok (.nx, [some (.ref b), some cs, some (.int (h : Int)), some (.int (k : Int)), some (.int d), some (.int (g : Int)), some f0, some (.ref hp.length), some (.int a), none, a10, a11, a12], h3) ∧ Keep b c h2 h3 ∧ 0 ≤ a ∧ a ≤ 60 ∧ a ≤ dh := by
    cases al with
    | nil =>
      rw [decide_eq_true rfl] at ne
      obtain ⟨y, h3, e3, y0, y1, k3⟩ := s_drawS k12.bag (n := 60) (by decide) (by decide)
      have mn3 := mn_is dh y h3
      refine ⟨min dh y, h3, ?_, k3, by omega, by omega, by omega⟩
      generalize min dh y = m at *
      simp -implicitDefEqProofs [SF, S10_law_own_sums, eh2', ne, fd, e3, mn3]
    | cons x r =>
      rw [decide_eq_false (by simp)] at ne
      have hx := hal x (List.mem_cons_self ..)
      have i0 : L2.atI ((x :: r).map D.int) 0 = some (.int x) := atI_nn (l := (x :: r).map D.int) (i := 0) (by decide) (by simp)
      refine ⟨x, h2, ?_, .refl k12.bag, hx.1, by omega, hx.2.1⟩
      generalize (x :: r).map D.int = u at *
      simp -implicitDefEqProofs [SF, S10_law_own_sums, eh2', ne, l2, i0]
  have ma : mulOk a (h : Int) = true := mul_sm (by omega) (by omega)
  have ah0 : 0 ≤ a * (h : Int) := Int.mul_nonneg a0 (by omega)
  have ah1 : a * (h : Int) ≤ dh * (h : Int) := Int.mul_le_mul_of_nonneg_right a2 (by omega)
  obtain ⟨b0, b1, b2⟩ := fdiv_bnd (a := d - a * (h : Int)) (n := k) k0 (by omega)
  obtain ⟨bb, hbb⟩ : ∃ bb, bb = (d - a * (h : Int)).fdiv (k : Int) := ⟨_, rfl⟩
  have fb := aFdv_i (i := d - a * (h : Int)) (j := (k : Int)) (h := h3) ok
  rw [← hbb] at b0 b1 b2 fb
  have e9 : SF S9_law_own_sums [some (.ref b), some cs, some (.int (h : Int)), some (.int (k : Int)), some (.int d), some (.int (g : Int)), some f0, some (.ref hp.length), some (.int a), none, a10, a11, a12] h3 = .ok (.nx, [some (.ref b), some cs, some (.int (h : Int)), some (.int (k : Int)), some (.int d), some (.int (g : Int)), some f0, some (.ref hp.length), some (.int a), some (.int bb), a10, a11, a12], h3) := by
    generalize hr : a * (h : Int) = r at *
    simp -implicitDefEqProofs [SF, S9_law_own_sums, dMul_i ma, hr, fb]
  have mg : mulOk bb (g : Int) = true := mul_sm (by omega) (by omega)
  have mh : mulOk (h : Int) 1000000 = true := mul_sm (by omega) (by omega)
  have p6 := pow6 h3
  have bg0 : 0 ≤ bb * (g : Int) := Int.mul_nonneg b0 (by omega)
  obtain ⟨t0, t1, t2⟩ := fdiv_bnd (a := bb * (g : Int)) (n := h) h0' bg0
  have ft := aFdv_i (i := bb * (g : Int)) (j := (h : Int)) (h := h3) oh
  obtain ⟨tn, h4, e8, k34, tn0, tn1⟩ : ∃ (tn : Int) (h4 : VH), SF S8_law_own_sums [some (.ref b), some cs, some (.int (h : Int)), some (.int (k : Int)), some (.int d), some (.int (g : Int)), some f0, some (.ref hp.length), some (.int a), some (.int bb), a10, a11, a12] h3 = .ok (.nx, [some (.ref b), some cs, some (.int (h : Int)), some (.int (k : Int)), some (.int d), some (.int (g : Int)), some f0, some (.ref hp.length), some (.int a), some (.int bb), some (.int tn), a11, a12], h4) ∧ Keep b c h3 h4 ∧ 0 ≤ tn ∧ tn ≤ 1000000 := by
    by_cases cc : bb * (g : Int) < (h : Int) * 1000000
    · have lt : (bb * (g : Int)).fdiv (h : Int) < 1000000 := by
        generalize (bb * (g : Int)).fdiv (h : Int) = w at *
        rcases Int.lt_or_le w 1000000 with z | z
        · exact z
        · have : (1000000 : Int) * (h : Int) ≤ w * (h : Int) := Int.mul_le_mul_of_nonneg_right z (by omega)
          omega
      obtain ⟨y, h4, e4, y0, y1, k4⟩ := s_drawS k23.bag (n := (bb * (g : Int)).fdiv (h : Int) + 1) (by omega) (by omega)
      refine ⟨y, h4, ?_, k4, y0, by omega⟩
      generalize hr : bb * (g : Int) = r at *
      generalize r.fdiv (h : Int) = w at *
      simp -implicitDefEqProofs [SF, S8_law_own_sums, dMul_i mg, dMul_i mh, hr, p6, cc, ft, e4]
    · obtain ⟨y, h4, e4, y0, y1, k4⟩ := s_drawS k23.bag (n := 1000000) (by decide) (by decide)
      refine ⟨y, h4, ?_, k4, y0, by omega⟩
      generalize hr : bb * (g : Int) = r at *
      simp -implicitDefEqProofs [SF, S8_law_own_sums, dMul_i mg, dMul_i mh, hr, p6, cc, e4]
  refine ⟨a, bb, tn, .ref hp.length, h4, ?_, ((k01.trans k12).trans k23).trans k34, a0, a1, b0, by omega, tn0, tn1⟩
  rw [seq_nx e11, seq_nx e10, seq_nx e9, e8]
end K35

namespace K35
open PySem Vq
theorem seq_assoc (x y z : VSt) (s : VS) (h : VH) : vSeq (vSeq x y) z s h = vSeq x (vSeq y z) s h := by
  unfold vSeq
  cases x s h with
  | ok p =>
    obtain ⟨o, s', h'⟩ := p
    cases o <;> rfl
  | ex _ _ _ => rfl
  | bad => rfl
theorem seq_assocF (x y z : VSt) : vSeq (vSeq x y) z = vSeq x (vSeq y z) := by
  funext s h
  exact seq_assoc x y z s h
/-- a list of values, told -/
structure Found (b c : Nat) (h0 : VH) (P : Nat) (h : VH) (N : Nat) : Prop where
  keep : Keep b c h0 h
  hP : h0.length ≤ P
  ex : ∃ L, h[P]? = some (.lst L) ∧ (∀ v ∈ L, VR h0.length h v) ∧ (L.map wt).sum ≤ N
/-- the last step: found + [..] -/
theorem Fnd.last {b c : Nat} {h0 : VH} {F : Nat} {h : VH} {N : Nat} (q0 : Hb b c h0) (hF : h0.length ≤ F) (f : Fnd b c h0 F h N) {i k : Nat} {args : VA} {s : VS} {vals : List D} {h1 : VH} (si : s[i]? = some (some (.ref F))) (ea : args s h = .ok (vals, h1)) (k1 : Keep b c h h1) (hv : ∀ v ∈ vals, VR F h1 v) (hk : (vals.map wt).sum ≤ k) (hN : N ≤ 100000) (hk2 : k ≤ 1000) :
    ∃ P h', (vRet (vOp dAdd (vVar i) (vLst args))) s h = .ok (.rt (.ref P), s, h') ∧ Found b c h0 P h' (N + k) := by
  obtain ⟨L, cF, vr, z⟩ := f.ex
  have lv := len_wt vals
  have lL := len_wt L
  have eL := vLst_okR ea (by omega)
  obtain ⟨h2, eh2⟩ : ∃ h2, h2 = h1 ++ [.lst vals] := ⟨_, rfl⟩
  rw [← eh2] at eL
  have k2 : Keep b c h h2 := by rw [eh2]; exact k1.app _
  have g2 : Grow h1 h2 := by rw [eh2]; exact .new _ _
  have c2 : h2[F]? = some (.lst L) := Keep.cell q0 hF k2 cF
  have cM : h2[h1.length]? = some (.lst vals) := by rw [eh2]; exact List.getElem?_concat_length ..
  have ad := dAdd_L c2 cM (by omega)
  obtain ⟨h3, eh3⟩ : ∃ h3, h3 = h2 ++ [.lst (L ++ vals)] := ⟨_, rfl⟩
  rw [← eh3] at ad
  have k3 : Keep b c h h3 := by rw [eh3]; exact k2.app _
  have g3 : Grow h2 h3 := by rw [eh3]; exact .new _ _
  have kk := f.keep.trans k3
  have le2 := (f.keep.trans k2).le
  refine ⟨h2.length, h3, ?_, ⟨kk, le2, L ++ vals, by rw [eh3]; exact List.getElem?_concat_length .., fun v hv' => ?_, ?_⟩⟩
  · generalize vLst args = a at *
    simp -implicitDefEqProofs [vVar, si, eL, ad]
  · rcases List.mem_append.mp hv' with m | m
    · exact ((vr v m).keep q0 hF k3).mono hF
    · exact (((hv v m).grow g2).grow g3).mono hF
  · rw [List.map_append, List.sum_append]
    omega
theorem sums_turn {b c : Nat} {h0 h : VH} {F N : Nat} (q0 : Hb b c h0) (hF : h0.length ≤ F) (f : Fnd b c h0 F h N) (hN : N ≤ 10000) {x y : Int} (x0 : -(100 * MAXN) ≤ x) (x1 : x ≤ 100 * MAXN) (y0 : -(100 * MAXN) ≤ y) (y1 : y ≤ 100 * MAXN) (a0 a1 a2 a3 a4 a5 a7 a8 a9 a10 : Option D) :
    ∃ h', SF B1_law_own_sums [a0, a1, a2, a3, a4, a5, some (.ref F), a7, a8, a9, a10, some (.int x), some (.int y)] h = .ok (.nx, [a0, a1, a2, a3, a4, a5, some (.ref F), a7, a8, a9, a10, some (.int x), some (.int y)], h') ∧ Fnd b c h0 F h' (N + 90) ∧ ∀ n cl, h0.length ≤ n → n ≠ F → h[n]? = some cl → h'[n]? = some cl := by
  have mb : (1000000 : Int) ≤ MAXN := by decide
  exact f.step q0 hF (i := 6) (vals := [.tup [.str (Str.ofString "sum"), .tup [.int x, .int y]], .tup [.str (Str.ofString "sum"), .tup [.int (x + 1), .int y]], .tup [.str (Str.ofString "sum"), .tup [.int x, .int (y + 1)]]]) (h1 := h) rfl (by simp -implicitDefEqProofs) (.refl f.keep.bag) (by
    intro v hv
    simp only [List.mem_cons, List.not_mem_nil, or_false] at hv
    rcases hv with rfl | rfl | rfl <;> (exact vr_pure (pv_of (by (simp only [okD, okDs, w_sum, w_ab, w_sums, w_Sum, w_rest, w_Rest, w_nil, w_over, w_Over, w_overs, true_and, and_true] <;> and_intros <;> first | assumption | exact HUGE_log | exact lgs (by omega) (by omega))) (Nat.le_of_ble_eq_true rfl) (Nat.le_of_ble_eq_true rfl)) rfl rfl)) (Nat.le_refl _) (by omega) (by decide)
theorem s_own_sums {b c : Nat} {h0 : VH} (q0 : Hb b c h0) {h k g : Nat} {d : Int} (C : Case h k d g) : ∃ P h', F_law_own_sums [.ref b, .tup [.int (h : Int), .int (k : Int), .int d, .int (g : Int)]] h0 = .ok (.ref P, h') ∧ Found b c h0 P h' 1510 := by
  have mb : (1000000 : Int) ≤ MAXN := by decide
  have C' := C
  obtain ⟨h0', h1', k0, k1, d0, d1, g0, g1, gh, gk, eg⟩ := C'
  obtain ⟨cs, hcs⟩ : ∃ cs : D, cs = .tup [.int (h : Int), .int (k : Int), .int d, .int (g : Int)] := ⟨_, rfl⟩
  have e13 : SF S13_law_own_sums [some (.ref b), some cs, none, none, none, none, none, none, none, none, none, none, none] h0 = .ok (.nx, [some (.ref b), some cs, some (.int (h : Int)), some (.int (k : Int)), some (.int d), some (.int (g : Int)), none, none, none, none, none, none, none], h0) := by
    rw [hcs]
    simp -implicitDefEqProofs [SF, S13_law_own_sums]
  obtain ⟨j1, ej1⟩ : ∃ j, j = h0 ++ [.lst []] := ⟨_, rfl⟩
  have e12 : SF S12_law_own_sums [some (.ref b), some cs, some (.int (h : Int)), some (.int (k : Int)), some (.int d), some (.int (g : Int)), none, none, none, none, none, none, none] h0 = .ok (.nx, [some (.ref b), some cs, some (.int (h : Int)), some (.int (k : Int)), some (.int d), some (.int (g : Int)), some (.ref h0.length), none, none, none, none, none, none], j1) := by
    have e := ej1.symm
    simp -implicitDefEqProofs [SF, S12_law_own_sums, e]
  have f1 : Fnd b c h0 h0.length j1 0 := by
    rw [ej1]
    exact ⟨q0.keep _, [], List.getElem?_concat_length .., fun v hv => absurd hv List.not_mem_nil, Nat.le_refl _⟩
  have hF := Nat.le_refl h0.length
  obtain ⟨a, bb, tn, fs, j2, eH, kH, a0, a1, b0, b1, t0, t1⟩ := sums_head q0 f1.keep C cs (.ref h0.length) none none none
  have f2 := f1.go q0 hF kH
  obtain ⟨kq, hkq⟩ : ∃ kq, kq = (k : Int).fdiv (g : Int) := ⟨_, rfl⟩
  obtain ⟨hq, hhq⟩ : ∃ hq, hq = (h : Int).fdiv (g : Int) := ⟨_, rfl⟩
  obtain ⟨dk, hdk⟩ : ∃ dk, dk = d.fdiv (k : Int) := ⟨_, rfl⟩
  obtain ⟨dh, hdh⟩ : ∃ dh, dh = d.fdiv (h : Int) := ⟨_, rfl⟩
  have og : divOk (g : Int) = true := divOk_small (by omega) (by omega)
  have ok : divOk (k : Int) = true := divOk_small (by omega) (by omega)
  have oh : divOk (h : Int) = true := divOk_small (by omega) (by omega)
  have vkq := fun hp => aFdv_i (i := (k : Int)) (j := (g : Int)) (h := hp) og
  have vhq := fun hp => aFdv_i (i := (h : Int)) (j := (g : Int)) (h := hp) og
  have vdk := fun hp => aFdv_i (i := d) (j := (k : Int)) (h := hp) ok
  have vdh := fun hp => aFdv_i (i := d) (j := (h : Int)) (h := hp) oh
  obtain ⟨kq0, kq1, _⟩ := fdiv_bnd (a := (k : Int)) (n := g) g0 (by omega)
  obtain ⟨hq0, hq1, _⟩ := fdiv_bnd (a := (h : Int)) (n := g) g0 (by omega)
  obtain ⟨dk0, dk1, _⟩ := fdiv_bnd (a := d) (n := k) k0 d0
  obtain ⟨dh0, dh1, _⟩ := fdiv_bnd (a := d) (n := h) h0' d0
  rw [← hkq] at vkq kq0 kq1
  rw [← hhq] at vhq hq0 hq1
  rw [← hdk] at vdk dk0 dk1
  rw [← hdh] at vdh dh0 dh1
  have m1 : mulOk tn kq = true := mul_sm (by omega) (by omega)
  have m2 : mulOk tn hq = true := mul_sm (by omega) (by omega)
  obtain ⟨tk, htk⟩ : ∃ tk, tk = tn * kq := ⟨_, rfl⟩
  obtain ⟨th, hth⟩ : ∃ th, th = tn * hq := ⟨_, rfl⟩
  have tk0 : 0 ≤ tk := by rw [htk]; exact Int.mul_nonneg t0 kq0
  have tk1 : tk ≤ 1000000 * 60 := by rw [htk]; exact Int.mul_le_mul t1 (by omega) kq0 (by decide)
  have th0 : 0 ≤ th := by rw [hth]; exact Int.mul_nonneg t0 hq0
  have th1 : th ≤ 1000000 * 60 := by rw [hth]; exact Int.mul_le_mul t1 (by omega) hq0 (by decide)
  have mb2 : (1000000 * 60 : Int) ≤ MAXN := by decide
  -- the four pairs
  obtain ⟨xs, hxs⟩ : ∃ xs : List (Int × Int), xs = [(a, bb), (a + tk, bb - th), (0, dk), (dh, 0)] := ⟨_, rfl⟩
  obtain ⟨j3, ej3⟩ : ∃ j, j = j2 ++ [.lst (xs.map pD)] := ⟨_, rfl⟩
  have g3 : Grow j2 j3 := by rw [ej3]; exact .new _ _
  have f3 := f2.go q0 hF (f2.keep.bag.grow g3)
  have c3 : j3[j2.length]? = some (.lst (xs.map pD)) := by rw [ej3]; exact List.getElem?_concat_length ..
  have hM : h0.length ≤ j2.length := f2.keep.le
  have hMF : j2.length ≠ h0.length := by
    have := f1.keep.le
    have := kH.le
    rw [ej1] at this
    simp at this
    omega
  have hit : (vIt (vLst (vCons (vTup (vCons (vVar 8) (vCons (vVar 9) vNil))) (vCons (vTup (vCons (vOp dAdd (vVar 8) (vOp dMul (vVar 10) (vOp aFdv (vVar 3) (vVar 5)))) (vCons (vOp aSub (vVar 9) (vOp dMul (vVar 10) (vOp aFdv (vVar 2) (vVar 5)))) vNil))) (vCons (vTup (vCons (vC (.int 0)) (vCons (vOp aFdv (vVar 4) (vVar 3)) vNil))) (vCons (vTup (vCons (vOp aFdv (vVar 4) (vVar 2)) (vCons (vC (.int 0)) vNil))) vNil)))))) [some (.ref b), some cs, some (.int (h : Int)), some (.int (k : Int)), some (.int d), some (.int (g : Int)), some (.ref h0.length), some fs, some (.int a), some (.int bb), some (.int tn), none, none] j2 = .ok (fun hp => lk hp j2.length, j3) := by
    have ex : xs.map pD = [.tup [.int a, .int bb], .tup [.int (a + tk), .int (bb - th)], .tup [.int 0, .int dk], .tup [.int dh, .int 0]] := by rw [hxs]; rfl
    have em1 := dMul_i (h := j2) m1
    have em2 := dMul_i (h := j2) m2
    rw [← htk] at em1
    rw [← hth] at em2
    unfold vIt
    rw [vLst_okR (h1 := j2) (ds := [.tup [.int a, .int bb], .tup [.int (a + tk), .int (bb - th)], .tup [.int 0, .int dk], .tup [.int dh, .int 0]]) (by simp -implicitDefEqProofs [vkq, vhq, vdk, vdh, em1, em2]) (by simp)]
    rw [ej3, ex]
    rfl
  obtain ⟨s', j4, eL0, ⟨a11, a12, rfl⟩, f4, c4⟩ := for_all (g := gP (pTup 2 (psCons (pN 11) (psCons (pN 12) psNil)))) (body := SF B1_law_own_sums) (xs := xs.map pD) (fun i s h' => (∃ a11 a12, s = [some (.ref b), some cs, some (.int (h : Int)), some (.int (k : Int)), some (.int d), some (.int (g : Int)), some (.ref h0.length), some fs, some (.int a), some (.int bb), some (.int tn), a11, a12]) ∧ Fnd b c h0 h0.length h' (90 * i) ∧ h'[j2.length]? = some (.lst (xs.map pD))) hit (fun _ _ h' I => lk_of I.2.2) ⟨⟨_, _, rfl⟩, f3, c3⟩ (by
    rintro i x s h' ed ⟨⟨a11, a12, rfl⟩, f, cM⟩
    have hi : i < 4 := by
      have := (List.getElem?_eq_some_iff.mp ed).1
      rw [List.length_map, hxs] at this
      exact this
    obtain ⟨p, hp, rfl⟩ := List.mem_map.mp (List.mem_of_getElem? ed)
    have bp : -(100 * MAXN) ≤ p.1 ∧ p.1 ≤ 100 * MAXN ∧ -(100 * MAXN) ≤ p.2 ∧ p.2 ≤ 100 * MAXN := by
      rw [hxs] at hp
      simp only [List.mem_cons, List.not_mem_nil, or_false] at hp
      rcases hp with rfl | rfl | rfl | rfl <;> simp only <;> omega
    obtain ⟨h2, e, f', keep⟩ := sums_turn q0 hF f (by omega) bp.1 bp.2.1 bp.2.2.1 bp.2.2.2 (some (.ref b)) (some cs) (some (.int (h : Int))) (some (.int (k : Int))) (some (.int d)) (some (.int (g : Int))) (some fs) (some (.int a)) (some (.int bb)) (some (.int tn))
    refine ⟨_, h2, .inl (by rw [show pD p = .tup [.int p.1, .int p.2] from rfl, turn_of rfl]; exact e), ⟨_, _, rfl⟩, f'.le (by omega), keep _ _ hM hMF cM⟩)
  have eL : SF L1_law_own_sums [some (.ref b), some cs, some (.int (h : Int)), some (.int (k : Int)), some (.int d), some (.int (g : Int)), some (.ref h0.length), some fs, some (.int a), some (.int bb), some (.int tn), none, none] j2 = _ := eL0
  have l4 : (xs.map pD).length = 4 := by rw [hxs]; rfl
  rw [l4] at f4
  -- the others
  obtain ⟨sl, hsl⟩ : ∃ sl : VS, sl = [some (.ref b), some cs, some (.int (h : Int)), some (.int (k : Int)), some (.int d), some (.int (g : Int)), some (.ref h0.length), some fs, some (.int a), some (.int bb), some (.int tn), a11, a12] := ⟨_, rfl⟩
  have s6 : sl[6]? = some (some (.ref h0.length)) := by rw [hsl]; rfl
  have w1 := w_int (i := a) a0 (by omega)
  have bs := fun hp => bStr_i (i := a) (lgs (by omega) (by omega)) hp
  obtain ⟨j7, e7, f7, _⟩ : ∃ h', SF S7_law_own_sums sl j4 = .ok (.nx, sl, h') ∧ Fnd b c h0 h0.length h' (90 * 4 + 120) ∧ _ := f4.step q0 hF (i := 6) (vals := [.tup [.str wS, .tup [.int bb, .int a]], .tup [.str wS, .tup [.int (a + kq), .int bb]], .tup [.str wS, .tup [.int a, .int (bb + hq)]], .tup [.str wS, .tup [.int 0, .int 0]]]) (h1 := j4) s6 (by rw [hsl]; simp -implicitDefEqProofs [vkq, vhq]) (.refl f4.keep.bag) (by
    intro v hv
    simp only [List.mem_cons, List.not_mem_nil, or_false] at hv
    rcases hv with rfl | rfl | rfl | rfl <;> (exact vr_pure (pv_of (by (simp only [okD, okDs, w_sum, w_ab, w_sums, w_Sum, w_rest, w_Rest, w_nil, w_over, w_Over, w_overs, true_and, and_true] <;> and_intros <;> first | assumption | exact HUGE_log | exact lgs (by omega) (by omega))) (Nat.le_of_ble_eq_true rfl) (Nat.le_of_ble_eq_true rfl)) rfl rfl)) (Nat.le_refl _) (by decide) (by decide)
  obtain ⟨j6, e6, f6, _⟩ : ∃ h', SF S6_law_own_sums sl j7 = .ok (.nx, sl, h') ∧ Fnd b c h0 h0.length h' (90 * 4 + 120 + 120) ∧ _ := f7.step q0 hF (i := 6) (vals := [.tup [.str wS, .tup [.int (a + k), .int (bb - h)]], .tup [.str wS, .tup [.int (a - k), .int (bb + h)]], .tup [.str wS, .tup [.int a, .int (bb - 1)]], .tup [.str wS, .tup [.int (-1), .int bb]]]) (h1 := j7) s6 (by rw [hsl]; simp -implicitDefEqProofs) (.refl f7.keep.bag) (by
    intro v hv
    simp only [List.mem_cons, List.not_mem_nil, or_false] at hv
    rcases hv with rfl | rfl | rfl | rfl <;> (exact vr_pure (pv_of (by (simp only [okD, okDs, w_sum, w_ab, w_sums, w_Sum, w_rest, w_Rest, w_nil, w_over, w_Over, w_overs, true_and, and_true] <;> and_intros <;> first | assumption | exact HUGE_log | exact lgs (by omega) (by omega))) (Nat.le_of_ble_eq_true rfl) (Nat.le_of_ble_eq_true rfl)) rfl rfl)) (Nat.le_refl _) (by decide) (by decide)
  obtain ⟨j5, e5, f5, _⟩ : ∃ h', SF S5_law_own_sums sl j6 = .ok (.nx, sl, h') ∧ Fnd b c h0 h0.length h' (90 * 4 + 120 + 120 + 90) ∧ _ := f6.step q0 hF (i := 6) (vals := [.tup [.str wS, .tup [.int MAXN, .int 0]], .tup [.str wS, .tup [.int 0, .int MAXN]], .tup [.str wS, .tup [.int (MAXN + 1), .int bb]]]) (h1 := j6) s6 (by
    have p30 := pow30 j6
    rw [hsl]
    generalize MAXN = mm at *
    simp -implicitDefEqProofs [p30]) (.refl f6.keep.bag) (by
    intro v hv
    simp only [List.mem_cons, List.not_mem_nil, or_false] at hv
    rcases hv with rfl | rfl | rfl <;> (exact vr_pure (pv_of (by (simp only [okD, okDs, w_sum, w_ab, w_sums, w_Sum, w_rest, w_Rest, w_nil, w_over, w_Over, w_overs, true_and, and_true] <;> and_intros <;> first | assumption | exact HUGE_log | exact lgs (by omega) (by omega))) (Nat.le_of_ble_eq_true rfl) (Nat.le_of_ble_eq_true rfl)) rfl rfl)) (Nat.le_refl _) (by decide) (by decide)
  obtain ⟨j4', e4, f4', _⟩ : ∃ h', SF S4_law_own_sums sl j5 = .ok (.nx, sl, h') ∧ Fnd b c h0 h0.length h' (90 * 4 + 120 + 120 + 90 + 90) ∧ _ := f5.step q0 hF (i := 6) (vals := [.tup [.str wS, .tup [.int a, .int (MAXN + 1)]], .tup [.str wS, .tup [.int MAXN, .int MAXN]], .tup [.str wS, .tup [.int HUGE, .int bb]]]) (h1 := j5) s6 (by
    have p30 := pow30 j5
    have p55 := pow55 j5
    have pH := powHuge j5
    rw [hsl]
    generalize MAXN = mm at *
    generalize HUGE = hu at *
    generalize P55 = p5 at *
    simp -implicitDefEqProofs [p30, p55, pH]) (.refl f5.keep.bag) (by
    intro v hv
    simp only [List.mem_cons, List.not_mem_nil, or_false] at hv
    rcases hv with rfl | rfl | rfl <;> (exact vr_pure (pv_of (by (simp only [okD, okDs, w_sum, w_ab, w_sums, w_Sum, w_rest, w_Rest, w_nil, w_over, w_Over, w_overs, true_and, and_true] <;> and_intros <;> first | assumption | exact HUGE_log | exact lgs (by omega) (by omega))) (Nat.le_of_ble_eq_true rfl) (Nat.le_of_ble_eq_true rfl)) rfl rfl)) (Nat.le_refl _) (by decide) (by decide)
  obtain ⟨j3', e3, f3', _⟩ : ∃ h', SF S3_law_own_sums sl j4' = .ok (.nx, sl, h') ∧ Fnd b c h0 h0.length h' (90 * 4 + 120 + 120 + 90 + 90 + 180) ∧ _ := f4'.step q0 hF (i := 6) (vals := [.tup [.str wS, .tup [.int a]], .tup [.str wS, .tup [.int a, .int bb, .int 0]], .tup [.str wS, .tup []], .tup [.str wS, .int a], .tup [.str wS, .int d], .tup [.str wS, .tup [.int a, .non]]]) (h1 := j4') s6 (by rw [hsl]; simp -implicitDefEqProofs) (.refl f4'.keep.bag) (by
    intro v hv
    simp only [List.mem_cons, List.not_mem_nil, or_false] at hv
    rcases hv with rfl | rfl | rfl | rfl | rfl | rfl <;> (exact vr_pure (pv_of (by (simp only [okD, okDs, w_sum, w_ab, w_sums, w_Sum, w_rest, w_Rest, w_nil, w_over, w_Over, w_overs, true_and, and_true] <;> and_intros <;> first | assumption | exact HUGE_log | exact lgs (by omega) (by omega))) (Nat.le_of_ble_eq_true rfl) (Nat.le_of_ble_eq_true rfl)) rfl rfl)) (Nat.le_refl _) (by decide) (by decide)
  obtain ⟨i2, ei2⟩ : ∃ j, j = j3' ++ [.lst [.int a, .int bb]] := ⟨_, rfl⟩
  have ki2 : Keep b c j3' i2 := by rw [ei2]; exact f3'.keep.bag.keep _
  have ci2 : i2[j3'.length]? = some (.lst [.int a, .int bb]) := by rw [ei2]; exact List.getElem?_concat_length ..
  have lt3 : h0.length < j3'.length := by
    obtain ⟨L, e, _⟩ := f3'.ex
    exact lt_of_get e
  have pab : ∀ x ∈ [D.int a, .int bb], Pv x := by
    intro v hv
    simp only [List.mem_cons, List.not_mem_nil, or_false] at hv
    rcases hv with rfl | rfl <;> (exact pv_of (by (simp only [okD, okDs, w_sum, w_ab, w_sums, w_Sum, w_rest, w_Rest, w_nil, w_over, w_Over, w_overs, true_and, and_true] <;> and_intros <;> first | assumption | exact HUGE_log | exact lgs (by omega) (by omega))) (Nat.le_of_ble_eq_true rfl) (Nat.le_of_ble_eq_true rfl))
  obtain ⟨j2', e2, f2', _⟩ : ∃ h', SF S2_law_own_sums sl j3' = .ok (.nx, sl, h') ∧ Fnd b c h0 h0.length h' (90 * 4 + 120 + 120 + 90 + 90 + 180 + 140) ∧ _ := f3'.step q0 hF (i := 6) (vals := [.tup [.str wS, .ref j3'.length], .tup [.str wS, .tup [.bl true, .int bb]]]) (h1 := i2) s6 (by
    rw [hsl]
    have := ei2.symm
    simp -implicitDefEqProofs [this]) ki2 (by
    intro v hv
    simp only [List.mem_cons, List.not_mem_nil, or_false] at hv
    rcases hv with rfl | rfl
    · exact vr_wref lt3 ci2 pab (Nat.le_of_ble_eq_true rfl) w_sum.1 w_sum.2
    · (exact vr_pure (pv_of (by (simp only [okD, okDs, w_sum, w_ab, w_sums, w_Sum, w_rest, w_Rest, w_nil, w_over, w_Over, w_overs, true_and, and_true] <;> and_intros <;> first | assumption | exact HUGE_log | exact lgs (by omega) (by omega))) (Nat.le_of_ble_eq_true rfl) (Nat.le_of_ble_eq_true rfl)) rfl rfl)) (Nat.le_refl _) (by decide) (by decide)
  obtain ⟨j1', e1, f1', _⟩ : ∃ h', SF S1_law_own_sums sl j2' = .ok (.nx, sl, h') ∧ Fnd b c h0 h0.length h' (90 * 4 + 120 + 120 + 90 + 90 + 180 + 140 + 150) ∧ _ := f2'.step q0 hF (i := 6) (vals := [.tup [.str wS, .tup [.int a, .bl false]], .tup [.str wS, .tup [.str (toString a), .int bb]], .tup [.str wS, .tup [.tup [.int a], .int bb]], .tup [.str wS, .non], .tup [.str wS, .str (Str.ofString "ab")]]) (h1 := j2') s6 (by rw [hsl]; simp -implicitDefEqProofs [bs]) (.refl f2'.keep.bag) (by
    have w11 := w1.1
    have w12 := w1.2
    intro v hv
    simp only [List.mem_cons, List.not_mem_nil, or_false] at hv
    rcases hv with rfl | rfl | rfl | rfl | rfl <;> (exact vr_pure (pv_of (by (simp only [okD, okDs, w_sum, w_ab, w_sums, w_Sum, w_rest, w_Rest, w_nil, w_over, w_Over, w_overs, true_and, and_true] <;> and_intros <;> first | assumption | exact HUGE_log | exact lgs (by omega) (by omega))) (Nat.le_of_ble_eq_true rfl) (Nat.le_of_ble_eq_true rfl)) rfl rfl)) (Nat.le_refl _) (by decide) (by decide)
  obtain ⟨i0, ei0⟩ : ∃ j, j = j1' ++ [.lst [.str wS, .tup [.int a, .int bb]]] := ⟨_, rfl⟩
  have ki0 : Keep b c j1' i0 := by rw [ei0]; exact f1'.keep.bag.keep _
  have ci0 : i0[j1'.length]? = some (.lst [.str wS, .tup [.int a, .int bb]]) := by rw [ei0]; exact List.getElem?_concat_length ..
  have lt1 : h0.length < j1'.length := by
    obtain ⟨L, e, _⟩ := f1'.ex
    exact lt_of_get e
  have psb : ∀ x ∈ [D.str wS, .tup [.int a, .int bb]], Pv x := by
    intro v hv
    simp only [List.mem_cons, List.not_mem_nil, or_false] at hv
    rcases hv with rfl | rfl <;> (exact pv_of (by (simp only [okD, okDs, w_sum, w_ab, w_sums, w_Sum, w_rest, w_Rest, w_nil, w_over, w_Over, w_overs, true_and, and_true] <;> and_intros <;> first | assumption | exact HUGE_log | exact lgs (by omega) (by omega))) (Nat.le_of_ble_eq_true rfl) (Nat.le_of_ble_eq_true rfl))
  obtain ⟨P, j0, e0, f0⟩ := f1'.last q0 hF (i := 6) (args := vCons (vLst (vCons (vC (.str (Str.ofString "sum"))) (vCons (vTup (vCons (vVar 8) (vCons (vVar 9) vNil))) vNil))) (vCons (vTup (vCons (vC (.str (Str.ofString "sums"))) (vCons (vTup (vCons (vVar 8) (vCons (vVar 9) vNil))) vNil))) (vCons (vTup (vCons (vC (.str (Str.ofString "sum"))) (vCons (vTup (vCons (vVar 8) (vCons (vVar 9) vNil))) (vCons (vC (.int 0)) vNil)))) (vCons (vTup (vCons (vC (.str (Str.ofString "sum"))) (vCons (vVar 8) (vCons (vVar 9) vNil)))) (vCons (vTup (vCons (vC (.str (Str.ofString "Sum"))) (vCons (vTup (vCons (vVar 8) (vCons (vVar 9) vNil))) vNil))) (vCons (vTup (vCons (vVar 8) (vCons (vVar 9) vNil))) vNil)))))) (s := sl) (k := 260) (vals := [.ref j1'.length, .tup [.str (Str.ofString "sums"), .tup [.int a, .int bb]], .tup [.str wS, .tup [.int a, .int bb], .int 0], .tup [.str wS, .int a, .int bb], .tup [.str (Str.ofString "Sum"), .tup [.int a, .int bb]], .tup [.int a, .int bb]]) (h1 := i0) s6 (by
    rw [hsl]
    have := ei0.symm
    simp -implicitDefEqProofs [this]) ki0 (by
    intro v hv
    simp only [List.mem_cons, List.not_mem_nil, or_false] at hv
    rcases hv with rfl | rfl | rfl | rfl | rfl | rfl
    · exact vr_ref lt1 ci0 psb (Nat.le_of_ble_eq_true rfl)
    · (exact vr_pure (pv_of (by (simp only [okD, okDs, w_sum, w_ab, w_sums, w_Sum, w_rest, w_Rest, w_nil, w_over, w_Over, w_overs, true_and, and_true] <;> and_intros <;> first | assumption | exact HUGE_log | exact lgs (by omega) (by omega))) (Nat.le_of_ble_eq_true rfl) (Nat.le_of_ble_eq_true rfl)) rfl rfl)
    · (exact vr_pure (pv_of (by (simp only [okD, okDs, w_sum, w_ab, w_sums, w_Sum, w_rest, w_Rest, w_nil, w_over, w_Over, w_overs, true_and, and_true] <;> and_intros <;> first | assumption | exact HUGE_log | exact lgs (by omega) (by omega))) (Nat.le_of_ble_eq_true rfl) (Nat.le_of_ble_eq_true rfl)) rfl rfl)
    · (exact vr_pure (pv_of (by (simp only [okD, okDs, w_sum, w_ab, w_sums, w_Sum, w_rest, w_Rest, w_nil, w_over, w_Over, w_overs, true_and, and_true] <;> and_intros <;> first | assumption | exact HUGE_log | exact lgs (by omega) (by omega))) (Nat.le_of_ble_eq_true rfl) (Nat.le_of_ble_eq_true rfl)) rfl rfl)
    · (exact vr_pure (pv_of (by (simp only [okD, okDs, w_sum, w_ab, w_sums, w_Sum, w_rest, w_Rest, w_nil, w_over, w_Over, w_overs, true_and, and_true] <;> and_intros <;> first | assumption | exact HUGE_log | exact lgs (by omega) (by omega))) (Nat.le_of_ble_eq_true rfl) (Nat.le_of_ble_eq_true rfl)) rfl rfl)
    · (exact vr_pure (pv_of (by (simp only [okD, okDs, w_sum, w_ab, w_sums, w_Sum, w_rest, w_Rest, w_nil, w_over, w_Over, w_overs, true_and, and_true] <;> and_intros <;> first | assumption | exact HUGE_log | exact lgs (by omega) (by omega))) (Nat.le_of_ble_eq_true rfl) (Nat.le_of_ble_eq_true rfl)) rfl rfl)) (Nat.le_refl _) (by decide) (by decide)
  refine ⟨P, j0, mF_rt (s' := sl) ?_, f0⟩
  rw [← hcs]
  show SF m_law_own_sums [some (.ref b), some cs, none, none, none, none, none, none, none, none, none, none, none] h0 = _
  rw [← hsl] at eL
  simp only [SF] at *
  unfold m_law_own_sums
  rw [seq_nx e13, seq_nx e12]
  have eHH : ∀ r : VSt, vSeq (S11_law_own_sums F_law_draw) (vSeq (S10_law_own_sums F_law_draw) (vSeq (S9_law_own_sums F_law_draw) (vSeq (S8_law_own_sums F_law_draw) r))) [some (.ref b), some cs, some (.int (h : Int)), some (.int (k : Int)), some (.int d), some (.int (g : Int)), some (.ref h0.length), none, none, none, none, none, none] j1 = r [some (.ref b), some cs, some (.int (h : Int)), some (.int (k : Int)), some (.int d), some (.int (g : Int)), some (.ref h0.length), some fs, some (.int a), some (.int bb), some (.int tn), none, none] j2 := fun r => by
    have z := seq_nx (g := r) eH
    simp only [seq_assocF] at z
    exact z
  rw [eHH, seq_nx eL, seq_nx e7, seq_nx e6, seq_nx e5, seq_nx e4, seq_nx e3, seq_nx e2, seq_nx e1, e0]
end K35

namespace K35
open PySem Vq
abbrev RSF {α : Type} (f : Fn → Fn → α) : α := f F_law_draw F_law_divisors
theorem dv_len (h k : Nat) : (dv h k).length ≤ min h k := by
  unfold dv
  rw [List.length_map]
  refine Nat.le_trans (List.length_filter_le _ _) ?_
  rw [List.length_range]
  exact Nat.le_refl _
theorem dv_le {h k g : Nat} (h0 : 0 < h) (m : g ∈ dv h k) : 1 ≤ g ∧ g ≤ h := by
  obtain ⟨a, b, _⟩ := dv_mem m
  exact ⟨a, Nat.le_of_dvd h0 b⟩
theorem s_own_rests {b c : Nat} {h0 : VH} (q0 : Hb b c h0) {h k g : Nat} {d : Int} (C : Case h k d g) : ∃ P h', F_law_own_rests [.ref b, .tup [.int (h : Int), .int (k : Int), .int d, .int (g : Int)]] h0 = .ok (.ref P, h') ∧ Found b c h0 P h' 2830 := by
  have mb : (1000000 : Int) ≤ MAXN := by decide
  have C' := C
  obtain ⟨h0', h1', k0, k1, d0, d1, g0, g1, gh, gk, eg⟩ := C'
  obtain ⟨cs, hcs⟩ : ∃ cs : D, cs = .tup [.int (h : Int), .int (k : Int), .int d, .int (g : Int)] := ⟨_, rfl⟩
  have e8 : RSF S8_law_own_rests [some (.ref b), some cs, none, none, none, none, none, none] h0 = .ok (.nx, [some (.ref b), some cs, some (.int (h : Int)), some (.int (k : Int)), some (.int d), some (.int (g : Int)), none, none], h0) := by
    rw [hcs]
    simp -implicitDefEqProofs [RSF, S8_law_own_rests]
  have xd := x_divisors (h := h) (k := k) (by omega) (by omega) h0
  obtain ⟨i1, ei1⟩ : ∃ i, i = h0 ++ [.lst (intsN (dv h k))] := ⟨_, rfl⟩
  rw [← ei1] at xd
  have li : lk i1 h0.length = some (intsN (dv h k)) := by rw [ei1]; exact lk_at _ _ []
  obtain ⟨F, hFe⟩ : ∃ F, F = i1.length := ⟨_, rfl⟩
  have hF : h0.length ≤ F := by rw [hFe, ei1]; simp
  obtain ⟨L0, hL0⟩ : ∃ L0 : List D, L0 = (dv h k).map fun (g : Nat) => D.tup [.str wR, .int (g : Int)] := ⟨_, rfl⟩
  have c1 : RSF C1_law_own_rests [some (.ref b), some cs, some (.int (h : Int)), some (.int (k : Int)), some (.int d), some (.int (g : Int)), none, none] h0 = .ok (.ref i1.length, i1 ++ [.lst L0]) := by
    show C1_law_own_rests _ _ _ h0 = _
    unfold C1_law_own_rests
    rw [lc_lst (h1 := i1) (n := h0.length) (ys := dv h k) (c := fun (g : Nat) => D.int (g : Int)) (fun _ => true) (fun (g : Nat) => .tup [.str wR, .int (g : Int)]) (by simp [xd]) li (by have := dv_len h k; omega) (by
      intro g hg acc
      refine ⟨_, rfl, rfl, fun _ => ?_⟩
      simp -implicitDefEqProofs [E1_law_own_rests, vwipe])]
    simp only [List.filter_eq_self.mpr (fun _ _ => rfl)]
    rw [hL0]
  obtain ⟨j1, ej1⟩ : ∃ j, j = i1 ++ [.lst L0] := ⟨_, rfl⟩
  rw [← ej1, ← hFe] at c1
  have e7 : RSF S7_law_own_rests [some (.ref b), some cs, some (.int (h : Int)), some (.int (k : Int)), some (.int d), some (.int (g : Int)), none, none] h0 = .ok (.nx, [some (.ref b), some cs, some (.int (h : Int)), some (.int (k : Int)), some (.int d), some (.int (g : Int)), some (.ref F), none], j1) := by
    simp only [RSF] at c1
    simp -implicitDefEqProofs [RSF, S7_law_own_rests, c1]
  have f7 : Fnd b c h0 F j1 1800 := by
    refine ⟨by rw [ej1, ei1]; exact (q0.keep _).app _, L0, by rw [ej1, hFe]; exact List.getElem?_concat_length .., fun v hv => ?_, ?_⟩
    · rw [hL0] at hv
      obtain ⟨y, hy, rfl⟩ := List.mem_map.mp hv
      have := dv_le h0' hy
      (exact vr_pure (pv_of (by (simp only [okD, okDs, w_sum, w_ab, w_sums, w_Sum, w_rest, w_Rest, w_nil, w_over, w_Over, w_overs, true_and, and_true] <;> and_intros <;> first | assumption | exact HUGE_log | exact lgs (by omega) (by omega))) (Nat.le_of_ble_eq_true rfl) (Nat.le_of_ble_eq_true rfl)) rfl rfl)
    · have e : ∀ l : List Nat, ((l.map fun (g : Nat) => D.tup [.str wR, .int (g : Int)]).map wt).sum = 30 * l.length := fun l => by
        induction l with
        | nil => rfl
        | cons x r ih =>
          rw [List.map_cons, List.map_cons, List.sum_cons, ih, List.length_cons]
          show 30 + _ = _
          omega
      rw [hL0, e]
      have := dv_len h k
      omega
  obtain ⟨sl, hsl⟩ : ∃ sl : VS, sl = [some (.ref b), some cs, some (.int (h : Int)), some (.int (k : Int)), some (.int d), some (.int (g : Int)), some (.ref F), none] := ⟨_, rfl⟩
  have s6 : sl[6]? = some (some (.ref F)) := by rw [hsl]; rfl
  have w1 := w_int (i := (g : Int)) (by omega) (by omega)
  have bs := fun hp => bStr_i (i := (g : Int)) (lgs (by omega) (by omega)) hp
  have mg : mulOk (g : Int) 2 = true := mul_sm (by omega) (by omega)
  obtain ⟨j6, e6, f6, _⟩ : ∃ h', RSF S6_law_own_rests sl j1 = .ok (.nx, sl, h') ∧ Fnd b c h0 F h' (1800 + 180) ∧ _ := f7.step q0 hF (i := 6) (vals := [.tup [.str wR, .int h], .tup [.str wR, .int k], .tup [.str wR, .int d], .tup [.str wR, .int ((g : Int) + 1)], .tup [.str wR, .int 2], .tup [.str wR, .int ((g : Int) * 2)]]) (h1 := j1) s6 (by rw [hsl]; simp -implicitDefEqProofs [dMul_i mg]) (.refl f7.keep.bag) (by
    intro v hv
    simp only [List.mem_cons, List.not_mem_nil, or_false] at hv
    rcases hv with rfl | rfl | rfl | rfl | rfl | rfl <;> (exact vr_pure (pv_of (by (simp only [okD, okDs, w_sum, w_ab, w_sums, w_Sum, w_rest, w_Rest, w_nil, w_over, w_Over, w_overs, true_and, and_true] <;> and_intros <;> first | assumption | exact HUGE_log | exact lgs (by omega) (by omega))) (Nat.le_of_ble_eq_true rfl) (Nat.le_of_ble_eq_true rfl)) rfl rfl)) (Nat.le_refl _) (by decide) (by decide)
  obtain ⟨y1, i2, e21, y10, y11, ka⟩ := s_drawS f6.keep.bag (n := 60) (by decide) (by decide)
  obtain ⟨y2, i3, e22, y20, y21, kb⟩ := s_drawS ka.bag (n := 60) (by decide) (by decide)
  obtain ⟨j5, e5, f5, _⟩ : ∃ h', RSF S5_law_own_rests sl j6 = .ok (.nx, sl, h') ∧ Fnd b c h0 F h' (1800 + 180 + 90) ∧ _ := f6.step q0 hF (i := 6) (vals := [.tup [.str wR, .int (1 + y1)], .tup [.str wR, .int (1 + y2)], .tup [.str wR, .int 61]]) (h1 := i3) s6 (by rw [hsl]; simp -implicitDefEqProofs [e21, e22]) (ka.trans kb) (by
    intro v hv
    simp only [List.mem_cons, List.not_mem_nil, or_false] at hv
    rcases hv with rfl | rfl | rfl <;> (exact vr_pure (pv_of (by (simp only [okD, okDs, w_sum, w_ab, w_sums, w_Sum, w_rest, w_Rest, w_nil, w_over, w_Over, w_overs, true_and, and_true] <;> and_intros <;> first | assumption | exact HUGE_log | exact lgs (by omega) (by omega))) (Nat.le_of_ble_eq_true rfl) (Nat.le_of_ble_eq_true rfl)) rfl rfl)) (Nat.le_refl _) (by decide) (by decide)
  obtain ⟨j4, e4, f4, _⟩ : ∃ h', RSF S4_law_own_rests sl j5 = .ok (.nx, sl, h') ∧ Fnd b c h0 F h' (1800 + 180 + 90 + 120) ∧ _ := f5.step q0 hF (i := 6) (vals := [.tup [.str wR, .int MAXN], .tup [.str wR, .int (MAXN + 1)], .tup [.str wR, .int HUGE], .tup [.str wR, .int 0]]) (h1 := j5) s6 (by
    have p30 := pow30 j5
    have p55 := pow55 j5
    have pH := powHuge j5
    rw [hsl]
    generalize MAXN = mm at *
    generalize HUGE = hu at *
    generalize P55 = p5 at *
    simp -implicitDefEqProofs [p30, p55, pH]) (.refl f5.keep.bag) (by
    intro v hv
    simp only [List.mem_cons, List.not_mem_nil, or_false] at hv
    rcases hv with rfl | rfl | rfl | rfl <;> (exact vr_pure (pv_of (by (simp only [okD, okDs, w_sum, w_ab, w_sums, w_Sum, w_rest, w_Rest, w_nil, w_over, w_Over, w_overs, true_and, and_true] <;> and_intros <;> first | assumption | exact HUGE_log | exact lgs (by omega) (by omega))) (Nat.le_of_ble_eq_true rfl) (Nat.le_of_ble_eq_true rfl)) rfl rfl)) (Nat.le_refl _) (by decide) (by decide)
  obtain ⟨j3, e3, f3, _⟩ : ∃ h', RSF S3_law_own_rests sl j4 = .ok (.nx, sl, h') ∧ Fnd b c h0 F h' (1800 + 180 + 90 + 120 + 150) ∧ _ := f4.step q0 hF (i := 6) (vals := [.tup [.str wR, .int (-1)], .tup [.str wR, .int (-(g : Int))], .tup [.str wR, .bl true], .tup [.str wR, .bl false], .tup [.str wR, .non]]) (h1 := j4) s6 (by rw [hsl]; simp -implicitDefEqProofs) (.refl f4.keep.bag) (by
    intro v hv
    simp only [List.mem_cons, List.not_mem_nil, or_false] at hv
    rcases hv with rfl | rfl | rfl | rfl | rfl <;> (exact vr_pure (pv_of (by (simp only [okD, okDs, w_sum, w_ab, w_sums, w_Sum, w_rest, w_Rest, w_nil, w_over, w_Over, w_overs, true_and, and_true] <;> and_intros <;> first | assumption | exact HUGE_log | exact lgs (by omega) (by omega))) (Nat.le_of_ble_eq_true rfl) (Nat.le_of_ble_eq_true rfl)) rfl rfl)) (Nat.le_refl _) (by decide) (by decide)
  have flt : ∀ {hp : VH} {N : Nat}, Fnd b c h0 F hp N → F < hp.length := fun f => by
    obtain ⟨L, e, _⟩ := f.ex
    exact lt_of_get e
  obtain ⟨i4, ei4⟩ : ∃ j, j = j3 ++ [.lst [.int (g : Int)]] := ⟨_, rfl⟩
  have ki4 : Keep b c j3 i4 := by rw [ei4]; exact f3.keep.bag.keep _
  have ci4 : i4[j3.length]? = some (.lst [.int (g : Int)]) := by rw [ei4]; exact List.getElem?_concat_length ..
  have p4 : ∀ x ∈ [D.int (g : Int)], Pv x := by
    intro v hv
    simp only [List.mem_cons, List.not_mem_nil, or_false] at hv
    rcases hv with rfl
    (exact pv_of (by (simp only [okD, okDs, w_sum, w_ab, w_sums, w_Sum, w_rest, w_Rest, w_nil, w_over, w_Over, w_overs, true_and, and_true] <;> and_intros <;> first | assumption | exact HUGE_log | exact lgs (by omega) (by omega))) (Nat.le_of_ble_eq_true rfl) (Nat.le_of_ble_eq_true rfl))
  obtain ⟨j2, e2, f2, _⟩ : ∃ h', RSF S2_law_own_rests sl j3 = .ok (.nx, sl, h') ∧ Fnd b c h0 F h' (1800 + 180 + 90 + 120 + 150 + 230) ∧ _ := f3.step q0 hF (i := 6) (vals := [.tup [.str wR, .str (toString (g : Int))], .tup [.str wR, .tup [.int (g : Int)]], .tup [.str wR, .ref j3.length], .tup [.str wR], .tup [.str wR, .int (g : Int), .int 0]]) (h1 := i4) s6 (by
    rw [hsl]
    have := ei4.symm
    simp -implicitDefEqProofs [this, bs]) ki4 (by
    have w11 := w1.1
    have w12 := w1.2
    have l3 := flt f3
    intro v hv
    simp only [List.mem_cons, List.not_mem_nil, or_false] at hv
    rcases hv with rfl | rfl | rfl | rfl | rfl
    · (exact vr_pure (pv_of (by (simp only [okD, okDs, w_sum, w_ab, w_sums, w_Sum, w_rest, w_Rest, w_nil, w_over, w_Over, w_overs, true_and, and_true] <;> and_intros <;> first | assumption | exact HUGE_log | exact lgs (by omega) (by omega))) (Nat.le_of_ble_eq_true rfl) (Nat.le_of_ble_eq_true rfl)) rfl rfl)
    · (exact vr_pure (pv_of (by (simp only [okD, okDs, w_sum, w_ab, w_sums, w_Sum, w_rest, w_Rest, w_nil, w_over, w_Over, w_overs, true_and, and_true] <;> and_intros <;> first | assumption | exact HUGE_log | exact lgs (by omega) (by omega))) (Nat.le_of_ble_eq_true rfl) (Nat.le_of_ble_eq_true rfl)) rfl rfl)
    · exact vr_wref l3 ci4 p4 (Nat.le_of_ble_eq_true rfl) w_rest.1 w_rest.2
    · (exact vr_pure (pv_of (by (simp only [okD, okDs, w_sum, w_ab, w_sums, w_Sum, w_rest, w_Rest, w_nil, w_over, w_Over, w_overs, true_and, and_true] <;> and_intros <;> first | assumption | exact HUGE_log | exact lgs (by omega) (by omega))) (Nat.le_of_ble_eq_true rfl) (Nat.le_of_ble_eq_true rfl)) rfl rfl)
    · (exact vr_pure (pv_of (by (simp only [okD, okDs, w_sum, w_ab, w_sums, w_Sum, w_rest, w_Rest, w_nil, w_over, w_Over, w_overs, true_and, and_true] <;> and_intros <;> first | assumption | exact HUGE_log | exact lgs (by omega) (by omega))) (Nat.le_of_ble_eq_true rfl) (Nat.le_of_ble_eq_true rfl)) rfl rfl)) (Nat.le_refl _) (by decide) (by decide)
  obtain ⟨i5, ei5⟩ : ∃ j, j = j2 ++ [.lst [.str wR, .int (g : Int)]] := ⟨_, rfl⟩
  have ki5 : Keep b c j2 i5 := by rw [ei5]; exact f2.keep.bag.keep _
  have ci5 : i5[j2.length]? = some (.lst [.str wR, .int (g : Int)]) := by rw [ei5]; exact List.getElem?_concat_length ..
  have p5 : ∀ x ∈ [D.str wR, .int (g : Int)], Pv x := by
    intro v hv
    simp only [List.mem_cons, List.not_mem_nil, or_false] at hv
    rcases hv with rfl | rfl <;> (exact pv_of (by (simp only [okD, okDs, w_sum, w_ab, w_sums, w_Sum, w_rest, w_Rest, w_nil, w_over, w_Over, w_overs, true_and, and_true] <;> and_intros <;> first | assumption | exact HUGE_log | exact lgs (by omega) (by omega))) (Nat.le_of_ble_eq_true rfl) (Nat.le_of_ble_eq_true rfl))
  have kw : keyW (.str (Str.ofString "rest")) = some (.inr (Str.ofString "rest")) := rfl
  obtain ⟨j0, e1, f1, _⟩ : ∃ h', RSF S1_law_own_rests sl j2 = .ok (.nx, sl, h') ∧ Fnd b c h0 F h' (1800 + 180 + 90 + 120 + 150 + 230 + 200) ∧ _ := f2.step q0 hF (i := 6) (vals := [.ref j2.length, .tup [.str (Str.ofString "Rest"), .int (g : Int)], .tup [.str (Str.ofString ""), .int (g : Int)], .dic [.inr (Str.ofString "rest")] [.int (g : Int)]]) (h1 := i5) s6 (by
    rw [hsl]
    have := ei5.symm
    simp -implicitDefEqProofs [this, vDic1, kw]) ki5 (by
    have l3 := flt f2
    intro v hv
    simp only [List.mem_cons, List.not_mem_nil, or_false] at hv
    rcases hv with rfl | rfl | rfl | rfl
    · exact vr_ref l3 ci5 p5 (Nat.le_of_ble_eq_true rfl)
    · (exact vr_pure (pv_of (by (simp only [okD, okDs, w_sum, w_ab, w_sums, w_Sum, w_rest, w_Rest, w_nil, w_over, w_Over, w_overs, true_and, and_true] <;> and_intros <;> first | assumption | exact HUGE_log | exact lgs (by omega) (by omega))) (Nat.le_of_ble_eq_true rfl) (Nat.le_of_ble_eq_true rfl)) rfl rfl)
    · (exact vr_pure (pv_of (by (simp only [okD, okDs, w_sum, w_ab, w_sums, w_Sum, w_rest, w_Rest, w_nil, w_over, w_Over, w_overs, true_and, and_true] <;> and_intros <;> first | assumption | exact HUGE_log | exact lgs (by omega) (by omega))) (Nat.le_of_ble_eq_true rfl) (Nat.le_of_ble_eq_true rfl)) rfl rfl)
    · exact vr_pure (pv_dic w_rest.1 w_rest.2 (lgs (by omega) (by omega))) rfl rfl) (Nat.le_refl _) (by decide) (by decide)
  obtain ⟨P, jL, eL, fL⟩ := f1.last q0 hF (i := 6) (args := vCons (vTup (vCons (vC .non) (vCons (vVar 5) vNil))) (vCons (vTup (vCons (vVar 5) (vCons (vC (.str (Str.ofString "rest"))) vNil))) vNil)) (s := sl) (k := 60) (vals := [.tup [.non, .int (g : Int)], .tup [.int (g : Int), .str wR]]) (h1 := j0) s6 (by rw [hsl]; simp -implicitDefEqProofs) (.refl f1.keep.bag) (by
    intro v hv
    simp only [List.mem_cons, List.not_mem_nil, or_false] at hv
    rcases hv with rfl | rfl <;> (exact vr_pure (pv_of (by (simp only [okD, okDs, w_sum, w_ab, w_sums, w_Sum, w_rest, w_Rest, w_nil, w_over, w_Over, w_overs, true_and, and_true] <;> and_intros <;> first | assumption | exact HUGE_log | exact lgs (by omega) (by omega))) (Nat.le_of_ble_eq_true rfl) (Nat.le_of_ble_eq_true rfl)) rfl rfl)) (Nat.le_refl _) (by decide) (by decide)
  refine ⟨P, jL, mF_rt (s' := sl) ?_, fL⟩
  rw [← hcs]
  show RSF m_law_own_rests [some (.ref b), some cs, none, none, none, none, none, none] h0 = _
  rw [← hsl] at e7
  simp only [RSF] at *
  unfold m_law_own_rests
  rw [seq_nx e8, seq_nx e7, seq_nx e6, seq_nx e5, seq_nx e4, seq_nx e3, seq_nx e2, seq_nx e1, eL]
end K35

namespace K35
open PySem Vq
theorem one_right {h k g : Nat} {d : Int} (C : Case h k d g) {x y : Nat} (hxy : x < y) (hy : y < k / g) (px : (k : Int) ∣ (x : Int) * h - d) (py : (k : Int) ∣ (y : Int) * h - d) : False := by
  obtain ⟨h0, h1, k0, k1, d0, d1, g0, g1, gh, gk, eg⟩ := C
  have dh : g ∣ h := by rw [eg]; exact Nat.gcd_dvd_left ..
  have dk : g ∣ k := by rw [eg]; exact Nat.gcd_dvd_right ..
  have z := Int.dvd_sub py px
  have e : (y : Int) * h - d - ((x : Int) * h - d) = (((y - x) * h : Nat) : Int) := by
    rw [Int.natCast_mul, Int.natCast_sub (by omega), Int.sub_mul]
    omega
  rw [e] at z
  have z := Int.ofNat_dvd.mp z
  have cp : Nat.Coprime (k / g) (h / g) := by
    rw [eg, Nat.gcd_comm]
    exact Nat.coprime_div_gcd_div_gcd (Nat.gcd_pos_of_pos_left _ k0)
  obtain ⟨h', eh⟩ := dh
  obtain ⟨k', ek⟩ := dk
  have ekg : k / g = k' := by rw [ek]; exact Nat.mul_div_cancel_left _ g0
  have ehg : h / g = h' := by rw [eh]; exact Nat.mul_div_cancel_left _ g0
  rw [ekg] at hy cp
  rw [ehg] at cp
  have z2 : k' ∣ (y - x) * h' := by
    rw [ek, eh, Nat.mul_left_comm] at z
    exact Nat.dvd_of_mul_dvd_mul_left g0 z
  have z3 := cp.dvd_of_dvd_mul_right z2
  have := Nat.le_of_dvd (by omega) z3
  omega
def rights (h k g : Nat) (d : Int) : List Nat := (List.range (k / g)).filter fun (x : Nat) => decide (((x : Int) * h - d).fmod k = 0)
theorem rights_len {h k g : Nat} {d : Int} (C : Case h k d g) : (rights h k g d).length ≤ 1 := by
  have pw : (rights h k g d).Pairwise (· < ·) := List.Pairwise.filter _ (List.pairwise_lt_range)
  have mem : ∀ x ∈ rights h k g d, x < k / g ∧ (k : Int) ∣ (x : Int) * h - d := fun x hx => by
    obtain ⟨a, b⟩ := List.mem_filter.mp hx
    exact ⟨List.mem_range.mp a, fmod_dvd.mp (of_decide_eq_true b)⟩
  match e : rights h k g d with
  | [] => simp
  | [x] => simp
  | x :: y :: r =>
    rw [e] at pw mem
    have lt : x < y := (List.pairwise_cons.mp pw).1 y (List.mem_cons_self ..)
    exact (one_right C lt (mem y (by simp)).1 (mem x (by simp)).2 (mem y (by simp)).2).elim
theorem overs_turn {b c : Nat} {h0 j : VH} {F N : Nat} (q0 : Hb b c h0) (hF : h0.length ≤ F) (f : Fnd b c h0 F j N) (hN : N ≤ 10000) {x rq : Int} (x0 : 0 ≤ x) (x1 : x ≤ 60) (r0 : 0 ≤ rq) (r1 : rq ≤ 60) (a0 a1 a2 a3 a4 a5 a7 : Option D) :
    ∃ j', SF B1_law_own_overs [a0, a1, a2, a3, a4, a5, some (.int rq), a7, some (.ref F), some (.int x)] j = .ok (.nx, [a0, a1, a2, a3, a4, a5, some (.int rq), a7, some (.ref F), some (.int x)], j') ∧ Fnd b c h0 F j' (N + 610) ∧ ∀ n cl, h0.length ≤ n → n ≠ F → j[n]? = some cl → j'[n]? = some cl := by
  have mb : (1000000 : Int) ≤ MAXN := by decide
  have w1 := w_int (i := x) x0 (by omega)
  have bs := fun hp => bStr_i (i := x) (lgs (by omega) (by omega)) hp
  have m2 : mulOk 2 rq = true := mul_sm (by omega) (by omega)
  have b1 : SF B1_law_own_overs = vSeq (vDrop (vMt "list" mExt2 (vVar 8) (vCons (vLst (vCons (vTup (vCons (vC (.str (Str.ofString "over"))) (vCons (vVar 9) vNil))) (vCons (vTup (vCons (vC (.str (Str.ofString "over"))) (vCons (vOp dAdd (vVar 9) (vC (.int 1))) vNil))) (vCons (vTup (vCons (vC (.str (Str.ofString "over"))) (vCons (vOp aSub (vVar 9) (vC (.int 1))) vNil))) (vCons (vTup (vCons (vC (.str (Str.ofString "over"))) (vCons (vOp dAdd (vVar 9) (vVar 6)) vNil))) (vCons (vTup (vCons (vC (.str (Str.ofString "over"))) (vCons (vOp aSub (vVar 9) (vVar 6)) vNil))) vNil)))))) vNil)))
    (vSeq (vDrop (vMt "list" mExt2 (vVar 8) (vCons (vLst (vCons (vTup (vCons (vC (.str (Str.ofString "over"))) (vCons (vOp dAdd (vVar 9) (vOp dMul (vC (.int 2)) (vVar 6))) vNil))) (vCons (vTup (vCons (vC (.str (Str.ofString "over"))) (vCons (vOp dAdd (vOp dAdd (vVar 9) (vVar 6)) (vC (.int 1))) vNil))) (vCons (vTup (vCons (vC (.str (Str.ofString "over"))) (vCons (vTup (vCons (vVar 9) vNil)) vNil))) (vCons (vTup (vCons (vC (.str (Str.ofString "over"))) (vCons (vBl bStr (vCons (vVar 9) vNil)) vNil))) vNil))))) vNil)))
    (vDrop (vMt "list" mExt2 (vVar 8) (vCons (vLst (vCons (vTup (vCons (vC (.str (Str.ofString "Over"))) (vCons (vVar 9) vNil))) (vCons (vLst (vCons (vC (.str (Str.ofString "over"))) (vCons (vVar 9) vNil))) (vCons (vTup (vCons (vC (.str (Str.ofString "over"))) (vCons (vVar 9) (vCons (vVar 9) vNil)))) (vCons (vTup (vCons (vC (.str (Str.ofString "overs"))) (vCons (vVar 9) vNil))) (vCons (vTup (vCons (vC (.str (Str.ofString "rest"))) (vCons (vVar 9) vNil))) (vCons (vTup (vCons (vC (.str (Str.ofString "over"))) (vCons (vLst (vCons (vVar 9) vNil)) vNil))) vNil))))))) vNil)))) := rfl
  obtain ⟨sl, hsl⟩ : ∃ sl : VS, sl = [a0, a1, a2, a3, a4, a5, some (.int rq), a7, some (.ref F), some (.int x)] := ⟨_, rfl⟩
  have s8 : sl[8]? = some (some (.ref F)) := by rw [hsl]; rfl
  rw [b1, ← hsl]
  have flt : ∀ {hp : VH} {N : Nat}, Fnd b c h0 F hp N → F < hp.length := fun f => by
    obtain ⟨L, e, _⟩ := f.ex
    exact lt_of_get e
  obtain ⟨j1, e1, f1, p1⟩ := f.step q0 hF (i := 8) (args := vCons (vTup (vCons (vC (.str (Str.ofString "over"))) (vCons (vVar 9) vNil))) (vCons (vTup (vCons (vC (.str (Str.ofString "over"))) (vCons (vOp dAdd (vVar 9) (vC (.int 1))) vNil))) (vCons (vTup (vCons (vC (.str (Str.ofString "over"))) (vCons (vOp aSub (vVar 9) (vC (.int 1))) vNil))) (vCons (vTup (vCons (vC (.str (Str.ofString "over"))) (vCons (vOp dAdd (vVar 9) (vVar 6)) vNil))) (vCons (vTup (vCons (vC (.str (Str.ofString "over"))) (vCons (vOp aSub (vVar 9) (vVar 6)) vNil))) vNil))))) (s := sl) (k := 150) (vals := [.tup [.str wO, .int x], .tup [.str wO, .int (x + 1)], .tup [.str wO, .int (x - 1)], .tup [.str wO, .int (x + rq)], .tup [.str wO, .int (x - rq)]]) (h1 := j) s8 (by rw [hsl]; simp -implicitDefEqProofs) (.refl f.keep.bag) (by
    intro v hv
    simp only [List.mem_cons, List.not_mem_nil, or_false] at hv
    rcases hv with rfl | rfl | rfl | rfl | rfl <;> (exact vr_pure (pv_of (by (simp only [okD, okDs, w_sum, w_ab, w_sums, w_Sum, w_rest, w_Rest, w_nil, w_over, w_Over, w_overs, true_and, and_true] <;> and_intros <;> first | assumption | exact HUGE_log | exact lgs (by omega) (by omega))) (Nat.le_of_ble_eq_true rfl) (Nat.le_of_ble_eq_true rfl)) rfl rfl)) (Nat.le_refl _) (by omega) (by decide)
  obtain ⟨j2, e2, f2, p2⟩ := f1.step q0 hF (i := 8) (args := vCons (vTup (vCons (vC (.str (Str.ofString "over"))) (vCons (vOp dAdd (vVar 9) (vOp dMul (vC (.int 2)) (vVar 6))) vNil))) (vCons (vTup (vCons (vC (.str (Str.ofString "over"))) (vCons (vOp dAdd (vOp dAdd (vVar 9) (vVar 6)) (vC (.int 1))) vNil))) (vCons (vTup (vCons (vC (.str (Str.ofString "over"))) (vCons (vTup (vCons (vVar 9) vNil)) vNil))) (vCons (vTup (vCons (vC (.str (Str.ofString "over"))) (vCons (vBl bStr (vCons (vVar 9) vNil)) vNil))) vNil)))) (s := sl) (k := 120) (vals := [.tup [.str wO, .int (x + 2 * rq)], .tup [.str wO, .int (x + rq + 1)], .tup [.str wO, .tup [.int x]], .tup [.str wO, .str (toString x)]]) (h1 := j1) s8 (by rw [hsl]; simp -implicitDefEqProofs [dMul_i m2, bs]) (.refl f1.keep.bag) (by
    have w11 := w1.1
    have w12 := w1.2
    intro v hv
    simp only [List.mem_cons, List.not_mem_nil, or_false] at hv
    rcases hv with rfl | rfl | rfl | rfl <;> (exact vr_pure (pv_of (by (simp only [okD, okDs, w_sum, w_ab, w_sums, w_Sum, w_rest, w_Rest, w_nil, w_over, w_Over, w_overs, true_and, and_true] <;> and_intros <;> first | assumption | exact HUGE_log | exact lgs (by omega) (by omega))) (Nat.le_of_ble_eq_true rfl) (Nat.le_of_ble_eq_true rfl)) rfl rfl)) (Nat.le_refl _) (by omega) (by decide)
  obtain ⟨i1, ei1⟩ : ∃ i, i = j2 ++ [.lst [.str wO, .int x]] := ⟨_, rfl⟩
  obtain ⟨i2, ei2⟩ : ∃ i, i = i1 ++ [.lst [.int x]] := ⟨_, rfl⟩
  have ki : Keep b c j2 i2 := by rw [ei2, ei1]; exact (f2.keep.bag.keep _).app _
  have ci1 : i2[j2.length]? = some (.lst [.str wO, .int x]) := by
    rw [ei2]
    refine get_at ?_
    rw [ei1]
    exact List.getElem?_concat_length ..
  have ci2 : i2[i1.length]? = some (.lst [.int x]) := by rw [ei2]; exact List.getElem?_concat_length ..
  have q1 : ∀ y ∈ [D.str wO, .int x], Pv y := by
    intro v hv
    simp only [List.mem_cons, List.not_mem_nil, or_false] at hv
    rcases hv with rfl | rfl <;> (exact pv_of (by (simp only [okD, okDs, w_sum, w_ab, w_sums, w_Sum, w_rest, w_Rest, w_nil, w_over, w_Over, w_overs, true_and, and_true] <;> and_intros <;> first | assumption | exact HUGE_log | exact lgs (by omega) (by omega))) (Nat.le_of_ble_eq_true rfl) (Nat.le_of_ble_eq_true rfl))
  have q2 : ∀ y ∈ [D.int x], Pv y := by
    intro v hv
    simp only [List.mem_cons, List.not_mem_nil, or_false] at hv
    rcases hv with rfl
    (exact pv_of (by (simp only [okD, okDs, w_sum, w_ab, w_sums, w_Sum, w_rest, w_Rest, w_nil, w_over, w_Over, w_overs, true_and, and_true] <;> and_intros <;> first | assumption | exact HUGE_log | exact lgs (by omega) (by omega))) (Nat.le_of_ble_eq_true rfl) (Nat.le_of_ble_eq_true rfl))
  have l2 := flt f2
  have l3 : F < i1.length := by rw [ei1]; simp; omega
  obtain ⟨j3, e3, f3, p3⟩ := f2.step q0 hF (i := 8) (args := vCons (vTup (vCons (vC (.str (Str.ofString "Over"))) (vCons (vVar 9) vNil))) (vCons (vLst (vCons (vC (.str (Str.ofString "over"))) (vCons (vVar 9) vNil))) (vCons (vTup (vCons (vC (.str (Str.ofString "over"))) (vCons (vVar 9) (vCons (vVar 9) vNil)))) (vCons (vTup (vCons (vC (.str (Str.ofString "overs"))) (vCons (vVar 9) vNil))) (vCons (vTup (vCons (vC (.str (Str.ofString "rest"))) (vCons (vVar 9) vNil))) (vCons (vTup (vCons (vC (.str (Str.ofString "over"))) (vCons (vLst (vCons (vVar 9) vNil)) vNil))) vNil)))))) (s := sl) (k := 340) (vals := [.tup [.str (Str.ofString "Over"), .int x], .ref j2.length, .tup [.str wO, .int x, .int x], .tup [.str (Str.ofString "overs"), .int x], .tup [.str wR, .int x], .tup [.str wO, .ref i1.length]]) (h1 := i2) s8 (by
    rw [hsl]
    simp -implicitDefEqProofs [ei2, ei1]) ki (by
    intro v hv
    simp only [List.mem_cons, List.not_mem_nil, or_false] at hv
    rcases hv with rfl | rfl | rfl | rfl | rfl | rfl
    · (exact vr_pure (pv_of (by (simp only [okD, okDs, w_sum, w_ab, w_sums, w_Sum, w_rest, w_Rest, w_nil, w_over, w_Over, w_overs, true_and, and_true] <;> and_intros <;> first | assumption | exact HUGE_log | exact lgs (by omega) (by omega))) (Nat.le_of_ble_eq_true rfl) (Nat.le_of_ble_eq_true rfl)) rfl rfl)
    · exact vr_ref l2 ci1 q1 (Nat.le_of_ble_eq_true rfl)
    · (exact vr_pure (pv_of (by (simp only [okD, okDs, w_sum, w_ab, w_sums, w_Sum, w_rest, w_Rest, w_nil, w_over, w_Over, w_overs, true_and, and_true] <;> and_intros <;> first | assumption | exact HUGE_log | exact lgs (by omega) (by omega))) (Nat.le_of_ble_eq_true rfl) (Nat.le_of_ble_eq_true rfl)) rfl rfl)
    · (exact vr_pure (pv_of (by (simp only [okD, okDs, w_sum, w_ab, w_sums, w_Sum, w_rest, w_Rest, w_nil, w_over, w_Over, w_overs, true_and, and_true] <;> and_intros <;> first | assumption | exact HUGE_log | exact lgs (by omega) (by omega))) (Nat.le_of_ble_eq_true rfl) (Nat.le_of_ble_eq_true rfl)) rfl rfl)
    · (exact vr_pure (pv_of (by (simp only [okD, okDs, w_sum, w_ab, w_sums, w_Sum, w_rest, w_Rest, w_nil, w_over, w_Over, w_overs, true_and, and_true] <;> and_intros <;> first | assumption | exact HUGE_log | exact lgs (by omega) (by omega))) (Nat.le_of_ble_eq_true rfl) (Nat.le_of_ble_eq_true rfl)) rfl rfl)
    · exact vr_wref l3 ci2 q2 (Nat.le_of_ble_eq_true rfl) w_over.1 w_over.2) (Nat.le_refl _) (by omega) (by decide)
  refine ⟨j3, ?_, f3, fun n cl hn hf e => p3 n cl hn hf (p2 n cl hn hf (p1 n cl hn hf e))⟩
  rw [seq_nx e1, seq_nx e2, e3]
theorem s_own_overs {b c : Nat} {h0 : VH} (q0 : Hb b c h0) {h k g : Nat} {d : Int} (C : Case h k d g) : ∃ P h', F_law_own_overs [.ref b, .tup [.int (h : Int), .int (k : Int), .int d, .int (g : Int)]] h0 = .ok (.ref P, h') ∧ Found b c h0 P h' 1970 := by
  have mb : (1000000 : Int) ≤ MAXN := by decide
  have C' := C
  obtain ⟨h0', h1', k0, k1, d0, d1, g0, g1, gh, gk, eg⟩ := C'
  obtain ⟨cs, hcs⟩ : ∃ cs : D, cs = .tup [.int (h : Int), .int (k : Int), .int d, .int (g : Int)] := ⟨_, rfl⟩
  have e6 : SF S6_law_own_overs [some (.ref b), some cs, none, none, none, none, none, none, none, none] h0 = .ok (.nx, [some (.ref b), some cs, some (.int (h : Int)), some (.int (k : Int)), some (.int d), some (.int (g : Int)), none, none, none, none], h0) := by
    rw [hcs]
    simp -implicitDefEqProofs [SF, S6_law_own_overs]
  obtain ⟨rq, hrq⟩ : ∃ rq, rq = k / g := ⟨_, rfl⟩
  have r1 : 1 ≤ rq := by rw [hrq]; exact Nat.div_pos gk g0
  have r2 : rq ≤ 60 := by rw [hrq]; exact Nat.le_trans (Nat.div_le_self _ _) k1
  have og : divOk (g : Int) = true := divOk_small (by omega) (by omega)
  have fd := aFdv_i (i := (k : Int)) (j := (g : Int)) (h := h0) og
  rw [show (k : Int).fdiv (g : Int) = ((k / g : Nat) : Int) from (Int.ofNat_fdiv k g).symm, ← hrq] at fd
  have e5 : SF S5_law_own_overs [some (.ref b), some cs, some (.int (h : Int)), some (.int (k : Int)), some (.int d), some (.int (g : Int)), none, none, none, none] h0 = .ok (.nx, [some (.ref b), some cs, some (.int (h : Int)), some (.int (k : Int)), some (.int d), some (.int (g : Int)), some (.int (rq : Int)), none, none, none], h0) := by
    generalize (rq : Int) = r at *
    simp -implicitDefEqProofs [SF, S5_law_own_overs, fd]
  obtain ⟨rl, hrl⟩ : ∃ rl, rl = rights h k g d := ⟨_, rfl⟩
  have zr : rl.length ≤ 1 := by rw [hrl]; exact rights_len C
  have mr : ∀ x ∈ rl, x < rq := fun x hx => by
    rw [hrl] at hx
    rw [hrq]
    exact List.mem_range.mp (List.mem_filter.mp hx).1
  have c2 : SF C2_law_own_overs [some (.ref b), some cs, some (.int (h : Int)), some (.int (k : Int)), some (.int d), some (.int (g : Int)), some (.int (rq : Int)), none, none, none] h0 = .ok (.ref h0.length, h0 ++ [.lst (intsN rl)]) := by
    show C2_law_own_overs _ _ h0 = _
    unfold C2_law_own_overs
    rw [lc_rng1t (h1 := h0) (n := (rq : Int)) (fun (x : Nat) => decide (((x : Int) * h - d).fmod k = 0)) (fun (x : Nat) => .int (x : Int)) (by simp) (by omega) (by omega) (by
      intro a ha acc
      have mo : mulOk (a : Int) (h : Int) = true := mul_sm (by omega) (by omega)
      have am := aMod_i (i := (a : Int) * h - d) (j := (k : Int)) (h := h0 ++ [.lst acc]) (by omega)
      refine ⟨_, rfl, ?_, fun _ => ?_⟩
      · generalize hr : (a : Int) * (h : Int) = r at *
        generalize (r - d).fmod (k : Int) = u at *
        simp -implicitDefEqProofs [T1_law_own_overs, vwipe, dMul_i mo, hr, am]
      · simp -implicitDefEqProofs [E2_law_own_overs, vwipe])]
    rw [Int.toNat_natCast, hrl, hrq]
    rfl
  obtain ⟨i1, ei1⟩ : ∃ i, i = h0 ++ [.lst (intsN rl)] := ⟨_, rfl⟩
  rw [← ei1] at c2
  have e4 : SF S4_law_own_overs [some (.ref b), some cs, some (.int (h : Int)), some (.int (k : Int)), some (.int d), some (.int (g : Int)), some (.int (rq : Int)), none, none, none] h0 = .ok (.nx, [some (.ref b), some cs, some (.int (h : Int)), some (.int (k : Int)), some (.int d), some (.int (g : Int)), some (.int (rq : Int)), some (.ref h0.length), none, none], i1) := by
    simp only [SF] at c2
    simp -implicitDefEqProofs [SF, S4_law_own_overs, c2]
  have ki1 : Keep b c h0 i1 := by rw [ei1]; exact q0.keep _
  have cr1 : i1[h0.length]? = some (.lst (intsN rl)) := by rw [ei1]; exact List.getElem?_concat_length ..
  obtain ⟨y, i2, ey, y0, y1, ki2⟩ := s_drawS ki1.bag (n := 60) (by decide) (by decide)
  obtain ⟨ys, hys⟩ : ∃ ys : List Int, ys = [0, 1, (rq : Int) - 1, rq, (rq : Int) + 1, k, y, 60, 61] := ⟨_, rfl⟩
  obtain ⟨i3, ei3⟩ : ∃ i, i = i2 ++ [.lst (ys.map .int)] := ⟨_, rfl⟩
  have l3 : lk i3 i2.length = some (ys.map .int) := by rw [ei3]; exact lk_at _ _ []
  obtain ⟨F, hFe⟩ : ∃ F, F = i3.length := ⟨_, rfl⟩
  have ki3 : Keep b c h0 i3 := by rw [ei3]; exact (ki1.trans ki2).app _
  have hF : h0.length ≤ F := by rw [hFe]; exact ki3.le
  obtain ⟨L0, hL0⟩ : ∃ L0 : List D, L0 = ys.map fun x => D.tup [.str wO, .int x] := ⟨_, rfl⟩
  have c1 : SF C1_law_own_overs [some (.ref b), some cs, some (.int (h : Int)), some (.int (k : Int)), some (.int d), some (.int (g : Int)), some (.int (rq : Int)), some (.ref h0.length), none, none] i1 = .ok (.ref i3.length, i3 ++ [.lst L0]) := by
    show C1_law_own_overs _ _ i1 = _
    unfold C1_law_own_overs
    rw [lc_lst (h1 := i3) (n := i2.length) (ys := ys) (c := D.int) (fun _ => true) (fun x => .tup [.str wO, .int x]) (by
      rw [vLst_okR (h1 := i2) (ds := [.int 0, .int 1, .int ((rq : Int) - 1), .int rq, .int ((rq : Int) + 1), .int k, .int y, .int 60, .int 61]) (by simp -implicitDefEqProofs [ey]) (by simp), ei3, hys]
      rfl) l3 (by rw [hys]; simp) (by
      intro x hx acc
      refine ⟨_, rfl, rfl, fun _ => ?_⟩
      simp -implicitDefEqProofs [E1_law_own_overs, vwipe])]
    simp only [List.filter_eq_self.mpr (fun _ _ => rfl)]
    rw [hL0]
  obtain ⟨j1, ej1⟩ : ∃ j, j = i3 ++ [.lst L0] := ⟨_, rfl⟩
  rw [← ej1, ← hFe] at c1
  have e3 : SF S3_law_own_overs [some (.ref b), some cs, some (.int (h : Int)), some (.int (k : Int)), some (.int d), some (.int (g : Int)), some (.int (rq : Int)), some (.ref h0.length), none, none] i1 = .ok (.nx, [some (.ref b), some cs, some (.int (h : Int)), some (.int (k : Int)), some (.int d), some (.int (g : Int)), some (.int (rq : Int)), some (.ref h0.length), some (.ref F), none], j1) := by
    simp only [SF] at c1
    simp -implicitDefEqProofs [SF, S3_law_own_overs, c1]
  have f1 : Fnd b c h0 F j1 270 := by
    refine ⟨by rw [ej1]; exact ki3.app _, L0, by rw [ej1, hFe]; exact List.getElem?_concat_length .., fun v hv => ?_, ?_⟩
    · rw [hL0] at hv
      obtain ⟨x, hx, rfl⟩ := List.mem_map.mp hv
      have bx : -(1000 * MAXN) ≤ x ∧ x ≤ 1000 * MAXN := by
        rw [hys] at hx
        simp only [List.mem_cons, List.not_mem_nil, or_false] at hx
        rcases hx with rfl | rfl | rfl | rfl | rfl | rfl | rfl | rfl | rfl <;> omega
      (exact vr_pure (pv_of (by (simp only [okD, okDs, w_sum, w_ab, w_sums, w_Sum, w_rest, w_Rest, w_nil, w_over, w_Over, w_overs, true_and, and_true] <;> and_intros <;> first | assumption | exact HUGE_log | exact lgs (by omega) (by omega))) (Nat.le_of_ble_eq_true rfl) (Nat.le_of_ble_eq_true rfl)) rfl rfl)
    · rw [hL0, hys]
      exact Nat.le_refl _
  -- the loop
  obtain ⟨z, j2, ez, z0, z1, kz⟩ := s_drawS f1.keep.bag (n := (rq : Int)) (by omega) (by omega)
  obtain ⟨j3, ej3⟩ : ∃ j, j = j2 ++ [.lst [.int z]] := ⟨_, rfl⟩
  obtain ⟨xs, hxs⟩ : ∃ xs : List D, xs = intsN rl ++ [.int z] := ⟨_, rfl⟩
  have kr : Keep b c i1 j3 := by
    rw [ej3]
    refine Keep.app ?_ _
    refine Keep.trans ?_ kz
    rw [ej1, ei3]
    exact (ki2.app _).app _
  have cr3 : j3[h0.length]? = some (.lst (intsN rl)) := Keep.cell q0 (Nat.le_refl _) kr cr1
  have cz3 : j3[j2.length]? = some (.lst [.int z]) := by rw [ej3]; exact List.getElem?_concat_length ..
  have ad := dAdd_L cr3 cz3 (by
    unfold intsN
    rw [List.length_map, List.length_singleton]
    omega)
  rw [← hxs] at ad
  obtain ⟨j4, ej4⟩ : ∃ j, j = j3 ++ [.lst xs] := ⟨_, rfl⟩
  rw [← ej4] at ad
  have k14 : Keep b c j1 j4 := by rw [ej4, ej3]; exact (kz.app _).app _
  have f4 := f1.go q0 hF k14
  have c4 : j4[j3.length]? = some (.lst xs) := by rw [ej4]; exact List.getElem?_concat_length ..
  have hM : h0.length ≤ j3.length := by
    have := f1.keep.le
    have := kz.le
    rw [ej3]
    simp
    omega
  have hMF : j3.length ≠ F := by
    have := kz.le
    rw [ej1] at this
    rw [hFe, ej3]
    simp at this ⊢
    omega
  have lxs : xs.length ≤ 2 := by
    rw [hxs, List.length_append, List.length_singleton]
    unfold intsN
    rw [List.length_map]
    omega
  have hit : (vIt (vOp dAdd (vVar 7) (vLst (vCons (vCall 2 F_law_draw (vCons (vVar 0) (vCons (vVar 6) vNil))) vNil)))) [some (.ref b), some cs, some (.int (h : Int)), some (.int (k : Int)), some (.int d), some (.int (g : Int)), some (.int (rq : Int)), some (.ref h0.length), some (.ref F), none] j1 = .ok (fun hp => lk hp j3.length, j4) := by
    have t := ej3.symm
    unfold vIt
    have ev : (vOp dAdd (vVar 7) (vLst (vCons (vCall 2 F_law_draw (vCons (vVar 0) (vCons (vVar 6) vNil))) vNil))) [some (.ref b), some cs, some (.int (h : Int)), some (.int (k : Int)), some (.int d), some (.int (g : Int)), some (.int (rq : Int)), some (.ref h0.length), some (.ref F), none] j1 = .ok (.ref j3.length, j4) := by
      simp -implicitDefEqProofs [ez, t, ad]
    rw [ev]
    rfl
  obtain ⟨s', j5, eL0, ⟨a9, rfl⟩, f5, _⟩ := for_all (g := gP (pN 9)) (body := SF B1_law_own_overs) (xs := xs) (fun i s h' => (∃ a9, s = [some (.ref b), some cs, some (.int (h : Int)), some (.int (k : Int)), some (.int d), some (.int (g : Int)), some (.int (rq : Int)), some (.ref h0.length), some (.ref F), a9]) ∧ Fnd b c h0 F h' (270 + 610 * i) ∧ h'[j3.length]? = some (.lst xs)) hit (fun _ _ h' I => lk_of I.2.2) ⟨⟨_, rfl⟩, f4, c4⟩ (by
    rintro i x s h' ed ⟨⟨a9, rfl⟩, f, cM⟩
    have hi : i < xs.length := (List.getElem?_eq_some_iff.mp ed).1
    have hx : ∃ y : Int, x = .int y ∧ 0 ≤ y ∧ y ≤ 60 := by
      have := List.mem_of_getElem? ed
      rw [hxs] at this
      rcases List.mem_append.mp this with m | m
      · unfold intsN at m
        obtain ⟨w, hw, rfl⟩ := List.mem_map.mp m
        have := mr w hw
        exact ⟨(w : Int), rfl, by omega, by omega⟩
      · rw [List.mem_singleton.mp m]
        exact ⟨z, rfl, z0, by omega⟩
    obtain ⟨y, rfl, y0, y1⟩ := hx
    obtain ⟨h2, e, f', keep⟩ := overs_turn q0 hF f (by omega) (x := y) (rq := (rq : Int)) y0 y1 (by omega) (by omega) (some (.ref b)) (some cs) (some (.int (h : Int))) (some (.int (k : Int))) (some (.int d)) (some (.int (g : Int))) (some (.ref h0.length))
    exact ⟨_, h2, .inl (by rw [turn_of rfl]; exact e), ⟨_, rfl⟩, f'.le (by omega), keep _ _ hM hMF cM⟩)
  have eL : SF L1_law_own_overs [some (.ref b), some cs, some (.int (h : Int)), some (.int (k : Int)), some (.int d), some (.int (g : Int)), some (.int (rq : Int)), some (.ref h0.length), some (.ref F), none] j1 = _ := eL0
  have f5 : Fnd b c h0 F j5 1490 := f5.le (by omega)
  obtain ⟨sl, hsl⟩ : ∃ sl : VS, sl = [some (.ref b), some cs, some (.int (h : Int)), some (.int (k : Int)), some (.int d), some (.int (g : Int)), some (.int (rq : Int)), some (.ref h0.length), some (.ref F), a9] := ⟨_, rfl⟩
  have s8 : sl[8]? = some (some (.ref F)) := by rw [hsl]; rfl
  obtain ⟨j6, e2, f6, _⟩ : ∃ h', SF S2_law_own_overs sl j5 = .ok (.nx, sl, h') ∧ Fnd b c h0 F h' (1490 + 180) ∧ _ := f5.step q0 hF (i := 8) (vals := [.tup [.str wO, .bl true], .tup [.str wO, .bl false], .tup [.str wO, .non], .tup [.str wO, .int (-1)], .tup [.str wO, .int MAXN], .tup [.str wO]]) (h1 := j5) s8 (by
    have p30 := pow30 j5
    rw [hsl]
    generalize MAXN = mm at *
    simp -implicitDefEqProofs [p30]) (.refl f5.keep.bag) (by
    intro v hv
    simp only [List.mem_cons, List.not_mem_nil, or_false] at hv
    rcases hv with rfl | rfl | rfl | rfl | rfl | rfl <;> (exact vr_pure (pv_of (by (simp only [okD, okDs, w_sum, w_ab, w_sums, w_Sum, w_rest, w_Rest, w_nil, w_over, w_Over, w_overs, true_and, and_true] <;> and_intros <;> first | assumption | exact HUGE_log | exact lgs (by omega) (by omega))) (Nat.le_of_ble_eq_true rfl) (Nat.le_of_ble_eq_true rfl)) rfl rfl)) (Nat.le_refl _) (by decide) (by decide)
  obtain ⟨j7, e1, f7, _⟩ : ∃ h', SF S1_law_own_overs sl j6 = .ok (.nx, sl, h') ∧ Fnd b c h0 F h' (1490 + 180 + 150) ∧ _ := f6.step q0 hF (i := 8) (vals := [.tup [.str wO, .int (MAXN + 1)], .tup [.str wO, .int HUGE], .tup [.str wO, .tup [.int 0, .int 0]], .str wO, .tup [.str wO, .str wO]]) (h1 := j6) s8 (by
    have p30 := pow30 j6
    have p55 := pow55 j6
    have pH := powHuge j6
    rw [hsl]
    generalize MAXN = mm at *
    generalize HUGE = hu at *
    generalize P55 = p5 at *
    simp -implicitDefEqProofs [p30, p55, pH]) (.refl f6.keep.bag) (by
    intro v hv
    simp only [List.mem_cons, List.not_mem_nil, or_false] at hv
    rcases hv with rfl | rfl | rfl | rfl | rfl <;> (exact vr_pure (pv_of (by (simp only [okD, okDs, w_sum, w_ab, w_sums, w_Sum, w_rest, w_Rest, w_nil, w_over, w_Over, w_overs, true_and, and_true] <;> and_intros <;> first | assumption | exact HUGE_log | exact lgs (by omega) (by omega))) (Nat.le_of_ble_eq_true rfl) (Nat.le_of_ble_eq_true rfl)) rfl rfl)) (Nat.le_refl _) (by decide) (by decide)
  have kw : keyW (.str (Str.ofString "over")) = some (.inr (Str.ofString "over")) := rfl
  obtain ⟨P, jL, eR, fL⟩ := f7.last q0 hF (i := 8) (args := vCons (vTup vNil) (vCons (vC .non) (vCons (vC (.bl true)) (vCons (vC (.int 0)) (vCons (vDic1 (vC (.str (Str.ofString "over"))) (vC (.int 0))) vNil))))) (s := sl) (k := 150) (vals := [.tup [], .non, .bl true, .int 0, .dic [.inr (Str.ofString "over")] [.int 0]]) (h1 := j7) s8 (by rw [hsl]; simp -implicitDefEqProofs [vDic1, kw]) (.refl f7.keep.bag) (by
    intro v hv
    simp only [List.mem_cons, List.not_mem_nil, or_false] at hv
    rcases hv with rfl | rfl | rfl | rfl | rfl
    · (exact vr_pure (pv_of (by (simp only [okD, okDs, w_sum, w_ab, w_sums, w_Sum, w_rest, w_Rest, w_nil, w_over, w_Over, w_overs, true_and, and_true] <;> and_intros <;> first | assumption | exact HUGE_log | exact lgs (by omega) (by omega))) (Nat.le_of_ble_eq_true rfl) (Nat.le_of_ble_eq_true rfl)) rfl rfl)
    · (exact vr_pure (pv_of (by (simp only [okD, okDs, w_sum, w_ab, w_sums, w_Sum, w_rest, w_Rest, w_nil, w_over, w_Over, w_overs, true_and, and_true] <;> and_intros <;> first | assumption | exact HUGE_log | exact lgs (by omega) (by omega))) (Nat.le_of_ble_eq_true rfl) (Nat.le_of_ble_eq_true rfl)) rfl rfl)
    · (exact vr_pure (pv_of (by (simp only [okD, okDs, w_sum, w_ab, w_sums, w_Sum, w_rest, w_Rest, w_nil, w_over, w_Over, w_overs, true_and, and_true] <;> and_intros <;> first | assumption | exact HUGE_log | exact lgs (by omega) (by omega))) (Nat.le_of_ble_eq_true rfl) (Nat.le_of_ble_eq_true rfl)) rfl rfl)
    · (exact vr_pure (pv_of (by (simp only [okD, okDs, w_sum, w_ab, w_sums, w_Sum, w_rest, w_Rest, w_nil, w_over, w_Over, w_overs, true_and, and_true] <;> and_intros <;> first | assumption | exact HUGE_log | exact lgs (by omega) (by omega))) (Nat.le_of_ble_eq_true rfl) (Nat.le_of_ble_eq_true rfl)) rfl rfl)
    · exact vr_pure (pv_dic w_over.1 w_over.2 (lgs (by omega) (by omega))) rfl rfl) (Nat.le_refl _) (by decide) (by decide)
  refine ⟨P, jL, mF_rt (s' := sl) ?_, fL⟩
  rw [← hcs]
  show SF m_law_own_overs [some (.ref b), some cs, none, none, none, none, none, none, none, none] h0 = _
  rw [← hsl] at eL
  simp only [SF] at *
  unfold m_law_own_overs
  rw [seq_nx e6, seq_nx e5, seq_nx e4, seq_nx e3, seq_nx eL, seq_nx e2, seq_nx e1, eR]
end K35

namespace K35
open PySem Vq
theorem mul_64 {x y : Int} (h0 : -1000000000000 ≤ y) (h1 : y ≤ 1000000000000) : mulOk x y = true := by
  unfold mulOk
  have : decide (-(2 ^ 64) < y ∧ y < 2 ^ 64) = true := decide_eq_true (by omega)
  rw [this]
  simp
theorem pow8 (h : VH) : aPow (.int 10) (.int 8) h = some (.int 100000000, h) := by
  have e : aPow (.int 10) (.int 8) h = (if powOk 10 8 = true then some (D.int ((10 : Int) ^ (8 : Int).toNat)) else none).map fun d => (d, h) := rfl
  rw [e, if_pos (by decide +kernel)]
  rfl
theorem s_pickL {h : VH} {b c : Nat} (q : Hb b c h) (l : List D) (h0 : l ≠ []) (hs : l.length ≤ 1000000) : ∃ d h', F_law_pick [.ref b, .ref h.length] (h ++ [.lst l]) = .ok (d, h') ∧ d ∈ l ∧ Keep b c h h' := by
  obtain ⟨d, h', e, hd, k⟩ := s_pick (q.app [.lst l]) (lk_at h l []) (by have := q.b_lt; omega) (by have := q.c_lt; omega) h0 (by omega)
  exact ⟨d, h', e, hd, (q.keep _).trans k⟩
theorem turn_N (i : Nat) (body : VSt) (x : D) (s : VS) (h : VH) : turn (gP (pN i)) body x s h = body (s.set i (some x)) h := turn_of rfl
abbrev GF {α : Type} (f : Fn → Fn → α) : α := f F_law_pick F_law_draw
theorem s_great {h : VH} {b c : Nat} (q : Hb b c h) : ∃ i h', F_law_great [.ref b] h = .ok (.int i, h') ∧ -MAXN ≤ i ∧ i ≤ MAXN ∧ Keep b c h h' := by
  have mm : (10 ^ 24 : Int) * 1000000 = MAXN := by decide +kernel
  have mb : (1000000 : Int) ≤ MAXN := by decide
  obtain ⟨d, h1, e1, d0, d1, k1⟩ := s_drawS q (n := 6) (by decide) (by decide)
  by_cases hd : d = 0
  · obtain ⟨p, h2, e2, hp, k2⟩ := s_pickL k1.bag [.int MAXN, .int (-MAXN), .int (MAXN - 1), .int (1 - MAXN)] (by simp) (by simp)
    have hp : ∃ i, p = .int i ∧ -MAXN ≤ i ∧ i ≤ MAXN := by
      simp only [List.mem_cons, List.not_mem_nil, or_false] at hp
      rcases hp with rfl | rfl | rfl | rfl
      · exact ⟨_, rfl, by omega, by omega⟩
      · exact ⟨_, rfl, by omega, by omega⟩
      · exact ⟨_, rfl, by omega, by omega⟩
      · exact ⟨_, rfl, by omega, by omega⟩
    obtain ⟨i, rfl, i0, i1⟩ := hp
    refine ⟨i, h2, mF_rt (s' := [some (.ref b), none, none]) ?_, i0, i1, k1.trans k2⟩
    have p30 := pow30 h1
    generalize MAXN = m at *
    simp -implicitDefEqProofs [m_law_great, S2_law_great, e1, hd, p30, e2]
  · have f2 : GF S2_law_great [some (.ref b), none, none] h = .ok (.nx, [some (.ref b), none, none], h1) := by
      simp -implicitDefEqProofs [GF, S2_law_great, e1, hd]
    have hit : (vRng1 (vCons (vC (.int 3)) vNil)) [some (.ref b), some (.int 0), none] h1 = .ok (fun _ => some (rangeD 0 1 (3 : Int).toNat), h1) := vRng1_of rfl (by decide)
    obtain ⟨s', h2, eL0, ⟨f, t, rfl, f0, fb⟩, k2⟩ := for_all (g := gP (pN 2)) (body := GF B1_law_great) (fun i s h' => (∃ f t, s = [some (.ref b), some (.int f), t] ∧ 0 ≤ f ∧ f < 100000000 ^ i) ∧ Keep b c h1 h') hit (fun _ _ _ _ => rfl) ⟨⟨0, none, rfl, by decide, by decide⟩, .refl k1.bag⟩ (by
      rintro i x s h' ed ⟨⟨f, t, rfl, f0, fb⟩, kk⟩
      obtain ⟨y, h3, e3, y0, y1, k3⟩ := s_drawS kk.bag (n := 100000000) (by decide) (by decide)
      have mo : mulOk f 100000000 = true := mul_64 (by decide) (by decide)
      refine ⟨[some (.ref b), some (.int (f * 100000000 + y)), some x], h3, .inl ?_, ⟨_, _, rfl, by omega, by rw [Int.pow_succ]; omega⟩, kk.trans k3⟩
      rw [turn_N]
      simp -implicitDefEqProofs [GF, B1_law_great, pow8, dMul_i mo, e3])
    have eL : GF L1_law_great [some (.ref b), some (.int 0), none] h1 = _ := eL0
    have fb : f < 10 ^ 24 := by
      have e : (rangeD 0 1 (3 : Int).toNat).length = 3 := by simp
      rw [e] at fb
      exact Int.lt_of_lt_of_le fb (by decide)
    obtain ⟨p, h3, e3, hp, k3⟩ := s_pickL k2.bag [.int 1, .int (-1)] (by simp) (by simp)
    have hp : ∃ i : Int, p = .int i ∧ (i = 1 ∨ i = -1) := by
      simp only [List.mem_cons, List.not_mem_nil, or_false] at hp
      rcases hp with rfl | rfl
      · exact ⟨_, rfl, .inl rfl⟩
      · exact ⟨_, rfl, .inr rfl⟩
    obtain ⟨s, rfl, hs⟩ := hp
    obtain ⟨p, h4, e4, hp, k4⟩ := s_pickL k3.bag [.int 1, .int 1000000] (by simp) (by simp)
    have hp : ∃ i : Int, p = .int i ∧ (i = 1 ∨ i = 1000000) := by
      simp only [List.mem_cons, List.not_mem_nil, or_false] at hp
      rcases hp with rfl | rfl
      · exact ⟨_, rfl, .inl rfl⟩
      · exact ⟨_, rfl, .inr rfl⟩
    obtain ⟨u, rfl, hu⟩ := hp
    have m1 : mulOk f s = true := mul_64 (by omega) (by omega)
    have m2 : mulOk (f * s) u = true := mul_64 (by omega) (by omega)
    have bnd : -MAXN ≤ f * s * u ∧ f * s * u ≤ MAXN := by
      rcases hs with rfl | rfl <;> rcases hu with rfl | rfl <;> omega
    refine ⟨f * s * u, h4, mF_rt (s' := [some (.ref b), some (.int f), t]) ?_, bnd.1, bnd.2, (((k1.trans k2).trans k3).trans k4)⟩
    show GF m_law_great [some (.ref b), none, none] h = _
    simp only [GF] at *
    unfold m_law_great
    have p6 := pow6 h3
    have e1' : S1_law_great F_law_pick F_law_draw [some (.ref b), none, none] h1 = .ok (.nx, [some (.ref b), some (.int 0), none], h1) := by
      simp -implicitDefEqProofs [S1_law_great]
    rw [seq_nx f2, seq_nx e1', seq_nx eL]
    generalize hq : f * s = q at *
    generalize hr : q * u = r at *
    simp -implicitDefEqProofs [e3, dMul_i m1, hq, p6, e4, dMul_i m2, hr]
theorem last_div {h k : Nat} (h0 : 0 < h) (k0 : 0 < k) : L2.atI (intsN (dv h k)) (-1) = some (.int ((Nat.gcd h k : Nat) : Int)) := by
  obtain ⟨l, e⟩ := dv_split h0 k0
  rw [e]
  unfold intsN L2.atI
  rw [List.map_append, List.length_append]
  simp only [List.map_cons, List.map_nil, List.length_cons, List.length_nil, List.length_map]
  have ix : L2.ixN (l.length + (0 + 1)) (-1) = some l.length := by
    unfold L2.ixN
    rw [if_neg (by decide)]
    split
    · congr 1
      omega
    · rename_i z
      exact absurd (by omega) z
  rw [ix]
  simp
/-- gaps and a sum -/
def TripD (x : D) : Prop := ∃ (h k : Nat) (d : Int), x = .tup [.int (h : Int), .int (k : Int), .int d] ∧ 0 < h ∧ h ≤ 60 ∧ 0 < k ∧ k ≤ 60 ∧ 0 ≤ d ∧ d ≤ MAXN
theorem trip {x y z : Int} (x0 : 0 < x) (x1 : x ≤ 60) (y0 : 0 < y) (y1 : y ≤ 60) (z0 : 0 ≤ z) (z1 : z ≤ MAXN) : TripD (.tup [.int x, .int y, .int z]) :=
  ⟨x.toNat, y.toNat, z, by rw [Int.toNat_of_nonneg (by omega), Int.toNat_of_nonneg (by omega)], by omega, by omega, by omega, by omega, z0, z1⟩
abbrev OF {α : Type} (f : Fn → Fn → Fn → α) : α := f F_law_draw F_law_pick F_law_divisors
theorem s_over {h : VH} {b c : Nat} (q : Hb b c h) : ∃ t h', F_law_over [.ref b] h = .ok (t, h') ∧ TripD t ∧ Keep b c h h' := by
  have mb : (1000000 : Int) ≤ MAXN := by decide
  obtain ⟨p, h1, e1, hp, k1⟩ := s_pickL q [.int 1, .int 1, .int 2, .int 3] (by simp) (by simp)
  have hp : ∃ g q : Int, p = .int g ∧ 1 ≤ g ∧ g ≤ 3 ∧ (60 : Int).fdiv g = q ∧ g * q = 60 ∧ 20 ≤ q ∧ q ≤ 60 := by
    simp only [List.mem_cons, List.not_mem_nil, or_false] at hp
    rcases hp with rfl | rfl | rfl | rfl
    · exact ⟨1, 60, rfl, by decide, by decide, by decide, by decide, by decide, by decide⟩
    · exact ⟨1, 60, rfl, by decide, by decide, by decide, by decide, by decide, by decide⟩
    · exact ⟨2, 30, rfl, by decide, by decide, by decide, by decide, by decide, by decide⟩
    · exact ⟨3, 20, rfl, by decide, by decide, by decide, by decide, by decide, by decide⟩
  obtain ⟨g, qq, rfl, g0, g1, gq, gm, q0, q1⟩ := hp
  have f6 : OF S6_law_over [some (.ref b), none, none, none, none, none, none] h = .ok (.nx, [some (.ref b), some (.int g), none, none, none, none, none], h1) := by
    simp -implicitDefEqProofs [OF, S6_law_over, e1]
  obtain ⟨x, h2, e2, x0, x1, k2⟩ := s_drawS k1.bag (n := qq - 1) (by omega) (by omega)
  obtain ⟨y, h3, e3, y0, y1, k3⟩ := s_drawS k2.bag (n := qq - 1) (by omega) (by omega)
  have og : divOk g = true := divOk_small (by omega) (by omega)
  have fd := fun hp => aFdv_i (i := 60) (j := g) (h := hp) og
  rw [gq] at fd
  have mx : mulOk g (2 + x) = true := mul_sm (by omega) (by omega)
  have my : mulOk g (2 + y) = true := mul_sm (by omega) (by omega)
  have bx : 0 < g * (2 + x) ∧ g * (2 + x) ≤ 60 := by
    have a := Int.mul_le_mul_of_nonneg_left (show 2 + x ≤ qq by omega) (show (0 : Int) ≤ g by omega)
    have b := Int.mul_pos (show 0 < g by omega) (show 0 < 2 + x by omega)
    omega
  have by' : 0 < g * (2 + y) ∧ g * (2 + y) ≤ 60 := by
    have a := Int.mul_le_mul_of_nonneg_left (show 2 + y ≤ qq by omega) (show (0 : Int) ≤ g by omega)
    have b := Int.mul_pos (show 0 < g by omega) (show 0 < 2 + y by omega)
    omega
  obtain ⟨hh, ehh⟩ : ∃ hh : Nat, g * (2 + x) = (hh : Int) := ⟨(g * (2 + x)).toNat, by omega⟩
  obtain ⟨kk, ekk⟩ : ∃ kk : Nat, g * (2 + y) = (kk : Int) := ⟨(g * (2 + y)).toNat, by omega⟩
  have f5 : OF S5_law_over [some (.ref b), some (.int g), none, none, none, none, none] h1 = .ok (.nx, [some (.ref b), some (.int g), some (.int (hh : Int)), some (.int (kk : Int)), none, none, none], h3) := by
    rw [← ehh, ← ekk]
    simp -implicitDefEqProofs [OF, S5_law_over, fd, e2, dMul_i mx, e3, dMul_i my]
  rw [ehh] at bx
  rw [ekk] at by'
  have xd := x_divisors (h := hh) (k := kk) (by omega) (by omega) h3
  obtain ⟨h4, eh4⟩ : ∃ h4, h4 = h3 ++ [.lst (intsN (dv hh kk))] := ⟨_, rfl⟩
  rw [← eh4] at xd
  have l4 : lk h4 h3.length = some (intsN (dv hh kk)) := by rw [eh4]; exact lk_at _ _ []
  have la := last_div (h := hh) (k := kk) (by omega) (by omega)
  obtain ⟨gg, hgg⟩ : ∃ gg, gg = Nat.gcd hh kk := ⟨_, rfl⟩
  have gp : 0 < gg := by rw [hgg]; exact Nat.gcd_pos_of_pos_left _ (by omega)
  have gl : gg ≤ kk := by rw [hgg]; exact Nat.gcd_le_right _ (by omega)
  rw [← hgg] at la
  obtain ⟨r0, r1, r2⟩ := fdiv_bnd (a := (kk : Int)) (n := gg) gp (by omega)
  obtain ⟨rq, hrq⟩ : ∃ rq, rq = (kk : Int).fdiv (gg : Int) := ⟨_, rfl⟩
  have fq := aFdv_i (i := (kk : Int)) (j := (gg : Int)) (h := h4) (divOk_small (by omega) (by omega))
  rw [← hrq] at r0 r1 r2 fq
  have f4 : OF S4_law_over [some (.ref b), some (.int g), some (.int (hh : Int)), some (.int (kk : Int)), none, none, none] h3 = .ok (.nx, [some (.ref b), some (.int g), some (.int (hh : Int)), some (.int (kk : Int)), some (.int rq), none, none], h4) := by
    generalize intsN (dv hh kk) = u at *
    simp -implicitDefEqProofs [OF, S4_law_over, xd, l4, la, fq]
  have k4 : Keep b c h3 h4 := by rw [eh4]; exact k3.bag.keep _
  obtain ⟨xs, c1, hxs⟩ : ∃ xs : List Int, OF C1_law_over [some (.ref b), some (.int g), some (.int (hh : Int)), some (.int (kk : Int)), some (.int rq), none, none] h4 = .ok (.ref h4.length, h4 ++ [.lst (xs.map .int)]) ∧ (∀ x ∈ xs, 1 ≤ x ∧ x ≤ 60 ∧ (kk : Int) < x * hh) ∧ xs.length ≤ 60 := by
    refine ⟨((List.range ((rq - 1).toNat)).filter fun (j : Nat) => decide ((kk : Int) < (1 + (j : Int)) * hh)).map fun (j : Nat) => 1 + (j : Int), ?_, fun x hx => ?_, ?_⟩
    · show C1_law_over _ _ _ _ h4 = _
      unfold C1_law_over
      rw [lc_rng2 (h1 := h4) (i := 1) (j := rq) (fun (j : Nat) => decide ((kk : Int) < (1 + (j : Int)) * hh)) (fun (j : Nat) => .int (1 + (j : Int))) (by simp) (by decide) (by decide) (by omega) (by omega) (by
        intro j hj acc
        have mo : mulOk (1 + (j : Int)) (hh : Int) = true := mul_sm (by omega) (by omega)
        refine ⟨_, rfl, ?_, fun _ => ?_⟩
        · generalize hr : (1 + (j : Int)) * (hh : Int) = r at *
          generalize 1 + (j : Int) = jj at *
          simp -implicitDefEqProofs [T1_law_over, vwipe, dMul_i mo, hr]
        · simp -implicitDefEqProofs [E1_law_over, vwipe])]
      rw [List.map_map]
      rfl
    · obtain ⟨j, hj, rfl⟩ := List.mem_map.mp hx
      obtain ⟨a, b⟩ := List.mem_filter.mp hj
      have := List.mem_range.mp a
      exact ⟨by omega, by omega, of_decide_eq_true b⟩
    · rw [List.length_map]
      refine Nat.le_trans (List.length_filter_le _ _) ?_
      rw [List.length_range]
      omega
  obtain ⟨h5, eh5⟩ : ∃ h5, h5 = h4 ++ [.lst (xs.map .int)] := ⟨_, rfl⟩
  rw [← eh5] at c1
  have f3 : OF S3_law_over [some (.ref b), some (.int g), some (.int (hh : Int)), some (.int (kk : Int)), some (.int rq), none, none] h4 = .ok (.nx, [some (.ref b), some (.int g), some (.int (hh : Int)), some (.int (kk : Int)), some (.int rq), some (.ref h4.length), none], h5) := by
    simp only [OF] at c1
    simp -implicitDefEqProofs [OF, S3_law_over, c1]
  have k5 : Keep b c h4 h5 := by rw [eh5]; exact k4.bag.keep _
  have l5 : lk h5 h4.length = some (xs.map .int) := by rw [eh5]; exact lk_at _ _ []
  obtain ⟨h6, eh6⟩ : ∃ h6, h6 = h5 ++ [.lst []] := ⟨_, rfl⟩
  have l6 : lk h6 h4.length = some (xs.map .int) := by rw [eh6]; exact lk_app l5 _
  have eq := eqLp (α := Int) (by decide) false (h := h6) (n := h4.length) (m := h5.length) (a := xs) (b := []) l6 (by rw [eh6]; exact lk_at _ _ [])
  have eq : dEq (.ref h4.length) (.ref h5.length) h6 = some (.bl (decide (xs = [])), h6) := eq
  have k6 : Keep b c h5 h6 := by rw [eh6]; exact k5.bag.keep _
  have kk6 := ((((k1.trans k2).trans k3).trans k4).trans k5).trans k6
  have eh6' := eh6.symm
  by_cases xe : xs = []
  · rw [decide_eq_true xe] at eq
    obtain ⟨p, h7, e7, hp, k7⟩ := s_pickL k6.bag [.int 1, .int 2, .int 3, .int 4, .int 6, .int 8, .int 9, .int 11, .int 13, .int 16, .int 18, .int 23] (by simp) (by simp)
    have hp : ∃ z : Int, p = .int z ∧ 1 ≤ z ∧ z ≤ 23 := by
      simp only [List.mem_cons, List.not_mem_nil, or_false] at hp
      rcases hp with rfl | rfl | rfl | rfl | rfl | rfl | rfl | rfl | rfl | rfl | rfl | rfl <;> exact ⟨_, rfl, by decide, by decide⟩
    obtain ⟨z, rfl, z0, z1⟩ := hp
    have m7 : mulOk 7 g = true := mul_sm (by omega) (by omega)
    have m5 : mulOk 5 g = true := mul_sm (by omega) (by omega)
    have mz : mulOk g z = true := mul_sm (by omega) (by omega)
    have gz0 : 0 ≤ g * z := Int.mul_nonneg (by omega) (by omega)
    have gz1 : g * z ≤ 3 * 23 := Int.mul_le_mul g1 z1 (by omega) (by decide)
    refine ⟨.tup [.int (7 * g), .int (5 * g), .int (g * z)], h7, mF_rt (s' := [some (.ref b), some (.int g), some (.int (hh : Int)), some (.int (kk : Int)), some (.int rq), some (.ref h4.length), none]) ?_, trip (by omega) (by omega) (by omega) (by omega) gz0 (by omega), kk6.trans k7⟩
    show OF m_law_over [some (.ref b), none, none, none, none, none, none] h = _
    simp only [OF] at *
    unfold m_law_over
    rw [seq_nx f6, seq_nx f5, seq_nx f4, seq_nx f3]
    generalize hr : g * z = r at *
    simp -implicitDefEqProofs [S2_law_over, eh6', eq, dMul_i m7, dMul_i m5, e7, dMul_i mz, hr]
  · rw [decide_eq_false xe] at eq
    have f2 : OF S2_law_over [some (.ref b), some (.int g), some (.int (hh : Int)), some (.int (kk : Int)), some (.int rq), some (.ref h4.length), none] h5 = .ok (.nx, [some (.ref b), some (.int g), some (.int (hh : Int)), some (.int (kk : Int)), some (.int rq), some (.ref h4.length), none], h6) := by
      simp -implicitDefEqProofs [OF, S2_law_over, eh6', eq]
    obtain ⟨p, h7, e7, hp, k7⟩ := s_pick k6.bag (l := xs.map .int) (n := h4.length) l6 (by
      have := q.b_lt
      have := (((k1.trans k2).trans k3).trans k4).le
      omega) (by
      have := q.c_lt
      have := (((k1.trans k2).trans k3).trans k4).le
      omega) (by simpa using xe) (by rw [List.length_map]; omega)
    obtain ⟨x, hx, rfl⟩ := List.mem_map.mp hp
    obtain ⟨bx0, bx1, bx2⟩ := hxs.1 x hx
    have f1 : OF S1_law_over [some (.ref b), some (.int g), some (.int (hh : Int)), some (.int (kk : Int)), some (.int rq), some (.ref h4.length), none] h6 = .ok (.nx, [some (.ref b), some (.int g), some (.int (hh : Int)), some (.int (kk : Int)), some (.int rq), some (.ref h4.length), some (.int x)], h7) := by
      simp -implicitDefEqProofs [OF, S1_law_over, e7]
    have mo : mulOk x (hh : Int) = true := mul_sm (by omega) (by omega)
    have xh1 : x * (hh : Int) ≤ 60 * 60 := Int.mul_le_mul bx1 (by omega) (by omega) (by decide)
    obtain ⟨t0, t1, t2⟩ := fdiv_bnd (a := x * (hh : Int)) (n := kk) (by omega) (by omega)
    have t3 : 1 ≤ (x * (hh : Int)).fdiv (kk : Int) := by
      rw [Int.fdiv_eq_ediv_of_nonneg _ (by omega)]
      exact (Int.le_ediv_iff_mul_le (by omega)).mpr (by omega)
    have ft := fun hp => aFdv_i (i := x * (hh : Int)) (j := (kk : Int)) (h := hp) (divOk_small (by omega) (by omega))
    obtain ⟨w, hw⟩ : ∃ w, w = (x * (hh : Int)).fdiv (kk : Int) := ⟨_, rfl⟩
    rw [← hw] at t0 t1 t2 t3 ft
    obtain ⟨t, h8, e8, a0, a1, k8⟩ := s_drawS k7.bag (n := w) (by omega) (by omega)
    have mt : mulOk (1 + t) (kk : Int) = true := mul_sm (by omega) (by omega)
    have tk : (1 + t) * (kk : Int) ≤ w * (kk : Int) := Int.mul_le_mul_of_nonneg_right (by omega) (by omega)
    have tk0 : 0 ≤ (1 + t) * (kk : Int) := Int.mul_nonneg (by omega) (by omega)
    refine ⟨.tup [.int (hh : Int), .int (kk : Int), .int (x * hh - (1 + t) * kk)], h8, mF_rt (s' := [some (.ref b), some (.int g), some (.int (hh : Int)), some (.int (kk : Int)), some (.int rq), some (.ref h4.length), some (.int x)]) ?_, trip (by omega) (by omega) (by omega) (by omega) (by omega) (by omega), (kk6.trans k7).trans k8⟩
    show OF m_law_over [some (.ref b), none, none, none, none, none, none] h = _
    simp only [OF] at *
    unfold m_law_over
    rw [seq_nx f6, seq_nx f5, seq_nx f4, seq_nx f3, seq_nx f2, seq_nx f1]
    generalize hr : x * (hh : Int) = r at *
    generalize hr2 : (1 + t) * (kk : Int) = r2 at *
    simp -implicitDefEqProofs [dMul_i mo, hr, ft, e8, dMul_i mt, hr2]
end K35

namespace K35
open PySem Vq
abbrev XF {α : Type} (f : Fn → Fn → Fn → Fn → Fn → α) : α := f F_law_over F_law_pick F_law_draw F_law_divisors F_law_great
/-- triples found so far -/
structure Trp (b c : Nat) (h0 : VH) (F : Nat) (h : VH) (N : Nat) : Prop where
  keep : Keep b c h0 h
  ex : ∃ L, h[F]? = some (.lst L) ∧ (∀ t ∈ L, TripD t) ∧ L.length ≤ N
theorem Trp.go {b c : Nat} {h0 : VH} {F : Nat} {h h1 : VH} {N : Nat} (q0 : Hb b c h0) (hF : h0.length ≤ F) (f : Trp b c h0 F h N) (k : Keep b c h h1) : Trp b c h0 F h1 N := by
  obtain ⟨L, c1, vr, z⟩ := f.ex
  exact ⟨f.keep.trans k, L, Keep.cell q0 hF k c1, vr, z⟩
theorem Trp.app {b c : Nat} {h0 : VH} {F : Nat} {h : VH} {N : Nat} (q0 : Hb b c h0) (hF : h0.length ≤ F) (f : Trp b c h0 F h N) {i : Nat} {X : VE} {s : VS} {t : D} {h1 : VH} (si : s[i]? = some (some (.ref F))) (ea : X s h = .ok (t, h1)) (k1 : Keep b c h h1) (ht : TripD t) (hN : N ≤ 1000) :
    ∃ h', (vDrop (vMt "list" mAppend (vVar i) (vCons X vNil))) s h = .ok (.nx, s, h') ∧ Trp b c h0 F h' (N + 1) := by
  obtain ⟨L, cF, vr, z⟩ := f.ex
  have c1 : h1[F]? = some (.lst L) := Keep.cell q0 hF k1 cF
  have ap := mAppend_of (d := t) c1 (by omega)
  have ty := tyL_of (lk_of cF)
  have ty1 := tyL_of (lk_of c1)
  have bl := q0.b_lt
  have cl := q0.c_lt
  refine ⟨h1.set F (.lst (L ++ [t])), ?_, ⟨(f.keep.trans k1).set hF (by omega) (by omega), L ++ [t], List.getElem?_set_self (lt_of_get c1), fun x hx => ?_, by rw [List.length_append, List.length_singleton]; omega⟩⟩
  · simp -implicitDefEqProofs [vVar, si, ty, ea, ty1, ap]
  · rcases List.mem_append.mp hx with m | m
    · exact vr x m
    · rw [List.mem_singleton.mp m]
      exact ht
theorem s_triples {h0 : VH} {b c : Nat} (q0 : Hb b c h0) : ∃ P h', F_law_triples [.ref b] h0 = .ok (.ref P, h') ∧ Trp b c h0 P h' 11 ∧ h0.length ≤ P := by
  have mb : (1000000 : Int) ≤ MAXN := by decide
  -- h, k, great
  obtain ⟨x, h1, e1, x0, x1, k1⟩ := s_drawS q0 (n := 60) (by decide) (by decide)
  obtain ⟨y, h2, e2, y0, y1, k2⟩ := s_drawS k1.bag (n := 60) (by decide) (by decide)
  obtain ⟨w, h3, e3, w0, w1, k3⟩ := s_great k2.bag
  obtain ⟨gr, hgr⟩ : ∃ gr, gr = if w < 0 then -w else w := ⟨_, rfl⟩
  have gr0 : 0 ≤ gr := by rw [hgr]; split <;> omega
  have gr1 : gr ≤ MAXN := by rw [hgr]; split <;> omega
  have ab : bAbs [.int w] h3 = some (.int gr, h3) := by rw [hgr]; rfl
  obtain ⟨hh, ehh⟩ : ∃ hh : Int, hh = 1 + x := ⟨_, rfl⟩
  obtain ⟨kk, ekk⟩ : ∃ kk : Int, kk = 1 + y := ⟨_, rfl⟩
  have f12 : XF S12_law_triples [some (.ref b), none, none, none, none, none, none, none, none] h0 = .ok (.nx, [some (.ref b), some (.int hh), some (.int kk), some (.int gr), none, none, none, none, none], h3) := by
    rw [ehh, ekk]
    simp -implicitDefEqProofs [XF, S12_law_triples, e1, e2, e3, ab]
  -- the first three
  have mhk : mulOk hh kk = true := mul_sm (by omega) (by omega)
  have hk0 : 0 ≤ hh * kk := Int.mul_nonneg (by omega) (by omega)
  have hk1 : hh * kk ≤ 60 * 60 := Int.mul_le_mul (by omega) (by omega) (by omega) (by decide)
  obtain ⟨p, h4, e4, hp, k4⟩ := s_pickL k3.bag [.int 0, .int hh, .int kk, .int (hh * kk), .int 1] (by simp) (by simp)
  have hp : ∃ d : Int, p = .int d ∧ 0 ≤ d ∧ d ≤ 3600 := by
    simp only [List.mem_cons, List.not_mem_nil, or_false] at hp
    rcases hp with rfl | rfl | rfl | rfl | rfl <;> exact ⟨_, rfl, by omega, by omega⟩
  obtain ⟨d1, rfl, d10, d11⟩ := hp
  obtain ⟨d2, h5, e5, d20, d21, k5⟩ := s_drawS k4.bag (n := 3600) (by decide) (by decide)
  obtain ⟨h6, eh6⟩ : ∃ h6, h6 = h5 ++ [.lst [.tup [.int hh, .int kk, .int d1], .tup [.int hh, .int kk, .int d2], .tup [.int kk, .int hh, .int gr]]] := ⟨_, rfl⟩
  have f11 : XF S11_law_triples [some (.ref b), some (.int hh), some (.int kk), some (.int gr), none, none, none, none, none] h3 = .ok (.nx, [some (.ref b), some (.int hh), some (.int kk), some (.int gr), some (.ref h5.length), none, none, none, none], h6) := by
    have t := eh6.symm
    generalize hr : hh * kk = r at *
    simp -implicitDefEqProofs [XF, S11_law_triples, dMul_i mhk, hr, e4, e5, t]
  have k05 := (((k1.trans k2).trans k3).trans k4).trans k5
  have k06 : Keep b c h0 h6 := by rw [eh6]; exact k05.app _
  obtain ⟨F, hFe⟩ : ∃ F, F = h5.length := ⟨_, rfl⟩
  rw [← hFe] at f11
  have hF : h0.length ≤ F := by rw [hFe]; exact k05.le
  have t6 : Trp b c h0 F h6 3 := by
    refine ⟨k06, _, by rw [eh6, hFe]; exact List.getElem?_concat_length .., fun t ht => ?_, Nat.le_refl _⟩
    simp only [List.mem_cons, List.not_mem_nil, or_false] at ht
    rcases ht with rfl | rfl | rfl
    · exact trip (by omega) (by omega) (by omega) (by omega) (by omega) (by omega)
    · exact trip (by omega) (by omega) (by omega) (by omega) (by omega) (by omega)
    · exact trip (by omega) (by omega) (by omega) (by omega) gr0 gr1
  -- own
  obtain ⟨z, h7, e7, z0, z1, k7⟩ := s_drawS t6.keep.bag (n := 59) (by decide) (by decide)
  obtain ⟨p, h8, e8, hp, k8⟩ := s_pickL k7.bag [.tup [.int 59, .int 60], .tup [.int 60, .int 59], .tup [.int 7, .int 60], .tup [.int (1 + z), .int 60], .tup [.int hh, .int hh], .tup [.int 1, .int kk], .tup [.int 1, .int 1]] (by simp) (by simp)
  have hp : ∃ u v : Nat, p = .tup [.int (u : Int), .int (v : Int)] ∧ 0 < u ∧ u ≤ 60 ∧ 0 < v ∧ v ≤ 60 := by
    have mk : ∀ i j : Int, 0 < i → i ≤ 60 → 0 < j → j ≤ 60 → ∃ u v : Nat, D.tup [.int i, .int j] = .tup [.int (u : Int), .int (v : Int)] ∧ 0 < u ∧ u ≤ 60 ∧ 0 < v ∧ v ≤ 60 := fun i j a b c d =>
      ⟨i.toNat, j.toNat, by rw [Int.toNat_of_nonneg (by omega), Int.toNat_of_nonneg (by omega)], by omega, by omega, by omega, by omega⟩
    simp only [List.mem_cons, List.not_mem_nil, or_false] at hp
    rcases hp with rfl | rfl | rfl | rfl | rfl | rfl | rfl <;> exact mk _ _ (by omega) (by omega) (by omega) (by omega)
  obtain ⟨u, v, rfl, u0, u1, v0, v1⟩ := hp
  have f10 : XF S10_law_triples [some (.ref b), some (.int hh), some (.int kk), some (.int gr), some (.ref F), none, none, none, none] h6 = .ok (.nx, [some (.ref b), some (.int hh), some (.int kk), some (.int gr), some (.ref F), some (.tup [.int (u : Int), .int (v : Int)]), none, none, none], h8) := by
    simp -implicitDefEqProofs [XF, S10_law_triples, e7, e8]
  have xd := x_divisors (h := u) (k := v) (by omega) (by omega) h8
  obtain ⟨h9, eh9⟩ : ∃ h9, h9 = h8 ++ [.lst (intsN (dv u v))] := ⟨_, rfl⟩
  rw [← eh9] at xd
  have l9 : lk h9 h8.length = some (intsN (dv u v)) := by rw [eh9]; exact lk_at _ _ []
  have la := last_div (h := u) (k := v) u0 v0
  obtain ⟨gg, hgg⟩ : ∃ gg, gg = Nat.gcd u v := ⟨_, rfl⟩
  have gp : 0 < gg := by rw [hgg]; exact Nat.gcd_pos_of_pos_left _ u0
  have gl : gg ≤ v := by rw [hgg]; exact Nat.gcd_le_right _ v0
  rw [← hgg] at la
  have f9 : XF S9_law_triples [some (.ref b), some (.int hh), some (.int kk), some (.int gr), some (.ref F), some (.tup [.int (u : Int), .int (v : Int)]), none, none, none] h8 = .ok (.nx, [some (.ref b), some (.int hh), some (.int kk), some (.int gr), some (.ref F), some (.tup [.int (u : Int), .int (v : Int)]), some (.int (gg : Int)), none, none], h9) := by
    generalize intsN (dv u v) = uu at *
    have z0 := at0
    have z1 := at1
    simp -implicitDefEqProofs [XF, S9_law_triples, z0, z1, xd, l9, la]
  have k9 : Keep b c h8 h9 := by rw [eh9]; exact k8.bag.keep _
  have t9 := t6.go q0 hF ((k7.trans k8).trans k9)
  have muv : mulOk (u : Int) (v : Int) = true := mul_sm (by omega) (by omega)
  have uv0 : 0 ≤ (u : Int) * (v : Int) := Int.mul_nonneg (by omega) (by omega)
  have uv1 : (u : Int) * (v : Int) ≤ 60 * 60 := Int.mul_le_mul (by omega) (by omega) (by omega) (by decide)
  obtain ⟨q0', q1, q2⟩ := fdiv_bnd (a := (u : Int) * (v : Int)) (n := gg) gp uv0
  obtain ⟨qq, hqq⟩ : ∃ qq, qq = ((u : Int) * (v : Int)).fdiv (gg : Int) := ⟨_, rfl⟩
  have fq := fun hp => aFdv_i (i := (u : Int) * (v : Int)) (j := (gg : Int)) (h := hp) (divOk_small (by omega) (by omega))
  rw [← hqq] at q0' q1 q2 fq
  obtain ⟨la', hla⟩ : ∃ la', la' = qq - (u : Int) - (v : Int) := ⟨_, rfl⟩
  have f8 : XF S8_law_triples [some (.ref b), some (.int hh), some (.int kk), some (.int gr), some (.ref F), some (.tup [.int (u : Int), .int (v : Int)]), some (.int (gg : Int)), none, none] h9 = .ok (.nx, [some (.ref b), some (.int hh), some (.int kk), some (.int gr), some (.ref F), some (.tup [.int (u : Int), .int (v : Int)]), some (.int (gg : Int)), some (.int la'), none], h9) := by
    have z0 := at0
    have z1 := at1
    rw [hla]
    generalize hr : (u : Int) * (v : Int) = r at *
    simp -implicitDefEqProofs [XF, S8_law_triples, z0, z1, dMul_i muv, hr, fq]
  -- two more
  obtain ⟨dA, hdA⟩ : ∃ dA, dA = if 0 < la' then la' else 0 := ⟨_, rfl⟩
  have mxe : bMax [.int 0, .int la'] h9 = some (.int dA, h9) := by rw [hdA]; rfl
  obtain ⟨dB, hdB⟩ : ∃ dB, dB = if 0 < la' + (gg : Int) then la' + (gg : Int) else MAXN := ⟨_, rfl⟩
  obtain ⟨L9, c9, v9, z9⟩ := t9.ex
  obtain ⟨hA, ehA⟩ : ∃ hA, hA = h9 ++ [.lst [.tup [.int u, .int v, .int dA], .tup [.int u, .int v, .int dB]]] := ⟨_, rfl⟩
  have cA : hA[F]? = some (.lst L9) := by rw [ehA]; exact get_at c9
  have cM : hA[h9.length]? = some (.lst [.tup [.int u, .int v, .int dA], .tup [.int u, .int v, .int dB]]) := by rw [ehA]; exact List.getElem?_concat_length ..
  have ex := mExt2_r cA cM (by simp; omega)
  have ty9 := tyL_of (lk_of c9)
  have tyA := tyL_of (lk_of cA)
  obtain ⟨hB, ehB⟩ : ∃ hB, hB = hA.set F (.lst (L9 ++ [.tup [.int u, .int v, .int dA], .tup [.int u, .int v, .int dB]])) := ⟨_, rfl⟩
  rw [← ehB] at ex
  have bl := q0.b_lt
  have cl := q0.c_lt
  have kB : Keep b c h0 hB := by
    rw [ehB, ehA]
    exact (t9.keep.app _).set hF (by omega) (by omega)
  have tB : Trp b c h0 F hB 5 := by
    refine ⟨kB, _, by rw [ehB]; exact List.getElem?_set_self (lt_of_get cA), fun t ht => ?_, by simp; omega⟩
    rcases List.mem_append.mp ht with m | m
    · exact v9 t m
    · simp only [List.mem_cons, List.not_mem_nil, or_false] at m
      rcases m with rfl | rfl
      · exact trip (by omega) (by omega) (by omega) (by omega) (by rw [hdA]; split <;> omega) (by rw [hdA]; split <;> omega)
      · exact trip (by omega) (by omega) (by omega) (by omega) (by rw [hdB]; split <;> omega) (by rw [hdB]; split <;> omega)
  have f7 : XF S7_law_triples [some (.ref b), some (.int hh), some (.int kk), some (.int gr), some (.ref F), some (.tup [.int (u : Int), .int (v : Int)]), some (.int (gg : Int)), some (.int la'), none] h9 = .ok (.nx, [some (.ref b), some (.int hh), some (.int kk), some (.int gr), some (.ref F), some (.tup [.int (u : Int), .int (v : Int)]), some (.int (gg : Int)), some (.int la'), none], hB) := by
    have z0 := at0
    have z1 := at1
    have t := ehA.symm
    have p30 := pow30 h9
    clear fq q2 hqq mxe xd
    have mxe : bMax [.int 0, .int la'] h9 = some (.int dA, h9) := by rw [hdA]; rfl
    by_cases cc : 0 < la' + (gg : Int)
    · rw [if_pos cc] at hdB
      rw [hdB] at t
      simp -implicitDefEqProofs [XF, S7_law_triples, z0, z1, mxe, cc, ty9, t, tyA, ex]
    · rw [if_neg cc] at hdB
      rw [hdB] at t
      clear hdB ehB ehA tB cM kB cA
      generalize MAXN = m at *
      simp -implicitDefEqProofs [XF, S7_law_triples, z0, z1, mxe, cc, p30, ty9, t, tyA, ex]
  -- g
  obtain ⟨a, hC, eC, a0, a1, kC⟩ := s_drawS tB.keep.bag (n := 29) (by decide) (by decide)
  obtain ⟨p, hD, eD, hp, kD⟩ := s_pickL kC.bag [.int 2, .int 3, .int 4, .int 6, .int 12, .int 30, .int (2 + a)] (by simp) (by simp)
  have hp : ∃ g : Nat, p = .int (g : Int) ∧ 2 ≤ g ∧ g ≤ 30 := by
    simp only [List.mem_cons, List.not_mem_nil, or_false] at hp
    rcases hp with rfl | rfl | rfl | rfl | rfl | rfl | rfl
    · exact ⟨2, rfl, by decide, by decide⟩
    · exact ⟨3, rfl, by decide, by decide⟩
    · exact ⟨4, rfl, by decide, by decide⟩
    · exact ⟨6, rfl, by decide, by decide⟩
    · exact ⟨12, rfl, by decide, by decide⟩
    · exact ⟨30, rfl, by decide, by decide⟩
    · exact ⟨(2 + a).toNat, by rw [Int.toNat_of_nonneg (by omega)], by omega, by omega⟩
  obtain ⟨g, rfl, g0, g1⟩ := hp
  have f6 : XF S6_law_triples [some (.ref b), some (.int hh), some (.int kk), some (.int gr), some (.ref F), some (.tup [.int (u : Int), .int (v : Int)]), some (.int (gg : Int)), some (.int la'), none] hB = .ok (.nx, [some (.ref b), some (.int hh), some (.int kk), some (.int gr), some (.ref F), some (.tup [.int (u : Int), .int (v : Int)]), some (.int (gg : Int)), some (.int la'), some (.int (g : Int))], hD) := by
    simp -implicitDefEqProofs [XF, S6_law_triples, eC, eD]
  have tD := tB.go q0 hF (kC.trans kD)
  obtain ⟨s0, s1, s2⟩ := fdiv_bnd (a := 60) (n := g) (by omega) (by decide)
  obtain ⟨sq, hsq⟩ : ∃ sq, sq = (60 : Int).fdiv (g : Int) := ⟨_, rfl⟩
  have s3 : 1 ≤ (60 : Int).fdiv (g : Int) := by
    rw [Int.fdiv_eq_ediv_of_nonneg _ (by omega)]
    exact (Int.le_ediv_iff_mul_le (by omega)).mpr (by omega)
  have fs := fun hp => aFdv_i (i := 60) (j := (g : Int)) (h := hp) (divOk_small (by omega) (by omega))
  rw [← hsq] at s0 s1 s2 s3 fs
  obtain ⟨m, hE, eE, m0, m1, kE⟩ := s_drawS tD.keep.bag (n := sq) (by omega) (by omega)
  obtain ⟨n, hG, eG, n0, n1, kG⟩ := s_drawS kE.bag (n := sq) (by omega) (by omega)
  have mm : mulOk (g : Int) (1 + m) = true := mul_sm (by omega) (by omega)
  have mn : mulOk (g : Int) (1 + n) = true := mul_sm (by omega) (by omega)
  have bm : 0 < (g : Int) * (1 + m) ∧ (g : Int) * (1 + m) ≤ 60 := by
    have a := Int.mul_le_mul_of_nonneg_left (show 1 + m ≤ sq by omega) (show (0 : Int) ≤ (g : Int) by omega)
    rw [Int.mul_comm (g : Int) sq] at a
    have b := Int.mul_pos (show 0 < (g : Int) by omega) (show 0 < 1 + m by omega)
    omega
  have bn : 0 < (g : Int) * (1 + n) ∧ (g : Int) * (1 + n) ≤ 60 := by
    have a := Int.mul_le_mul_of_nonneg_left (show 1 + n ≤ sq by omega) (show (0 : Int) ≤ (g : Int) by omega)
    rw [Int.mul_comm (g : Int) sq] at a
    have b := Int.mul_pos (show 0 < (g : Int) by omega) (show 0 < 1 + n by omega)
    omega
  obtain ⟨h', eh'⟩ : ∃ h' : Int, h' = (g : Int) * (1 + m) := ⟨_, rfl⟩
  obtain ⟨k', ek'⟩ : ∃ k' : Int, k' = (g : Int) * (1 + n) := ⟨_, rfl⟩
  obtain ⟨sl, hsl⟩ : ∃ sl : VS, sl = [some (.ref b), some (.int h'), some (.int k'), some (.int gr), some (.ref F), some (.tup [.int (u : Int), .int (v : Int)]), some (.int (gg : Int)), some (.int la'), some (.int (g : Int))] := ⟨_, rfl⟩
  have f5 : XF S5_law_triples [some (.ref b), some (.int hh), some (.int kk), some (.int gr), some (.ref F), some (.tup [.int (u : Int), .int (v : Int)]), some (.int (gg : Int)), some (.int la'), some (.int (g : Int))] hD = .ok (.nx, sl, hG) := by
    rw [hsl, eh', ek']
    generalize hr1 : (g : Int) * (1 + m) = r1 at *
    generalize hr2 : (g : Int) * (1 + n) = r2 at *
    simp -implicitDefEqProofs [XF, S5_law_triples, fs, eE, eG, dMul_i mm, dMul_i mn, hr1, hr2]
  rw [← eh'] at bm
  rw [← ek'] at bn
  have tG := tD.go q0 hF (kE.trans kG)
  have s4 : sl[4]? = some (some (.ref F)) := by rw [hsl]; rfl
  -- g * .. + 1 + ..
  obtain ⟨r, hH, eH, r0, r1, kH⟩ := s_drawS tG.keep.bag (n := 60) (by decide) (by decide)
  obtain ⟨r', hI, eI, r0', r1', kI⟩ := s_drawS kH.bag (n := (g : Int) - 1) (by omega) (by omega)
  have mr : mulOk (g : Int) r = true := mul_sm (by omega) (by omega)
  have gr0' : 0 ≤ (g : Int) * r := Int.mul_nonneg (by omega) r0
  have gr1' : (g : Int) * r ≤ 30 * 60 := Int.mul_le_mul (by omega) (by omega) r0 (by decide)
  obtain ⟨hJ, f4, tJ⟩ : ∃ hJ, XF S4_law_triples sl hG = .ok (.nx, sl, hJ) ∧ Trp b c h0 F hJ 6 := tG.app q0 hF (i := 4) (t := .tup [.int h', .int k', .int ((g : Int) * r + 1 + r')]) (h1 := hI) s4 (by
    rw [hsl]
    generalize hr1 : (g : Int) * r = r1 at *
    simp -implicitDefEqProofs [eH, eI, dMul_i mr, hr1]) (kH.trans kI) (trip bm.1 bm.2 bn.1 bn.2 (by omega) (by omega)) (by decide)
  -- min(10 ** 30, ..)
  obtain ⟨o0, o1, o2⟩ := fdiv_bnd (a := gr) (n := g) (by omega) gr0
  obtain ⟨oq, hoq⟩ : ∃ oq, oq = gr.fdiv (g : Int) := ⟨_, rfl⟩
  have fo := fun hp => aFdv_i (i := gr) (j := (g : Int)) (h := hp) (divOk_small (by omega) (by omega))
  rw [← hoq] at o0 o1 o2 fo
  have mo : mulOk oq (g : Int) = true := mul_sm (by omega) (by omega)
  have oo0 : 0 ≤ oq * (g : Int) := Int.mul_nonneg o0 (by omega)
  obtain ⟨t, hK, eK, t0, t1, kK⟩ := s_drawS tJ.keep.bag (n := (g : Int)) (by omega) (by omega)
  have mne := mn_is MAXN (oq * (g : Int) + t) hK
  obtain ⟨hL, f3, tL⟩ : ∃ hL, XF S3_law_triples sl hJ = .ok (.nx, sl, hL) ∧ Trp b c h0 F hL 7 := tJ.app q0 hF (i := 4) (t := .tup [.int h', .int k', .int (min MAXN (oq * (g : Int) + t))]) (h1 := hK) s4 (by
    have p30 := pow30 hJ
    rw [hsl]
    generalize min MAXN (oq * (g : Int) + t) = mi at *
    generalize hr1 : oq * (g : Int) = r1 at *
    generalize MAXN = mx at *
    simp -implicitDefEqProofs [p30, fo, dMul_i mo, hr1, eK, mne]) kK (trip bm.1 bm.2 bn.1 bn.2 (by omega) (by omega)) (by decide)
  -- sums
  obtain ⟨i, hM, eM, i0, i1, kM⟩ := s_drawS tL.keep.bag (n := 9) (by decide) (by decide)
  obtain ⟨j, hN, eN, j0, j1, kN⟩ := s_drawS kM.bag (n := 9) (by decide) (by decide)
  have mi : mulOk h' i = true := mul_sm (by omega) (by omega)
  have mj : mulOk k' j = true := mul_sm (by omega) (by omega)
  have hi0 : 0 ≤ h' * i := Int.mul_nonneg (by omega) i0
  have hi1 : h' * i ≤ 60 * 9 := Int.mul_le_mul bm.2 (by omega) i0 (by decide)
  have kj0 : 0 ≤ k' * j := Int.mul_nonneg (by omega) j0
  have kj1 : k' * j ≤ 60 * 9 := Int.mul_le_mul bn.2 (by omega) j0 (by decide)
  obtain ⟨hO, f2, tO⟩ : ∃ hO, XF S2_law_triples sl hL = .ok (.nx, sl, hO) ∧ Trp b c h0 F hO 8 := tL.app q0 hF (i := 4) (t := .tup [.int h', .int k', .int (h' * i + k' * j)]) (h1 := hN) s4 (by
    rw [hsl]
    generalize hr1 : h' * i = r1 at *
    generalize hr2 : k' * j = r2 at *
    simp -implicitDefEqProofs [eM, eN, dMul_i mi, dMul_i mj, hr1, hr2]) (kM.trans kN) (trip bm.1 bm.2 bn.1 bn.2 (by omega) (by omega)) (by decide)
  -- far ones
  obtain ⟨e, hP, eP, e0, e1', kP⟩ := s_drawS tO.keep.bag (n := 3600) (by decide) (by decide)
  obtain ⟨p, hQ, eQ, hp, kQ⟩ := s_pickL kP.bag [.int 0, .int 1, .int e] (by simp) (by simp)
  have hp : ∃ d : Int, p = .int d ∧ 0 ≤ d ∧ d ≤ 3600 := by
    simp only [List.mem_cons, List.not_mem_nil, or_false] at hp
    rcases hp with rfl | rfl | rfl <;> exact ⟨_, rfl, by omega, by omega⟩
  obtain ⟨f, rfl, ff0, ff1⟩ := hp
  obtain ⟨hR, f1, tR⟩ : ∃ hR, XF S1_law_triples sl hO = .ok (.nx, sl, hR) ∧ Trp b c h0 F hR 9 := tO.app q0 hF (i := 4) (t := .tup [.int (v : Int), .int (u : Int), .int (MAXN - f)]) (h1 := hQ) s4 (by
    have p30 := pow30 hO
    have z0 := at0
    have z1 := at1
    rw [hsl]
    generalize MAXN = mx at *
    simp -implicitDefEqProofs [p30, z0, z1, eP, eQ]) (kP.trans kQ) (trip (by omega) (by omega) (by omega) (by omega) (by omega) (by omega)) (by decide)
  -- the last two
  obtain ⟨oA, hS, eS, oA1, kS⟩ := s_over tR.keep.bag
  obtain ⟨oB, hT, eT, oB1, kT⟩ := s_over kS.bag
  have tT := tR.go q0 hF (kS.trans kT)
  obtain ⟨LT, cT, vT, zT⟩ := tT.ex
  obtain ⟨hU, ehU⟩ : ∃ hU, hU = hT ++ [.lst [oA, oB]] := ⟨_, rfl⟩
  have cU : hU[F]? = some (.lst LT) := by rw [ehU]; exact get_at cT
  have cV : hU[hT.length]? = some (.lst [oA, oB]) := by rw [ehU]; exact List.getElem?_concat_length ..
  have ad := dAdd_L cU cV (by simp; omega)
  obtain ⟨hV, ehV⟩ : ∃ hV, hV = hU ++ [.lst (LT ++ [oA, oB])] := ⟨_, rfl⟩
  rw [← ehV] at ad
  have kV : Keep b c h0 hV := by rw [ehV, ehU]; exact (tT.keep.app _).app _
  have hPl : h0.length ≤ hU.length := by
    have := tT.keep.le
    rw [ehU]
    simp
    omega
  refine ⟨hU.length, hV, mF_rt (s' := sl) ?_, ⟨kV, LT ++ [oA, oB], by rw [ehV]; exact List.getElem?_concat_length .., fun t ht => ?_, by simp; omega⟩, hPl⟩
  · show XF m_law_triples [some (.ref b), none, none, none, none, none, none, none, none] h0 = _
    simp only [XF] at *
    unfold m_law_triples
    rw [seq_nx f12, seq_nx f11, seq_nx f10, seq_nx f9, seq_nx f8, seq_nx f7, seq_nx f6, seq_nx f5, seq_nx f4, seq_nx f3, seq_nx f2, seq_nx f1, hsl]
    have t := ehU.symm
    simp -implicitDefEqProofs [eS, eT, t, ad]
  · rcases List.mem_append.mp ht with q | q
    · exact vT t q
    · simp only [List.mem_cons, List.not_mem_nil, or_false] at q
      rcases q with rfl | rfl
      · exact oA1
      · exact oB1
end K35

namespace K35
open PySem Vq
theorem pv_sh {v : D} (p : Pv v) : ∃ T, ∀ h, bReprD [v] h = some (.str T, h) := by
  obtain ⟨p, h1, h2, h3, h4⟩ := p
  exact ⟨p.shown, fun h => (sh_is (h := h) (h1 _) h2 (by omega) (by omega)).2 h fun _ _ e => e⟩
theorem w_words : (gdQ (.str (Str.ofString "form")) = true ∧ (Str.ofString "form").length ≤ 7) ∧ (gdQ (.str (Str.ofString "great")) = true ∧ (Str.ofString "great").length ≤ 7) ∧ (gdQ (.str (Str.ofString "told")) = true ∧ (Str.ofString "told").length ≤ 7) ∧ (gdQ (.str (Str.ofString "divides")) = true ∧ (Str.ofString "divides").length ≤ 7) := by decide +kernel
theorem pv_str {s : Str} (h : gdQ (.str s) = true ∧ s.length ≤ 7) : Pv (.str s) := pv_of (by simp only [okD]; exact h) (Nat.le_of_ble_eq_true rfl) (Nat.le_of_ble_eq_true rfl)
theorem pv_none : Pv .non := pv_of (by simp only [okD]) (Nat.le_of_ble_eq_true rfl) (Nat.le_of_ble_eq_true rfl)
theorem sumOf_in {t : D} {p : Int × Int} (so : sumOf t = some p) : 0 ≤ p.1 ∧ p.1 ≤ MAXN ∧ 0 ≤ p.2 ∧ p.2 ≤ MAXN := by
  unfold sumOf at so
  split at so
  · split at so
    · rename_i c
      cases so
      simp only [inN, Bool.and_eq_true, decide_eq_true_eq] at c
      exact ⟨c.1.1, c.1.2, c.2.1, c.2.2⟩
    · cases so
  · cases so
theorem pap_sum {v : D} {a b : Int} (e : papOf v = some (.sum a b)) : 0 ≤ a ∧ a ≤ MAXN ∧ 0 ≤ b ∧ b ≤ MAXN := by
  unfold papOf at e
  split at e
  · split at e
    · obtain ⟨p, so, ep⟩ := Option.map_eq_some_iff.mp e
      cases ep
      exact sumOf_in so
    · split at e
      · obtain ⟨p, so, ep⟩ := Option.map_eq_some_iff.mp e
        cases ep
      · split at e
        · obtain ⟨p, so, ep⟩ := Option.map_eq_some_iff.mp e
          cases ep
        · cases e
  · cases e
theorem pv_due {h k : Nat} (hh : h ≤ 60) (hk : k ≤ 60) {d g : Int} (v : D) : Pv (dueP h k d g (papOf v)) := by
  have mb : (1000000 : Int) ≤ MAXN := by decide
  cases e : papOf v with
  | none => exact pv_str w_words.1
  | some p =>
    cases p with
    | sum a b =>
      obtain ⟨a0, a1, b0, b1⟩ := pap_sum e
      rw [dueP_sum]
      split
      · exact pv_none
      · have x0 : 0 ≤ a * (h : Int) := Int.mul_nonneg a0 (by omega)
        have x1 : a * (h : Int) ≤ MAXN * 60 := Int.mul_le_mul a1 (by omega) (by omega) (by omega)
        have y0 : 0 ≤ b * (k : Int) := Int.mul_nonneg b0 (by omega)
        have y1 : b * (k : Int) ≤ MAXN * 60 := Int.mul_le_mul b1 (by omega) (by omega) (by omega)
        (exact pv_of (by (simp only [okD, okDs, w_sum, w_ab, w_sums, w_Sum, w_rest, w_Rest, w_nil, w_over, w_Over, w_overs, true_and, and_true] <;> and_intros <;> first | assumption | exact HUGE_log | exact lgs (by omega) (by omega))) (Nat.le_of_ble_eq_true rfl) (Nat.le_of_ble_eq_true rfl))
    | over x =>
      rw [dueP_over]
      split
      · exact pv_str w_words.2.1
      · split
        · split
          · exact pv_str w_words.2.2.1
          · exact pv_none
        · exact pv_str w_rest
    | rest x =>
      rw [dueP_rest]
      split
      · split
        · exact pv_str w_words.2.2.1
        · exact pv_none
      · exact pv_str w_words.2.2.2
abbrev PF {α : Type} (f : Fn → Fn → Fn → Fn → Fn → α) : α := f F_gap_paper_error F_law_due F_gap_paper F_law_is_of_form F_law_own_sort
def OkV (v : D) : Prop := okF v = true ∧ Szs v
theorem okv {v : D} (o : okF v = true) (z : szB v = true) : OkV v := ⟨o, szs_of z⟩
theorem paper_turn {h k g : Nat} {d : Int} (C : Case h k d g) {v : D} (hv : OkV v) (a5 a6 a7 a8 : Option D) (hp : VH) :
    ∃ h', PF B1_law_is_paper_right [some (.int (h : Int)), some (.int (k : Int)), some (.int d), some (.int (g : Int)), some (.tup [.int (h : Int), .int (k : Int), .int d, .int (g : Int)]), a5, a6, a7, a8, some v] hp = .ok (.nx, [some (.int (h : Int)), some (.int (k : Int)), some (.int d), some (.int (g : Int)), some (.tup [.int (h : Int), .int (k : Int), .int d, .int (g : Int)]), a5, a6, a7, a8, some v], h') ∧ Grow hp h' := by
  obtain ⟨h0, h1, k0, k1, d0, d1, g0, g1, gh, gk, eg⟩ := C
  obtain ⟨h1', e1, g1'⟩ := x_paper_error (h := h) (k := k) (d := d) (by omega) (by omega) k0 hv.1 hv.2 hp
  obtain ⟨h2', e2, g2'⟩ := x_due (h := h) (k := k) (d := d) (by omega) (by omega) k0 (g := (g : Int)) (by omega) (by omega) hv.1 hv.2 h1'
  rw [← eg] at e1
  obtain ⟨T, eT⟩ := pv_sh (pv_due h1 k1 (d := d) (g := (g : Int)) v)
  have r1 := eT h1'
  have r2 := eT h2'
  rw [bReprD_ap] at r1 r2
  refine ⟨h2', ?_, g1'.trans g2'⟩
  generalize dueP h k d (g : Int) (papOf v) = du at *
  simp -implicitDefEqProofs [PF, B1_law_is_paper_right, e1, r1, e2, r2]
theorem s_paper_right {h k g : Nat} {d : Int} (C : Case h k d g) (hp : VH) : ∃ h', F_law_is_paper_right [.int (h : Int), .int (k : Int), .int d, .int (g : Int)] hp = .ok (.bl true, h') ∧ Grow hp h' := by
  have mb : (1000000 : Int) ≤ MAXN := by decide
  have C' := C
  obtain ⟨h0, h1, k0, k1, d0, d1, g0, g1, gh, gk, eg⟩ := C'
  obtain ⟨w, t, T⟩ := told_is (h := h) (k := k) (d := d) h0 k0 (by omega) (by omega) d0 d1
  obtain ⟨cs, hcs⟩ : ∃ cs : D, cs = .tup [.int (h : Int), .int (k : Int), .int d, .int (g : Int)] := ⟨_, rfl⟩
  obtain ⟨told, htold⟩ : ∃ told : D, told = .tup [.str w, t] := ⟨_, rfl⟩
  obtain ⟨j1, e1, gr1⟩ := s_own_sort (h := h) (k := k) (d := d) h0 k0 (by omega) (by omega) d0 hp
  rw [T.sort] at e1
  have ntt : (∃ a b : Int, t = .tup [.int a, .int b]) ∨ ∃ x : Int, t = .int x := by
    rcases T.shape with ⟨_, a, b, e, _⟩ | ⟨_, x, e, _⟩
    · exact .inl ⟨a, b, e⟩
    · exact .inr ⟨x, e⟩
  have okT : OkV told := by
    rw [htold]
    rcases ntt with ⟨a, b, rfl⟩ | ⟨x, rfl⟩ <;> exact okv rfl rfl
  obtain ⟨p, hp1, hp2⟩ := T.pap
  rw [← htold, ] at hp1
  rw [← eg] at hp2
  have f6 : PF S6_law_is_paper_right [some (.int (h : Int)), some (.int (k : Int)), some (.int d), some (.int (g : Int)), none, none, none, none, none, none] hp = .ok (.nx, [some (.int (h : Int)), some (.int (k : Int)), some (.int d), some (.int (g : Int)), some cs, some (.str w), none, none, none, none], j1) := by
    rw [hcs]
    simp -implicitDefEqProofs [PF, S6_law_is_paper_right, e1]
  have pg := T.paper
  rw [← htold] at pg
  have f5 : PF S5_law_is_paper_right [some (.int (h : Int)), some (.int (k : Int)), some (.int d), some (.int (g : Int)), some cs, some (.str w), none, none, none, none] j1 = .ok (.nx, [some (.int (h : Int)), some (.int (k : Int)), some (.int d), some (.int (g : Int)), some cs, some (.str w), some told, none, none, none], j1) := by
    simp -implicitDefEqProofs [PF, S5_law_is_paper_right, pg]
  obtain ⟨j2, e2, gr2⟩ := x_of_form okT.1 okT.2 j1
  rw [hp1] at e2
  obtain ⟨j3, e3, gr3⟩ := x_due (h := h) (k := k) (d := d) (by omega) (by omega) k0 (g := (g : Int)) (by omega) (by omega) okT.1 okT.2 j2
  rw [hp1, hp2, ← hcs] at e3
  have nn : ∀ hh, dNotN .non .non hh = some (.bl false, hh) := fun _ => rfl
  have z0 : ∀ hh, (seqOf hh told).bind (fun l => Option.map (fun d => (d, hh)) (L2.atI l 0)) = some (.str w, hh) := fun _ => by rw [htold]; rfl
  have z1 : ∀ hh, (seqOf hh told).bind (fun l => Option.map (fun d => (d, hh)) (L2.atI l 1)) = some (t, hh) := fun _ => by rw [htold]; rfl
  have f4 : PF S4_law_is_paper_right [some (.int (h : Int)), some (.int (k : Int)), some (.int d), some (.int (g : Int)), some cs, some (.str w), some told, none, none, none] j1 = .ok (.nx, [some (.int (h : Int)), some (.int (k : Int)), some (.int d), some (.int (g : Int)), some cs, some (.str w), some told, none, none, none], j3) := by
    simp -implicitDefEqProofs [PF, S4_law_is_paper_right, e2, e3, nn, z0]
  have pvt : Pv told := by
    rw [htold]
    rcases T.shape with ⟨rfl, a, b, rfl, a0, a1, b0, b1⟩ | ⟨hw, x, rfl, x0, x1⟩
    · (exact pv_of (by (simp only [okD, okDs, w_sum, w_ab, w_sums, w_Sum, w_rest, w_Rest, w_nil, w_over, w_Over, w_overs, true_and, and_true] <;> and_intros <;> first | assumption | exact HUGE_log | exact lgs (by omega) (by omega))) (Nat.le_of_ble_eq_true rfl) (Nat.le_of_ble_eq_true rfl))
    · rcases hw with rfl | rfl <;> (exact pv_of (by (simp only [okD, okDs, w_sum, w_ab, w_sums, w_Sum, w_rest, w_Rest, w_nil, w_over, w_Over, w_overs, true_and, and_true] <;> and_intros <;> first | assumption | exact HUGE_log | exact lgs (by omega) (by omega))) (Nat.le_of_ble_eq_true rfl) (Nat.le_of_ble_eq_true rfl))
  obtain ⟨TT, eT⟩ := pv_sh pvt
  have r3 := eT j3
  rw [bReprD_ap] at r3
  obtain ⟨j4, e4, gr4⟩ := x_paper_error (h := h) (k := k) (d := d) (by omega) (by omega) k0 okT.1 okT.2 j3
  rw [← eg, hp1, hp2] at e4
  have f3 : PF S3_law_is_paper_right [some (.int (h : Int)), some (.int (k : Int)), some (.int d), some (.int (g : Int)), some cs, some (.str w), some told, none, none, none] j3 = .ok (.nx, [some (.int (h : Int)), some (.int (k : Int)), some (.int d), some (.int (g : Int)), some cs, some (.str w), some told, none, none, none], j4) := by
    simp -implicitDefEqProofs [PF, S3_law_is_paper_right, pg, r3, e4, nn]
  have f2 : PF S2_law_is_paper_right [some (.int (h : Int)), some (.int (k : Int)), some (.int d), some (.int (g : Int)), some cs, some (.str w), some told, none, none, none] j4 = .ok (.nx, [some (.int (h : Int)), some (.int (k : Int)), some (.int d), some (.int (g : Int)), some cs, some (.str w), some told, some t, none, none], j4) := by
    simp -implicitDefEqProofs [PF, S2_law_is_paper_right, z1]
  -- the values
  obtain ⟨vs, j5, f1, c5, g5, okvs, zvs⟩ : ∃ (vs : List D) (j5 : VH), PF S1_law_is_paper_right [some (.int (h : Int)), some (.int (k : Int)), some (.int d), some (.int (g : Int)), some cs, some (.str w), some told, some t, none, none] j4 = .ok (.nx, [some (.int (h : Int)), some (.int (k : Int)), some (.int d), some (.int (g : Int)), some cs, some (.str w), some told, some t, some (.ref j4.length), none], j5) ∧ j5[j4.length]? = some (.lst vs) ∧ Grow j4 j5 ∧ (∀ v ∈ vs, OkV v) ∧ vs.length ≤ 6 := by
    rcases T.shape with ⟨rfl, a, b, rfl, a0, a1, b0, b1⟩ | ⟨hw, x, rfl, x0, x1⟩
    · obtain ⟨vs, hvs⟩ : ∃ vs : List D, vs = [.tup [.str wS, .tup [.int (a + 1), .int b]], .tup [.str wS, .tup [.int a, .int (b + 1)]], .tup [.str wS, .tup [.int b, .int a]], .tup [.str wS, .tup [.int a, .int b, .int 0]]] := ⟨_, rfl⟩
      refine ⟨vs, j4 ++ [.lst vs], ?_, List.getElem?_concat_length .., .new _ _, fun v hv => ?_, by rw [hvs]; exact Nat.le_of_ble_eq_true rfl⟩
      · rw [hvs]
        have y0 := at0 (.int a) (.int b)
        have y1 := at1 (.int a) (.int b)
        simp -implicitDefEqProofs [PF, S1_law_is_paper_right, y0, y1]
      · rw [hvs] at hv
        simp only [List.mem_cons, List.not_mem_nil, or_false] at hv
        rcases hv with rfl | rfl | rfl | rfl <;> exact okv rfl rfl
    · have nw : ¬ w = Str.ofString "sum" := by
        rcases hw with rfl | rfl <;> decide +kernel
      have m2 : mulOk x 2 = true := mul_sm (by omega) (by omega)
      obtain ⟨vs, hvs⟩ : ∃ vs : List D, vs = [.tup [.str w, .int (x + 1)], .tup [.str w, .int (x + k)], .tup [.str w, .int (x - 1)], .tup [.str w, .int (x * 2)], .tup [.str w, .tup [.int x, .int x]], .tup [.str wS, .int x]] := ⟨_, rfl⟩
      refine ⟨vs, j4 ++ [.lst vs], ?_, List.getElem?_concat_length .., .new _ _, fun v hv => ?_, by rw [hvs]; exact Nat.le_of_ble_eq_true rfl⟩
      · rw [hvs]
        simp -implicitDefEqProofs [PF, S1_law_is_paper_right, nw, dMul_i m2]
      · rw [hvs] at hv
        simp only [List.mem_cons, List.not_mem_nil, or_false] at hv
        rcases hv with rfl | rfl | rfl | rfl | rfl | rfl <;> exact okv rfl rfl
  obtain ⟨us, hus⟩ : ∃ us : List D, us = [told, .tup [.str w, t, .int 0], .tup [.str w], .tup [told], .ref j5.length] := ⟨_, rfl⟩
  obtain ⟨j6, ej6⟩ : ∃ j, j = j5 ++ [.lst [.str w, t]] := ⟨_, rfl⟩
  obtain ⟨j7, ej7⟩ : ∃ j, j = j6 ++ [.lst us] := ⟨_, rfl⟩
  have c7 : j7[j4.length]? = some (.lst vs) := by rw [ej7, ej6]; exact get_at (get_at c5)
  have d7 : j7[j6.length]? = some (.lst us) := by rw [ej7]; exact List.getElem?_concat_length ..
  have ad := dAdd_L c7 d7 (by rw [hus]; simp; omega)
  obtain ⟨j8, ej8⟩ : ∃ j, j = j7 ++ [.lst (vs ++ us)] := ⟨_, rfl⟩
  rw [← ej8] at ad
  have c8 : j8[j7.length]? = some (.lst (vs ++ us)) := by rw [ej8]; exact List.getElem?_concat_length ..
  have okus : ∀ v ∈ us, OkV v := fun v hv => by
    rw [hus] at hv
    simp only [List.mem_cons, List.not_mem_nil, or_false] at hv
    rcases hv with rfl | rfl | rfl | rfl | rfl
    · exact okT
    · rcases ntt with ⟨a, b, rfl⟩ | ⟨x, rfl⟩ <;> exact okv rfl rfl
    · exact okv rfl rfl
    · rw [htold]
      exact okv rfl rfl
    · exact okv rfl rfl
  have a1 : dAdd told (.tup [.int 0]) j5 = some (.tup [.str w, t, .int 0], j5) := by
    rw [htold]
    simp [le_line (show 2 + 1 ≤ 16777216 by decide)]
  have sl1 : slD told none (some 1) j5 = some (.tup [.str w], j5) := by rw [htold]; rfl
  have sq : seqOf j5 told = some [.str w, t] := by rw [htold]; rfl
  have hit : (vIt (vOp dAdd (vVar 8) (vLst (vCons (vVar 6) (vCons (vOp dAdd (vVar 6) (vTup (vCons (vC (.int 0)) vNil))) (vCons (vSl (vVar 6) oNone (oSome (vC (.int 1)))) (vCons (vTup (vCons (vVar 6) vNil)) (vCons (vBl bList (vCons (vVar 6) vNil)) vNil)))))))) [some (.int (h : Int)), some (.int (k : Int)), some (.int d), some (.int (g : Int)), some cs, some (.str w), some told, some t, some (.ref j4.length), none] j5 = .ok (fun hh => lk hh j7.length, j8) := by
    have ev : (vOp dAdd (vVar 8) (vLst (vCons (vVar 6) (vCons (vOp dAdd (vVar 6) (vTup (vCons (vC (.int 0)) vNil))) (vCons (vSl (vVar 6) oNone (oSome (vC (.int 1)))) (vCons (vTup (vCons (vVar 6) vNil)) (vCons (vBl bList (vCons (vVar 6) vNil)) vNil))))))) [some (.int (h : Int)), some (.int (k : Int)), some (.int d), some (.int (g : Int)), some cs, some (.str w), some told, some t, some (.ref j4.length), none] j5 = .ok (.ref j7.length, j8) := by
      have ev2 := vLst_okR (r := vCons (vVar 6) (vCons (vOp dAdd (vVar 6) (vTup (vCons (vC (.int 0)) vNil))) (vCons (vSl (vVar 6) oNone (oSome (vC (.int 1)))) (vCons (vTup (vCons (vVar 6) vNil)) (vCons (vBl bList (vCons (vVar 6) vNil)) vNil))))) (s := [some (.int (h : Int)), some (.int (k : Int)), some (.int d), some (.int (g : Int)), some cs, some (.str w), some told, some t, some (.ref j4.length), none]) (h := j5) (h1 := j6) (ds := us) (by
        have t6 := ej6.symm
        rw [hus]
        simp -implicitDefEqProofs [a1, sl1, sq, t6]) (by rw [hus]; simp)
      rw [← ej7] at ev2
      generalize (vLst (vCons (vVar 6) (vCons (vOp dAdd (vVar 6) (vTup (vCons (vC (.int 0)) vNil))) (vCons (vSl (vVar 6) oNone (oSome (vC (.int 1)))) (vCons (vTup (vCons (vVar 6) vNil)) (vCons (vBl bList (vCons (vVar 6) vNil)) vNil)))))) = X at *
      simp -implicitDefEqProofs [ev2, ad]
    unfold vIt
    rw [ev]
    rfl
  obtain ⟨s', j9, eL0, ⟨a9, rfl⟩, gL⟩ := for_all (g := gP (pN 9)) (body := PF B1_law_is_paper_right) (xs := vs ++ us) (fun _ s h' => (∃ a9, s = [some (.int (h : Int)), some (.int (k : Int)), some (.int d), some (.int (g : Int)), some cs, some (.str w), some told, some t, some (.ref j4.length), a9]) ∧ Grow j8 h') hit (fun _ _ h' I => lk_of (I.2.cell c8)) ⟨⟨_, rfl⟩, .refl _⟩ (by
    rintro i x s h' ed ⟨⟨a9, rfl⟩, gg⟩
    have hx : OkV x := by
      rcases List.mem_append.mp (List.mem_of_getElem? ed) with m | m
      · exact okvs x m
      · exact okus x m
    obtain ⟨h2, e, g2⟩ := paper_turn C hx (some (.str w)) (some told) (some t) (some (.ref j4.length)) h'
    rw [← hcs] at e
    exact ⟨_, h2, .inl (by rw [turn_N]; exact e), ⟨_, rfl⟩, gg.trans g2⟩)
  have eL : PF L1_law_is_paper_right [some (.int (h : Int)), some (.int (k : Int)), some (.int d), some (.int (g : Int)), some cs, some (.str w), some told, some t, some (.ref j4.length), none] j5 = _ := eL0
  have g58 : Grow j5 j8 := by rw [ej8, ej7, ej6]; exact ((Grow.new _ _).app _).app _
  refine ⟨j9, mF_rt (s' := [some (.int (h : Int)), some (.int (k : Int)), some (.int d), some (.int (g : Int)), some cs, some (.str w), some told, some t, some (.ref j4.length), a9]) ?_, (((((gr1.trans gr2).trans gr3).trans gr4).trans g5).trans g58).trans gL⟩
  show PF m_law_is_paper_right [some (.int (h : Int)), some (.int (k : Int)), some (.int d), some (.int (g : Int)), none, none, none, none, none, none] hp = _
  simp only [PF] at *
  unfold m_law_is_paper_right
  rw [seq_nx f6, seq_nx f5, seq_nx f4, seq_nx f3, seq_nx f2, seq_nx f1, seq_nx eL]
  simp -implicitDefEqProofs
end K35

namespace K35
open PySem Vq
abbrev LW {α : Type} (f : Fn → Fn → Fn → Fn → Fn → Fn → Fn → Fn → Fn → α) : α := f F_law_triples F_law_is_paper_right F_gap_paper_error F_law_due F_law_own_sums F_law_own_rests F_law_own_overs F_law_divisors F_law_own_bag
theorem enum_get {L : List D} {i : Nat} {x : D} (e : (enumD L)[i]? = some x) : ∃ v, L[i]? = some v ∧ x = .tup [.int (i : Int), v] := by
  unfold enumD at e
  rw [List.getElem?_map, List.getElem?_zipIdx] at e
  obtain ⟨p, ep, rfl⟩ := Option.map_eq_some_iff.mp e
  obtain ⟨v, ev, rfl⟩ := Option.map_eq_some_iff.mp ep
  exact ⟨v, ev, by simp⟩
theorem value_turn {h k g : Nat} {d : Int} (C : Case h k d g) {v : D} (hv : OkV v) (i : Int) (a0 a1 a6 a7 a10 : Option D) (hp : VH) :
    ∃ (a10' : Option D) (h' : VH), LW B1_law [a0, a1, some (.int (h : Int)), some (.int (k : Int)), some (.int d), some (.tup [.int (h : Int), .int (k : Int), .int d, .int (g : Int)]), a6, a7, some (.int i), some v, a10] hp = .ok (.nx, [a0, a1, some (.int (h : Int)), some (.int (k : Int)), some (.int d), some (.tup [.int (h : Int), .int (k : Int), .int d, .int (g : Int)]), a6, a7, some (.int i), some v, a10'], h') ∧ Grow hp h' := by
  obtain ⟨h0, h1, k0, k1, d0, d1, g0, g1, gh, gk, eg⟩ := C
  obtain ⟨h1', e1, g1'⟩ := x_due (h := h) (k := k) (d := d) (by omega) (by omega) k0 (g := (g : Int)) (by omega) (by omega) hv.1 hv.2 hp
  obtain ⟨h2', e2, g2'⟩ := x_paper_error (h := h) (k := k) (d := d) (by omega) (by omega) k0 hv.1 hv.2 h1'
  obtain ⟨h3', e3, g3'⟩ := x_paper_error (h := h) (k := k) (d := d) (by omega) (by omega) k0 hv.1 hv.2 h2'
  rw [← eg] at e2 e3
  obtain ⟨T, eT⟩ := pv_sh (pv_due h1 k1 (d := d) (g := (g : Int)) v)
  have r1 := eT h1'
  have r2 := eT h2'
  have r3 := eT h3'
  rw [bReprD_ap] at r1 r2 r3
  have am := aMod_i (i := i) (j := 5) (h := h1') (by decide)
  by_cases c3 : i.fmod 5 = 3
  · refine ⟨some (.str T), h3', ?_, (g1'.trans g2').trans g3'⟩
    generalize dueP h k d (g : Int) (papOf v) = du at *
    generalize i.fmod 5 = m5 at *
    simp -implicitDefEqProofs [LW, B1_law, e1, r1, am, c3, e2, r2, e3, r3]
  · refine ⟨some (.str T), h2', ?_, g1'.trans g2'⟩
    generalize dueP h k d (g : Int) (papOf v) = du at *
    generalize i.fmod 5 = m5 at *
    simp -implicitDefEqProofs [LW, B1_law, e1, r1, am, c3, e2, r2]
theorem case_turn {b c : Nat} {hA : VH} (q : Hb b c hA) {h k : Nat} {d : Int} (h0 : 0 < h) (h1 : h ≤ 60) (k0 : 0 < k) (k1 : k ≤ 60) (d0 : 0 ≤ d) (d1 : d ≤ MAXN) (a0 a5 a6 a7 a8 a9 a10 : Option D) :
    ∃ (s' : VS) (h' : VH), LW B2_law [a0, some (.ref b), some (.int (h : Int)), some (.int (k : Int)), some (.int d), a5, a6, a7, a8, a9, a10] hA = .ok (.nx, s', h') ∧ (∃ a5 a6 a7 a8 a9 a10, s' = [a0, some (.ref b), some (.int (h : Int)), some (.int (k : Int)), some (.int d), a5, a6, a7, a8, a9, a10]) ∧ Keep b c hA h' := by
  have C := case_of h0 h1 k0 k1 d0 d1
  obtain ⟨g, hg⟩ : ∃ g, g = Nat.gcd h k := ⟨_, rfl⟩
  rw [← hg] at C
  have xd := x_divisors (h := h) (k := k) (by omega) (by omega) hA
  obtain ⟨j1, ej1⟩ : ∃ j, j = hA ++ [.lst (intsN (dv h k))] := ⟨_, rfl⟩
  rw [← ej1] at xd
  have l1 : lk j1 hA.length = some (intsN (dv h k)) := by rw [ej1]; exact lk_at _ _ []
  have la := last_div (h := h) (k := k) h0 k0
  rw [← hg] at la
  have kj1 : Keep b c hA j1 := by rw [ej1]; exact q.keep _
  obtain ⟨cs, hcs⟩ : ∃ cs : D, cs = .tup [.int (h : Int), .int (k : Int), .int d, .int (g : Int)] := ⟨_, rfl⟩
  -- sums, rests
  obtain ⟨P1, j2, e2, F1⟩ := s_own_sums kj1.bag C
  obtain ⟨P2, j3, e3, F2⟩ := s_own_rests F1.keep.bag C
  rw [← hcs] at e2 e3
  obtain ⟨M1, c1, v1, z1⟩ := F1.ex
  obtain ⟨M2, c2, v2, z2⟩ := F2.ex
  have c1' : j3[P1]? = some (.lst M1) := Keep.cell kj1.bag F1.hP F2.keep c1
  have v1' : ∀ v ∈ M1, VR j1.length j3 v := fun v hv => (v1 v hv).keep kj1.bag (Nat.le_refl _) F2.keep
  have v2' : ∀ v ∈ M2, VR j1.length j3 v := fun v hv => (v2 v hv).mono F1.keep.le
  have w1 := len_wt M1
  have w2 := len_wt M2
  have ad1 := dAdd_L c1' c2 (by omega)
  obtain ⟨j4, ej4⟩ : ∃ j, j = j3 ++ [.lst (M1 ++ M2)] := ⟨_, rfl⟩
  rw [← ej4] at ad1
  have k34 : Keep b c j3 j4 := by rw [ej4]; exact F2.keep.bag.keep _
  have c4 : j4[j3.length]? = some (.lst (M1 ++ M2)) := by rw [ej4]; exact List.getElem?_concat_length ..
  -- overs
  obtain ⟨P3, j5, e5, F3⟩ := s_own_overs k34.bag C
  rw [← hcs] at e5
  obtain ⟨M3, c5, v5, z5⟩ := F3.ex
  have k14 : Keep b c j1 j4 := (F1.keep.trans F2.keep).trans k34
  have c4' : j5[j3.length]? = some (.lst (M1 ++ M2)) := Keep.cell kj1.bag ((F1.keep.trans F2.keep).le) F3.keep c4
  have w5 := len_wt M3
  have ad2 := dAdd_L c4' c5 (by rw [List.length_append]; omega)
  obtain ⟨L, hL⟩ : ∃ L, L = M1 ++ M2 ++ M3 := ⟨_, rfl⟩
  rw [← hL] at ad2
  obtain ⟨j6, ej6⟩ : ∃ j, j = j5 ++ [.lst L] := ⟨_, rfl⟩
  rw [← ej6] at ad2
  have k56 : Keep b c j5 j6 := by rw [ej6]; exact F3.keep.bag.keep _
  have c6 : j6[j5.length]? = some (.lst L) := by rw [ej6]; exact List.getElem?_concat_length ..
  have k36 : Keep b c j3 j6 := (k34.trans F3.keep).trans k56
  have vL : ∀ v ∈ L, VR j1.length j6 v := fun v hv => by
    rw [hL] at hv
    rcases List.mem_append.mp hv with m | m
    · rcases List.mem_append.mp m with m | m
      · exact (v1' v m).keep kj1.bag (Nat.le_refl _) k36
      · exact (v2' v m).keep kj1.bag (Nat.le_refl _) k36
    · exact ((v5 v m).mono k14.le).keep kj1.bag (Nat.le_refl _) k56
  have wL : (L.map wt).sum ≤ 6310 := by
    rw [hL, List.map_append, List.map_append, List.sum_append, List.sum_append]
    omega
  obtain ⟨T, sT⟩ := ((its_all vL).le wL).shL (by decide) c6
  have r6 := sT.2 j6 fun _ _ e => e
  rw [bReprD_ap] at r6
  -- the loop
  have hit : (vEnum (vCons (vVar 6) vNil)) [a0, some (.ref b), some (.int (h : Int)), some (.int (k : Int)), some (.int d), some cs, some (.ref j5.length), some (.str T), a8, a9, a10] j6 = .ok (fun hh => (lk hh j5.length).map enumD, j6) := vEnum_of (d := .ref j5.length) rfl rfl
  obtain ⟨s', j7, eL0, ⟨a8', a9', a10', rfl⟩, g7⟩ := for_all (g := gP (pTup 2 (psCons (pN 8) (psCons (pN 9) psNil)))) (body := LW B1_law) (xs := enumD L) (fun _ s h' => (∃ a8 a9 a10, s = [a0, some (.ref b), some (.int (h : Int)), some (.int (k : Int)), some (.int d), some cs, some (.ref j5.length), some (.str T), a8, a9, a10]) ∧ Grow j6 h') hit (fun _ _ h' I => by rw [lk_of (I.2.cell c6)]; rfl) ⟨⟨_, _, _, rfl⟩, .refl _⟩ (by
    rintro i x s h' ed ⟨⟨a8, a9, a10, rfl⟩, gg⟩
    obtain ⟨v, ev, rfl⟩ := enum_get ed
    have vv := vL v (List.mem_of_getElem? ev)
    obtain ⟨a10', h2, e, g2⟩ := value_turn C (v := v) ⟨vv.1, vv.2.1⟩ (i : Int) a0 (some (.ref b)) (some (.ref j5.length)) (some (.str T)) a10 h'
    rw [← hcs] at e
    exact ⟨_, h2, .inl (by rw [turn_of rfl]; exact e), ⟨_, _, _, rfl⟩, gg.trans g2⟩)
  have eL : LW L1_law [a0, some (.ref b), some (.int (h : Int)), some (.int (k : Int)), some (.int d), some cs, some (.ref j5.length), some (.str T), a8, a9, a10] j6 = _ := eL0
  have r7 := sT.2 j7 g7.lists
  rw [bReprD_ap] at r7
  obtain ⟨j8, e8, g8⟩ := s_paper_right C j7
  have a3 : L2.atI [D.int (h : Int), .int (k : Int), .int d, .int (g : Int)] 3 = some (.int (g : Int)) := rfl
  have kk : Keep b c hA j6 := (kj1.trans (F1.keep.trans F2.keep)).trans k36
  refine ⟨[a0, some (.ref b), some (.int (h : Int)), some (.int (k : Int)), some (.int d), some cs, some (.ref j5.length), some (.str T), a8', a9', a10'], j8, ?_, ⟨_, _, _, _, _, _, rfl⟩, kk.trans (kk.bag.grow (g7.trans g8))⟩
  simp only [LW] at *
  rw [hcs] at *
  generalize intsN (dv h k) = u at *
  simp -implicitDefEqProofs [B2_law, xd, l1, la, e2, e3, ad1, e5, ad2, r6, eL, r7, a3, e8]
theorem law_true (ns : List Int) (hn : ns.length ≤ 63) : ∃ h', F_law [.ref 0] (scriptH ns) = .ok (.bl true, h') := by
  obtain ⟨b, c, h0, e0, q⟩ := s_own_bag ns hn
  have f1 : LW S1_law [some (.ref 0), none, none, none, none, none, none, none, none, none, none] (scriptH ns) = .ok (.nx, [some (.ref 0), some (.ref b), none, none, none, none, none, none, none, none, none], h0) := by
    simp -implicitDefEqProofs [LW, S1_law, e0]
  obtain ⟨P, h1, e1, t1, hP⟩ := s_triples q
  obtain ⟨L, cP, vL, zL⟩ := t1.ex
  have hit : (vIt (vCall 1 F_law_triples (vCons (vVar 1) vNil))) [some (.ref 0), some (.ref b), none, none, none, none, none, none, none, none, none] h0 = .ok (fun hh => lk hh P, h1) := by
    have ev : (vCall 1 F_law_triples (vCons (vVar 1) vNil)) [some (.ref 0), some (.ref b), none, none, none, none, none, none, none, none, none] h0 = .ok (.ref P, h1) := by
      simp -implicitDefEqProofs [e1]
    unfold vIt
    rw [ev]
    rfl
  obtain ⟨s', h2, eL0, ⟨a2, a3, a4, a5, a6, a7, a8, a9, a10, rfl⟩, k2⟩ := for_all (g := gP (pTup 3 (psCons (pN 2) (psCons (pN 3) (psCons (pN 4) psNil))))) (body := LW B2_law) (xs := L) (fun _ s h' => (∃ a2 a3 a4 a5 a6 a7 a8 a9 a10, s = [some (.ref 0), some (.ref b), a2, a3, a4, a5, a6, a7, a8, a9, a10]) ∧ Keep b c h1 h') hit (fun _ _ h' I => lk_of (Keep.cell q hP I.2 cP)) ⟨⟨_, _, _, _, _, _, _, _, _, rfl⟩, .refl t1.keep.bag⟩ (by
    rintro i x s h' ed ⟨⟨a2, a3, a4, a5, a6, a7, a8, a9, a10, rfl⟩, kk⟩
    obtain ⟨h, k, d, rfl, h0, h1, k0, k1, d0, d1⟩ := vL x (List.mem_of_getElem? ed)
    obtain ⟨s', h2, e, ⟨b5, b6, b7, b8, b9, b10, rfl⟩, k2⟩ := case_turn kk.bag h0 h1 k0 k1 d0 d1 (some (.ref 0)) a5 a6 a7 a8 a9 a10
    exact ⟨_, h2, .inl (by rw [turn_of rfl]; exact e), ⟨_, _, _, _, _, _, _, _, _, rfl⟩, kk.trans k2⟩)
  have eL : LW L2_law [some (.ref 0), some (.ref b), none, none, none, none, none, none, none, none, none] h0 = _ := eL0
  refine ⟨h2, ?_⟩
  unfold F_law
  refine mF_rt (s' := [some (.ref 0), some (.ref b), a2, a3, a4, a5, a6, a7, a8, a9, a10]) ?_
  show LW m_law [some (.ref 0), none, none, none, none, none, none, none, none, none, none] (scriptH ns) = _
  simp only [LW] at *
  unfold m_law
  rw [seq_nx f1, seq_nx eL]
  simp -implicitDefEqProofs
end K35

namespace K35
open PySem PySem.Spec PyProof.Rows L2 Vq
theorem all_mk {w : World} {K : PySem.W.Frag} {h : Heap} {mg : Str → Option Value} {fa : Addr} (X : K.In h) (G : h.Ns mainGlobals mg) (hfa : mg "law" = some (.ref fa))
    {f0 f1 f2 f3 f4 f5 f6 f7 f8 f9 f10 f11 f12 f13 f14 f15 f16 f17 f18 f19 f20 f21 f22 : Addr} {od0 od1 od2 od3 od4 od5 od6 od7 od8 od9 od10 od11 od12 od13 od14 od15 od16 od17 od18 od19 od20 od21 od22 an0 an1 an2 an3 an4 an5 an6 an7 an8 an9 an10 an11 an12 an13 an14 an15 an16 an17 an18 an19 an20 an21 an22 : Option Addr} {sl0 sl1 sl2 sl3 sl4 sl5 sl6 sl7 sl8 sl9 sl10 sl11 sl12 sl13 sl14 sl15 sl16 sl17 sl18 sl19 sl20 sl21 sl22 : Array (Option Value)} {oc0 kV0 dc0 pm0 cd0 ct0 oc1 kV1 dc1 pm1 cd1 ct1 oc2 kV2 dc2 pm2 cd2 ct2 oc3 kV3 dc3 pm3 cd3 ct3 oc4 kV4 dc4 pm4 cd4 ct4 oc5 kV5 dc5 pm5 cd5 ct5 oc6 kV6 dc6 pm6 cd6 ct6 oc7 kV7 dc7 pm7 cd7 ct7 oc8 kV8 dc8 pm8 cd8 ct8 oc9 kV9 dc9 pm9 cd9 ct9 oc10 kV10 dc10 pm10 cd10 ct10 oc11 kV11 dc11 pm11 cd11 ct11 oc12 kV12 dc12 pm12 cd12 ct12 oc13 kV13 dc13 pm13 cd13 ct13 oc14 kV14 dc14 pm14 cd14 ct14 oc15 kV15 dc15 pm15 cd15 ct15 oc16 kV16 dc16 pm16 cd16 ct16 oc17 kV17 dc17 pm17 cd17 ct17 oc18 kV18 dc18 pm18 cd18 ct18 oc19 kV19 dc19 pm19 cd19 ct19 oc20 kV20 dc20 pm20 cd20 ct20 oc21 kV21 dc21 pm21 cd21 ct21 oc22 kV22 dc22 pm22 cd22 ct22 : Value}
    (a0 : PySem.W.nsIn K mainGlobals "is_number" = some (some (.ref f0)))
    (l0 : K.lookup f0 = some ⟨oc0, od0, .func (PySem.W.fnOf "is_number" "is_number" (defArgs s_is_number) (defBody s_is_number) (defScope s_is_number) .none kV0 dc0 pm0 an0 cd0 ct0), sl0⟩)
    (c0 : PySem.W.codeIn K cd0 "is_number" = true) (k0 : PySem.W.keepIn K (.ref f0) = true)
    (a1 : PySem.W.nsIn K mainGlobals "is_within" = some (some (.ref f1)))
    (l1 : K.lookup f1 = some ⟨oc1, od1, .func (PySem.W.fnOf "is_within" "is_within" (defArgs s_is_within) (defBody s_is_within) (defScope s_is_within) .none kV1 dc1 pm1 an1 cd1 ct1), sl1⟩)
    (c1 : PySem.W.codeIn K cd1 "is_within" = true) (k1 : PySem.W.keepIn K (.ref f1) = true)
    (a2 : PySem.W.nsIn K mainGlobals "greatest_divisor" = some (some (.ref f2)))
    (l2 : K.lookup f2 = some ⟨oc2, od2, .func (PySem.W.fnOf "greatest_divisor" "greatest_divisor" (defArgs s_greatest_divisor) (defBody s_greatest_divisor) (defScope s_greatest_divisor) .none kV2 dc2 pm2 an2 cd2 ct2), sl2⟩)
    (c2 : PySem.W.codeIn K cd2 "greatest_divisor" = true) (k2 : PySem.W.keepIn K (.ref f2) = true)
    (a3 : PySem.W.nsIn K mainGlobals "gap_paper" = some (some (.ref f3)))
    (l3 : K.lookup f3 = some ⟨oc3, od3, .func (PySem.W.fnOf "gap_paper" "gap_paper" (defArgs s_gap_paper) (defBody s_gap_paper) (defScope s_gap_paper) .none kV3 dc3 pm3 an3 cd3 ct3), sl3⟩)
    (c3 : PySem.W.codeIn K cd3 "gap_paper" = true) (k3 : PySem.W.keepIn K (.ref f3) = true)
    (a4 : PySem.W.nsIn K mainGlobals "is_sum_form" = some (some (.ref f4)))
    (l4 : K.lookup f4 = some ⟨oc4, od4, .func (PySem.W.fnOf "is_sum_form" "is_sum_form" (defArgs s_is_sum_form) (defBody s_is_sum_form) (defScope s_is_sum_form) .none kV4 dc4 pm4 an4 cd4 ct4), sl4⟩)
    (c4 : PySem.W.codeIn K cd4 "is_sum_form" = true) (k4 : PySem.W.keepIn K (.ref f4) = true)
    (a5 : PySem.W.nsIn K mainGlobals "over_fault" = some (some (.ref f5)))
    (l5 : K.lookup f5 = some ⟨oc5, od5, .func (PySem.W.fnOf "over_fault" "over_fault" (defArgs s_over_fault) (defBody s_over_fault) (defScope s_over_fault) .none kV5 dc5 pm5 an5 cd5 ct5), sl5⟩)
    (c5 : PySem.W.codeIn K cd5 "over_fault" = true) (k5 : PySem.W.keepIn K (.ref f5) = true)
    (a6 : PySem.W.nsIn K mainGlobals "gap_paper_error" = some (some (.ref f6)))
    (l6 : K.lookup f6 = some ⟨oc6, od6, .func (PySem.W.fnOf "gap_paper_error" "gap_paper_error" (defArgs s_gap_paper_error) (defBody s_gap_paper_error) (defScope s_gap_paper_error) .none kV6 dc6 pm6 an6 cd6 ct6), sl6⟩)
    (c6 : PySem.W.codeIn K cd6 "gap_paper_error" = true) (k6 : PySem.W.keepIn K (.ref f6) = true)
    (a7 : PySem.W.nsIn K mainGlobals "_law_own_bag" = some (some (.ref f7)))
    (l7 : K.lookup f7 = some ⟨oc7, od7, .func (PySem.W.fnOf "_law_own_bag" "_law_own_bag" (defArgs s_law_own_bag) (defBody s_law_own_bag) (defScope s_law_own_bag) .none kV7 dc7 pm7 an7 cd7 ct7), sl7⟩)
    (c7 : PySem.W.codeIn K cd7 "_law_own_bag" = true) (k7 : PySem.W.keepIn K (.ref f7) = true)
    (a8 : PySem.W.nsIn K mainGlobals "_law_draw" = some (some (.ref f8)))
    (l8 : K.lookup f8 = some ⟨oc8, od8, .func (PySem.W.fnOf "_law_draw" "_law_draw" (defArgs s_law_draw) (defBody s_law_draw) (defScope s_law_draw) .none kV8 dc8 pm8 an8 cd8 ct8), sl8⟩)
    (c8 : PySem.W.codeIn K cd8 "_law_draw" = true) (k8 : PySem.W.keepIn K (.ref f8) = true)
    (a9 : PySem.W.nsIn K mainGlobals "_law_pick" = some (some (.ref f9)))
    (l9 : K.lookup f9 = some ⟨oc9, od9, .func (PySem.W.fnOf "_law_pick" "_law_pick" (defArgs s_law_pick) (defBody s_law_pick) (defScope s_law_pick) .none kV9 dc9 pm9 an9 cd9 ct9), sl9⟩)
    (c9 : PySem.W.codeIn K cd9 "_law_pick" = true) (k9 : PySem.W.keepIn K (.ref f9) = true)
    (a10 : PySem.W.nsIn K mainGlobals "_law_great" = some (some (.ref f10)))
    (l10 : K.lookup f10 = some ⟨oc10, od10, .func (PySem.W.fnOf "_law_great" "_law_great" (defArgs s_law_great) (defBody s_law_great) (defScope s_law_great) .none kV10 dc10 pm10 an10 cd10 ct10), sl10⟩)
    (c10 : PySem.W.codeIn K cd10 "_law_great" = true) (k10 : PySem.W.keepIn K (.ref f10) = true)
    (a11 : PySem.W.nsIn K mainGlobals "_law_is_within" = some (some (.ref f11)))
    (l11 : K.lookup f11 = some ⟨oc11, od11, .func (PySem.W.fnOf "_law_is_within" "_law_is_within" (defArgs s_law_is_within) (defBody s_law_is_within) (defScope s_law_is_within) .none kV11 dc11 pm11 an11 cd11 ct11), sl11⟩)
    (c11 : PySem.W.codeIn K cd11 "_law_is_within" = true) (k11 : PySem.W.keepIn K (.ref f11) = true)
    (a12 : PySem.W.nsIn K mainGlobals "_law_divisors" = some (some (.ref f12)))
    (l12 : K.lookup f12 = some ⟨oc12, od12, .func (PySem.W.fnOf "_law_divisors" "_law_divisors" (defArgs s_law_divisors) (defBody s_law_divisors) (defScope s_law_divisors) .none kV12 dc12 pm12 an12 cd12 ct12), sl12⟩)
    (c12 : PySem.W.codeIn K cd12 "_law_divisors" = true) (k12 : PySem.W.keepIn K (.ref f12) = true)
    (a13 : PySem.W.nsIn K mainGlobals "_law_own_sort" = some (some (.ref f13)))
    (l13 : K.lookup f13 = some ⟨oc13, od13, .func (PySem.W.fnOf "_law_own_sort" "_law_own_sort" (defArgs s_law_own_sort) (defBody s_law_own_sort) (defScope s_law_own_sort) .none kV13 dc13 pm13 an13 cd13 ct13), sl13⟩)
    (c13 : PySem.W.codeIn K cd13 "_law_own_sort" = true) (k13 : PySem.W.keepIn K (.ref f13) = true)
    (a14 : PySem.W.nsIn K mainGlobals "_law_is_of_form" = some (some (.ref f14)))
    (l14 : K.lookup f14 = some ⟨oc14, od14, .func (PySem.W.fnOf "_law_is_of_form" "_law_is_of_form" (defArgs s_law_is_of_form) (defBody s_law_is_of_form) (defScope s_law_is_of_form) .none kV14 dc14 pm14 an14 cd14 ct14), sl14⟩)
    (c14 : PySem.W.codeIn K cd14 "_law_is_of_form" = true) (k14 : PySem.W.keepIn K (.ref f14) = true)
    (a15 : PySem.W.nsIn K mainGlobals "_law_due" = some (some (.ref f15)))
    (l15 : K.lookup f15 = some ⟨oc15, od15, .func (PySem.W.fnOf "_law_due" "_law_due" (defArgs s_law_due) (defBody s_law_due) (defScope s_law_due) .none kV15 dc15 pm15 an15 cd15 ct15), sl15⟩)
    (c15 : PySem.W.codeIn K cd15 "_law_due" = true) (k15 : PySem.W.keepIn K (.ref f15) = true)
    (a16 : PySem.W.nsIn K mainGlobals "_law_own_sums" = some (some (.ref f16)))
    (l16 : K.lookup f16 = some ⟨oc16, od16, .func (PySem.W.fnOf "_law_own_sums" "_law_own_sums" (defArgs s_law_own_sums) (defBody s_law_own_sums) (defScope s_law_own_sums) .none kV16 dc16 pm16 an16 cd16 ct16), sl16⟩)
    (c16 : PySem.W.codeIn K cd16 "_law_own_sums" = true) (k16 : PySem.W.keepIn K (.ref f16) = true)
    (a17 : PySem.W.nsIn K mainGlobals "_law_own_rests" = some (some (.ref f17)))
    (l17 : K.lookup f17 = some ⟨oc17, od17, .func (PySem.W.fnOf "_law_own_rests" "_law_own_rests" (defArgs s_law_own_rests) (defBody s_law_own_rests) (defScope s_law_own_rests) .none kV17 dc17 pm17 an17 cd17 ct17), sl17⟩)
    (c17 : PySem.W.codeIn K cd17 "_law_own_rests" = true) (k17 : PySem.W.keepIn K (.ref f17) = true)
    (a18 : PySem.W.nsIn K mainGlobals "_law_own_overs" = some (some (.ref f18)))
    (l18 : K.lookup f18 = some ⟨oc18, od18, .func (PySem.W.fnOf "_law_own_overs" "_law_own_overs" (defArgs s_law_own_overs) (defBody s_law_own_overs) (defScope s_law_own_overs) .none kV18 dc18 pm18 an18 cd18 ct18), sl18⟩)
    (c18 : PySem.W.codeIn K cd18 "_law_own_overs" = true) (k18 : PySem.W.keepIn K (.ref f18) = true)
    (a19 : PySem.W.nsIn K mainGlobals "_law_over" = some (some (.ref f19)))
    (l19 : K.lookup f19 = some ⟨oc19, od19, .func (PySem.W.fnOf "_law_over" "_law_over" (defArgs s_law_over) (defBody s_law_over) (defScope s_law_over) .none kV19 dc19 pm19 an19 cd19 ct19), sl19⟩)
    (c19 : PySem.W.codeIn K cd19 "_law_over" = true) (k19 : PySem.W.keepIn K (.ref f19) = true)
    (a20 : PySem.W.nsIn K mainGlobals "_law_triples" = some (some (.ref f20)))
    (l20 : K.lookup f20 = some ⟨oc20, od20, .func (PySem.W.fnOf "_law_triples" "_law_triples" (defArgs s_law_triples) (defBody s_law_triples) (defScope s_law_triples) .none kV20 dc20 pm20 an20 cd20 ct20), sl20⟩)
    (c20 : PySem.W.codeIn K cd20 "_law_triples" = true) (k20 : PySem.W.keepIn K (.ref f20) = true)
    (a21 : PySem.W.nsIn K mainGlobals "_law_is_paper_right" = some (some (.ref f21)))
    (l21 : K.lookup f21 = some ⟨oc21, od21, .func (PySem.W.fnOf "_law_is_paper_right" "_law_is_paper_right" (defArgs s_law_is_paper_right) (defBody s_law_is_paper_right) (defScope s_law_is_paper_right) .none kV21 dc21 pm21 an21 cd21 ct21), sl21⟩)
    (c21 : PySem.W.codeIn K cd21 "_law_is_paper_right" = true) (k21 : PySem.W.keepIn K (.ref f21) = true)
    (a22 : PySem.W.nsIn K mainGlobals "law" = some (some (.ref f22)))
    (l22 : K.lookup f22 = some ⟨oc22, od22, .func (PySem.W.fnOf "law" "law" (defArgs s_law) (defBody s_law) (defScope s_law) .none kV22 dc22 pm22 an22 cd22 ct22), sl22⟩)
    (c22 : PySem.W.codeIn K cd22 "law" = true) (k22 : PySem.W.keepIn K (.ref f22) = true)
    (z_abs : PySem.W.nsIn K mainGlobals "abs" = some none)
    (z_all : PySem.W.nsIn K mainGlobals "all" = some none)
    (z_any : PySem.W.nsIn K mainGlobals "any" = some none)
    (z_bool : PySem.W.nsIn K mainGlobals "bool" = some none)
    (z_enumerate : PySem.W.nsIn K mainGlobals "enumerate" = some none)
    (z_int : PySem.W.nsIn K mainGlobals "int" = some none)
    (z_isinstance : PySem.W.nsIn K mainGlobals "isinstance" = some none)
    (z_len : PySem.W.nsIn K mainGlobals "len" = some none)
    (z_list : PySem.W.nsIn K mainGlobals "list" = some none)
    (z_max : PySem.W.nsIn K mainGlobals "max" = some none)
    (z_min : PySem.W.nsIn K mainGlobals "min" = some none)
    (z_range : PySem.W.nsIn K mainGlobals "range" = some none)
    (z_repr : PySem.W.nsIn K mainGlobals "repr" = some none)
    (z_reversed : PySem.W.nsIn K mainGlobals "reversed" = some none)
    (z_str : PySem.W.nsIn K mainGlobals "str" = some none)
    (z_tuple : PySem.W.nsIn K mainGlobals "tuple" = some none)
    {t_MAX_NUMBER : Tok} (y_MAX_NUMBER : PySem.W.nsIn K mainGlobals "MAX_NUMBER" = some (some (.int 1000000000000000000000000000000 t_MAX_NUMBER)))
    : ∃ fd : FuncData, (∀ u : Value, bindArgs fd ⟨[u], []⟩ = (pure [(("script" : Str), u)] : Sem _)) ∧ ∀ base : Heap, K.In base → base.Ns mainGlobals mg → SysIn base → FnG PySem.Challenge.pw_comparenets_k35_whole_gap_papers w K mg base 6 fa fd ["script"] F_law := by
  have e := hfa.symm.trans (PySem.W.mg_of X G a22)
  cases e
  have h0 := fun_mk (st := s_is_number) l0 c0 k0
  have h1 := fun_mk (st := s_is_within) l1 c1 k1
  have h2 := fun_mk (st := s_greatest_divisor) l2 c2 k2
  have h3 := fun_mk (st := s_gap_paper) l3 c3 k3
  have h4 := fun_mk (st := s_is_sum_form) l4 c4 k4
  have h5 := fun_mk (st := s_over_fault) l5 c5 k5
  have h6 := fun_mk (st := s_gap_paper_error) l6 c6 k6
  have h7 := fun_mk (st := s_law_own_bag) l7 c7 k7
  have h8 := fun_mk (st := s_law_draw) l8 c8 k8
  have h9 := fun_mk (st := s_law_pick) l9 c9 k9
  have h10 := fun_mk (st := s_law_great) l10 c10 k10
  have h11 := fun_mk (st := s_law_is_within) l11 c11 k11
  have h12 := fun_mk (st := s_law_divisors) l12 c12 k12
  have h13 := fun_mk (st := s_law_own_sort) l13 c13 k13
  have h14 := fun_mk (st := s_law_is_of_form) l14 c14 k14
  have h15 := fun_mk (st := s_law_due) l15 c15 k15
  have h16 := fun_mk (st := s_law_own_sums) l16 c16 k16
  have h17 := fun_mk (st := s_law_own_rests) l17 c17 k17
  have h18 := fun_mk (st := s_law_own_overs) l18 c18 k18
  have h19 := fun_mk (st := s_law_over) l19 c19 k19
  have h20 := fun_mk (st := s_law_triples) l20 c20 k20
  have h21 := fun_mk (st := s_law_is_paper_right) l21 c21 k21
  have h22 := fun_mk (st := s_law) l22 c22 k22
  let T : Txt K mg := {
    a_is_number := f0
    d_is_number := _
    g_is_number := PySem.W.mg_of X G a0
    k_is_number := k0
    f_is_number := h0
    b_is_number := bindP_of h0 fun _ _ _ _ _ _ us hl => match us, hl with | [_], _ => rfl
    a_is_within := f1
    d_is_within := _
    g_is_within := PySem.W.mg_of X G a1
    k_is_within := k1
    f_is_within := h1
    b_is_within := bindP_of h1 fun _ _ _ _ _ _ us hl => match us, hl with | [_, _, _], _ => rfl
    a_greatest_divisor := f2
    d_greatest_divisor := _
    g_greatest_divisor := PySem.W.mg_of X G a2
    k_greatest_divisor := k2
    f_greatest_divisor := h2
    b_greatest_divisor := bindP_of h2 fun _ _ _ _ _ _ us hl => match us, hl with | [_, _], _ => rfl
    a_gap_paper := f3
    d_gap_paper := _
    g_gap_paper := PySem.W.mg_of X G a3
    k_gap_paper := k3
    f_gap_paper := h3
    b_gap_paper := bindP_of h3 fun _ _ _ _ _ _ us hl => match us, hl with | [_, _, _], _ => rfl
    a_is_sum_form := f4
    d_is_sum_form := _
    g_is_sum_form := PySem.W.mg_of X G a4
    k_is_sum_form := k4
    f_is_sum_form := h4
    b_is_sum_form := bindP_of h4 fun _ _ _ _ _ _ us hl => match us, hl with | [_], _ => rfl
    a_over_fault := f5
    d_over_fault := _
    g_over_fault := PySem.W.mg_of X G a5
    k_over_fault := k5
    f_over_fault := h5
    b_over_fault := bindP_of h5 fun _ _ _ _ _ _ us hl => match us, hl with | [_, _, _, _], _ => rfl
    a_gap_paper_error := f6
    d_gap_paper_error := _
    g_gap_paper_error := PySem.W.mg_of X G a6
    k_gap_paper_error := k6
    f_gap_paper_error := h6
    b_gap_paper_error := bindP_of h6 fun _ _ _ _ _ _ us hl => match us, hl with | [_, _, _, _], _ => rfl
    a_law_own_bag := f7
    d_law_own_bag := _
    g_law_own_bag := PySem.W.mg_of X G a7
    k_law_own_bag := k7
    f_law_own_bag := h7
    b_law_own_bag := bindP_of h7 fun _ _ _ _ _ _ us hl => match us, hl with | [_], _ => rfl
    a_law_draw := f8
    d_law_draw := _
    g_law_draw := PySem.W.mg_of X G a8
    k_law_draw := k8
    f_law_draw := h8
    b_law_draw := bindP_of h8 fun _ _ _ _ _ _ us hl => match us, hl with | [_, _], _ => rfl
    a_law_pick := f9
    d_law_pick := _
    g_law_pick := PySem.W.mg_of X G a9
    k_law_pick := k9
    f_law_pick := h9
    b_law_pick := bindP_of h9 fun _ _ _ _ _ _ us hl => match us, hl with | [_, _], _ => rfl
    a_law_great := f10
    d_law_great := _
    g_law_great := PySem.W.mg_of X G a10
    k_law_great := k10
    f_law_great := h10
    b_law_great := bindP_of h10 fun _ _ _ _ _ _ us hl => match us, hl with | [_], _ => rfl
    a_law_is_within := f11
    d_law_is_within := _
    g_law_is_within := PySem.W.mg_of X G a11
    k_law_is_within := k11
    f_law_is_within := h11
    b_law_is_within := bindP_of h11 fun _ _ _ _ _ _ us hl => match us, hl with | [_, _], _ => rfl
    a_law_divisors := f12
    d_law_divisors := _
    g_law_divisors := PySem.W.mg_of X G a12
    k_law_divisors := k12
    f_law_divisors := h12
    b_law_divisors := bindP_of h12 fun _ _ _ _ _ _ us hl => match us, hl with | [_, _], _ => rfl
    a_law_own_sort := f13
    d_law_own_sort := _
    g_law_own_sort := PySem.W.mg_of X G a13
    k_law_own_sort := k13
    f_law_own_sort := h13
    b_law_own_sort := bindP_of h13 fun _ _ _ _ _ _ us hl => match us, hl with | [_, _, _], _ => rfl
    a_law_is_of_form := f14
    d_law_is_of_form := _
    g_law_is_of_form := PySem.W.mg_of X G a14
    k_law_is_of_form := k14
    f_law_is_of_form := h14
    b_law_is_of_form := bindP_of h14 fun _ _ _ _ _ _ us hl => match us, hl with | [_], _ => rfl
    a_law_due := f15
    d_law_due := _
    g_law_due := PySem.W.mg_of X G a15
    k_law_due := k15
    f_law_due := h15
    b_law_due := bindP_of h15 fun _ _ _ _ _ _ us hl => match us, hl with | [_, _], _ => rfl
    a_law_own_sums := f16
    d_law_own_sums := _
    g_law_own_sums := PySem.W.mg_of X G a16
    k_law_own_sums := k16
    f_law_own_sums := h16
    b_law_own_sums := bindP_of h16 fun _ _ _ _ _ _ us hl => match us, hl with | [_, _], _ => rfl
    a_law_own_rests := f17
    d_law_own_rests := _
    g_law_own_rests := PySem.W.mg_of X G a17
    k_law_own_rests := k17
    f_law_own_rests := h17
    b_law_own_rests := bindP_of h17 fun _ _ _ _ _ _ us hl => match us, hl with | [_, _], _ => rfl
    a_law_own_overs := f18
    d_law_own_overs := _
    g_law_own_overs := PySem.W.mg_of X G a18
    k_law_own_overs := k18
    f_law_own_overs := h18
    b_law_own_overs := bindP_of h18 fun _ _ _ _ _ _ us hl => match us, hl with | [_, _], _ => rfl
    a_law_over := f19
    d_law_over := _
    g_law_over := PySem.W.mg_of X G a19
    k_law_over := k19
    f_law_over := h19
    b_law_over := bindP_of h19 fun _ _ _ _ _ _ us hl => match us, hl with | [_], _ => rfl
    a_law_triples := f20
    d_law_triples := _
    g_law_triples := PySem.W.mg_of X G a20
    k_law_triples := k20
    f_law_triples := h20
    b_law_triples := bindP_of h20 fun _ _ _ _ _ _ us hl => match us, hl with | [_], _ => rfl
    a_law_is_paper_right := f21
    d_law_is_paper_right := _
    g_law_is_paper_right := PySem.W.mg_of X G a21
    k_law_is_paper_right := k21
    f_law_is_paper_right := h21
    b_law_is_paper_right := bindP_of h21 fun _ _ _ _ _ _ us hl => match us, hl with | [_, _, _, _], _ => rfl
    a_law := fa
    d_law := _
    g_law := PySem.W.mg_of X G a22
    k_law := k22
    f_law := h22
    b_law := bindP_of h22 fun _ _ _ _ _ _ us hl => match us, hl with | [_], _ => rfl
    n_abs := PySem.W.mg_none_of X G z_abs
    n_all := PySem.W.mg_none_of X G z_all
    n_any := PySem.W.mg_none_of X G z_any
    n_bool := PySem.W.mg_none_of X G z_bool
    n_enumerate := PySem.W.mg_none_of X G z_enumerate
    n_int := PySem.W.mg_none_of X G z_int
    n_isinstance := PySem.W.mg_none_of X G z_isinstance
    n_len := PySem.W.mg_none_of X G z_len
    n_list := PySem.W.mg_none_of X G z_list
    n_max := PySem.W.mg_none_of X G z_max
    n_min := PySem.W.mg_none_of X G z_min
    n_range := PySem.W.mg_none_of X G z_range
    n_repr := PySem.W.mg_none_of X G z_repr
    n_reversed := PySem.W.mg_none_of X G z_reversed
    n_str := PySem.W.mg_none_of X G z_str
    n_tuple := PySem.W.mg_none_of X G z_tuple
    c_MAX_NUMBER := ⟨_, PySem.W.mg_of X G y_MAX_NUMBER⟩
  }
  exact ⟨T.d_law, fun u => rfl, fun base _ _ hs => haveI := hs; chain (base := base) T⟩
end K35
open PySem PySem.W PyProof.Rows
set_option maxHeartbeats 0 in
theorem PySem.Challenge.cw_comparenets_k35_whole_gap_papers_holds : PySem.Challenge.rw_comparenets_k35_whole_gap_papers.Holds := by
  w_on; o_law; k_head; (case hw => w_witness2)
  k_fill
  refine Vq.walkG (l := PySem.Challenge.rw_comparenets_k35_whole_gap_papers) (n := 63) (k := 6) (x := "script") (F := K35.F_law) rfl (by decide) rfl ⟨rfl, by decide, by decide⟩ (fun w h Y => PySem.W.kIn_of Y) ?G (fun ns hl => K35.law_true ns hl) (by decide +kernel)
  case G =>
    intro w mg fa h KX G hmg
    refine' K35.all_mk KX G hmg ?a0 ?l0 ?c0 ?k0 ?a1 ?l1 ?c1 ?k1 ?a2 ?l2 ?c2 ?k2 ?a3 ?l3 ?c3 ?k3 ?a4 ?l4 ?c4 ?k4 ?a5 ?l5 ?c5 ?k5 ?a6 ?l6 ?c6 ?k6 ?a7 ?l7 ?c7 ?k7 ?a8 ?l8 ?c8 ?k8 ?a9 ?l9 ?c9 ?k9 ?a10 ?l10 ?c10 ?k10 ?a11 ?l11 ?c11 ?k11 ?a12 ?l12 ?c12 ?k12 ?a13 ?l13 ?c13 ?k13 ?a14 ?l14 ?c14 ?k14 ?a15 ?l15 ?c15 ?k15 ?a16 ?l16 ?c16 ?k16 ?a17 ?l17 ?c17 ?k17 ?a18 ?l18 ?c18 ?k18 ?a19 ?l19 ?c19 ?k19 ?a20 ?l20 ?c20 ?k20 ?a21 ?l21 ?c21 ?k21 ?a22 ?l22 ?c22 ?k22 ?z_abs ?z_all ?z_any ?z_bool ?z_enumerate ?z_int ?z_isinstance ?z_len ?z_list ?z_max ?z_min ?z_range ?z_repr ?z_reversed ?z_str ?z_tuple ?y_MAX_NUMBER
    (case a0 => k_is)
    (case l0 => k_is)
    (case c0 => k_is)
    (case k0 => k_is)
    (case a1 => k_is)
    (case l1 => k_is)
    (case c1 => k_is)
    (case k1 => k_is)
    (case a2 => k_is)
    (case l2 => k_is)
    (case c2 => k_is)
    (case k2 => k_is)
    (case a3 => k_is)
    (case l3 => k_is)
    (case c3 => k_is)
    (case k3 => k_is)
    (case a4 => k_is)
    (case l4 => k_is)
    (case c4 => k_is)
    (case k4 => k_is)
    (case a5 => k_is)
    (case l5 => k_is)
    (case c5 => k_is)
    (case k5 => k_is)
    (case a6 => k_is)
    (case l6 => k_is)
    (case c6 => k_is)
    (case k6 => k_is)
    (case a7 => k_is)
    (case l7 => k_is)
    (case c7 => k_is)
    (case k7 => k_is)
    (case a8 => k_is)
    (case l8 => k_is)
    (case c8 => k_is)
    (case k8 => k_is)
    (case a9 => k_is)
    (case l9 => k_is)
    (case c9 => k_is)
    (case k9 => k_is)
    (case a10 => k_is)
    (case l10 => k_is)
    (case c10 => k_is)
    (case k10 => k_is)
    (case a11 => k_is)
    (case l11 => k_is)
    (case c11 => k_is)
    (case k11 => k_is)
    (case a12 => k_is)
    (case l12 => k_is)
    (case c12 => k_is)
    (case k12 => k_is)
    (case a13 => k_is)
    (case l13 => k_is)
    (case c13 => k_is)
    (case k13 => k_is)
    (case a14 => k_is)
    (case l14 => k_is)
    (case c14 => k_is)
    (case k14 => k_is)
    (case a15 => k_is)
    (case l15 => k_is)
    (case c15 => k_is)
    (case k15 => k_is)
    (case a16 => k_is)
    (case l16 => k_is)
    (case c16 => k_is)
    (case k16 => k_is)
    (case a17 => k_is)
    (case l17 => k_is)
    (case c17 => k_is)
    (case k17 => k_is)
    (case a18 => k_is)
    (case l18 => k_is)
    (case c18 => k_is)
    (case k18 => k_is)
    (case a19 => k_is)
    (case l19 => k_is)
    (case c19 => k_is)
    (case k19 => k_is)
    (case a20 => k_is)
    (case l20 => k_is)
    (case c20 => k_is)
    (case k20 => k_is)
    (case a21 => k_is)
    (case l21 => k_is)
    (case c21 => k_is)
    (case k21 => k_is)
    (case a22 => k_is)
    (case l22 => k_is)
    (case c22 => k_is)
    (case k22 => k_is)
    (case z_abs => k_is)
    (case z_all => k_is)
    (case z_any => k_is)
    (case z_bool => k_is)
    (case z_enumerate => k_is)
    (case z_int => k_is)
    (case z_isinstance => k_is)
    (case z_len => k_is)
    (case z_list => k_is)
    (case z_max => k_is)
    (case z_min => k_is)
    (case z_range => k_is)
    (case z_repr => k_is)
    (case z_reversed => k_is)
    (case z_str => k_is)
    (case z_tuple => k_is)
    (case y_MAX_NUMBER => k_is)

