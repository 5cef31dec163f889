import PyProof.Rows.All
import Wide.All
import OpenK.AllK
import Wide.FinOn
import HandS.ForMost
import HandS.ForExc
import HandS.TupAny
import HandS.Wide
import HandS.WideBits
import HandS.Zip
import KE.GoesMore
import KE.GoesEnum
import KE.DataMinMax
import HandS.RevTup
import HandS.Rev
import HandS.TupMul
import HandS.Style
import HandS.Text
import HandS.SortInts
import HandS.SortRule
import HandS.Conv
import HandS.SetFor
import HandS.More
import PyProof.AutoSeq1
import HandS.IsInst
import HandS.Strs
import HandS.Dict
import HandS.Iter
import PySem.Challenge.RW_comparenets_k01_whole_judged_and_run
set_option linter.all false
set_option autoImplicit false
set_option maxRecDepth 100000
set_option maxHeartbeats 4000000
set_option Elab.async false
/-! Part 1: values, results, denotations, and how they lie in the abstract heap. -/
namespace Vq
open PySem L2

inductive D where
  | non
  | bl (b : Bool)
  | int (i : Int)
  | str (s : Str)
  | tup (l : List D)
  | ref (n : Nat)
  | ftup (l : List D)
  | dic (ks : List Key) (l : List D)

inductive Cell where
  | lst (l : List D)
  | ro (l : List D)

abbrev VH := List Cell
abbrev VS := List (Option D)

structure Exn where
  cls : Str
  fs : List (Str × D)

inductive Res (α : Type) where
  | ok (a : α)
  | ex (x : Exn) (s : VS) (h : VH)
  | bad
instance {α : Type} : Inhabited (Res α) := ⟨.bad⟩

def Res.bind {α β : Type} (r : Res α) (f : α → Res β) : Res β :=
  match r with
  | .ok a => f a
  | .ex x s h => .ex x s h
  | .bad => .bad
@[simp] theorem Res.ok_bind {α β : Type} (a : α) (f : α → Res β) : (Res.ok a).bind f = f a := rfl
@[simp] theorem Res.ex_bind {α β : Type} (x : Exn) (s : VS) (h : VH) (f : α → Res β) : (Res.ex x s h : Res α).bind f = .ex x s h := rfl
@[simp] theorem Res.bad_bind {α β : Type} (f : α → Res β) : (Res.bad : Res α).bind f = .bad := rfl

inductive Out where
  | nx
  | rt (d : D)
  | bk
  | ct

abbrev VE := VS → VH → Res (D × VH)
abbrev VT := VS → VH → Res (Bool × VH)
abbrev VA := VS → VH → Res (List D × VH)
abbrev VSt := VS → VH → Res (Out × VS × VH)
abbrev VG := D → VS → VH → Res (VS × VH)
abbrev Fn := List D → VH → Res (D × VH)

/-! ### worlds -/
structure Wd where
  ι : Nat → Addr
  h : VH
  H : Hp

/-- a tuple whose object is known -/
def TpL (H : Hp) (a : Addr) (vs : List V) : Prop := ∃ ob, H a = some (.frz ob (.tup vs)) ∧ ob.cls = .type "tuple" ∧ ob.dict = none
theorem TpL.sq {K : PySem.W.Frag} {H : Hp} {a : Addr} {vs : List V} (h : TpL H a vs) : SqT K H a vs := h.elim fun ob h => .inl (.inr ⟨ob, h.1⟩)
/-- a dict that nobody writes to -/
def DkL (H : Hp) (a : Addr) (ks : List Key) (vs : List V) : Prop := ks.length = vs.length ∧ ∃ ob, H a = some (.frz ob (.dK (ks.zip vs)))
mutual
inductive RepV (K : PySem.W.Frag) (ι : Nat → Addr) (n : Nat) (H : Hp) : D → V → Prop where
  | non : RepV K ι n H .non .non
  | bl (b : Bool) : RepV K ι n H (.bl b) (.bl b)
  | int (i : Int) : RepV K ι n H (.int i) (.int i)
  | str (s : Str) : RepV K ι n H (.str s) (.str s)
  | tup {a : Addr} {vs : List V} {ds : List D} (h : SqT K H a vs) (r : RepL K ι n H ds vs) : RepV K ι n H (.tup ds) (.ref a)
  | ref {k : Nat} (h : k < n) : RepV K ι n H (.ref k) (.ref (ι k))
  | ftup {a : Addr} {vs : List V} {ds : List D} (h : TpL H a vs) (r : RepL K ι n H ds vs) : RepV K ι n H (.ftup ds) (.ref a)
  | dic {a : Addr} {ks : List Key} {vs : List V} {ds : List D} (h : DkL H a ks vs) (r : RepL K ι n H ds vs) : RepV K ι n H (.dic ks ds) (.ref a)
inductive RepL (K : PySem.W.Frag) (ι : Nat → Addr) (n : Nat) (H : Hp) : List D → List V → Prop where
  | nil : RepL K ι n H [] []
  | cons {d : D} {ds : List D} {v : V} {vs : List V} (h : RepV K ι n H d v) (r : RepL K ι n H ds vs) : RepL K ι n H (d :: ds) (v :: vs)
end

/-- a list that nobody writes to -/
def RoL (K : PySem.W.Frag) (H : Hp) (a : Addr) (vs : List V) : Prop :=
  (∃ ob, H a = some (.frz ob (.lst vs))) ∨
    ∃ (o : Obj) (its : Array Value) (n : Nat), K.lookup a = some o ∧ o.cls = .type "list" ∧ o.dict = none ∧ o.data = .seq its n ∧ its.size ≤ sizeLine ∧ Vals vs its.toList
theorem RoL.sq {K : PySem.W.Frag} {H : Hp} {a : Addr} {vs : List V} (h : RoL K H a vs) : SqL K H a vs := h.elim (fun q => .inl (.inr q)) .inr
def Cell.mut : Cell → Bool
  | .lst _ => true
  | .ro _ => false

def RepC (K : PySem.W.Frag) (ι : Nat → Addr) (n : Nat) (H : Hp) (c : Cell) (a : Addr) : Prop :=
  match c with
  | .lst ds => ∃ vs, H a = some (.lst vs) ∧ RepL K ι n H ds vs
  | .ro ds => ∃ vs, RoL K H a vs ∧ RepL K ι n H ds vs

abbrev Rp (K : PySem.W.Frag) (w : Wd) : D → V → Prop := RepV K w.ι w.h.length w.H
abbrev Rps (K : PySem.W.Frag) (w : Wd) : List D → List V → Prop := RepL K w.ι w.h.length w.H

structure Wd.Ok (K : PySem.W.Frag) (w : Wd) : Prop where
  cell : ∀ n c, w.h[n]? = some c → RepC K w.ι w.h.length w.H c (w.ι n)
  inj : ∀ n m c e, w.h[n]? = some c → w.h[m]? = some e → c.mut = true → e.mut = true → w.ι n = w.ι m → n = m

structure Wd.Ext (K : PySem.W.Frag) (w w' : Wd) : Prop where
  len : w.h.length ≤ w'.h.length
  ι : ∀ n, n < w.h.length → w'.ι n = w.ι n
  tup : ∀ a vs, SqT K w.H a vs → SqT K w'.H a vs
  tp : ∀ a vs, TpL w.H a vs → TpL w'.H a vs
  dk : ∀ a ks vs, DkL w.H a ks vs → DkL w'.H a ks vs
  dp : ∀ a kvs, w.H a = some (.dK kvs) → w'.H a = some (.dK kvs)

theorem Wd.Ext.refl {K : PySem.W.Frag} (w : Wd) : Wd.Ext K w w := ⟨Nat.le_refl _, fun _ _ => rfl, fun _ _ h => h, fun _ _ h => h, fun _ _ _ h => h, fun _ _ h => h⟩
theorem Wd.Ext.trans {K : PySem.W.Frag} {a b c : Wd} (x : Wd.Ext K a b) (y : Wd.Ext K b c) : Wd.Ext K a c :=
  ⟨Nat.le_trans x.len y.len, fun n h => (y.ι n (Nat.lt_of_lt_of_le h x.len)).trans (x.ι n h), fun q vs h => y.tup q vs (x.tup q vs h), fun q vs h => y.tp q vs (x.tp q vs h), fun q ks vs h => y.dk q ks vs (x.dk q ks vs h), fun q kvs h => y.dp q kvs (x.dp q kvs h)⟩

mutual
theorem RepV.ext {K : PySem.W.Frag} {ι ι' : Nat → Addr} {n n' : Nat} {H H' : Hp} (hn : n ≤ n') (hι : ∀ k, k < n → ι' k = ι k) (ht : ∀ a vs, SqT K H a vs → SqT K H' a vs) (hf : ∀ a vs, TpL H a vs → TpL H' a vs) (hd : ∀ a ks vs, DkL H a ks vs → DkL H' a ks vs) :
    ∀ {d : D} {v : V}, RepV K ι n H d v → RepV K ι' n' H' d v
  | _, _, .non => .non
  | _, _, .bl b => .bl b
  | _, _, .int i => .int i
  | _, _, .str s => .str s
  | _, _, .tup h r => .tup (ht _ _ h) (RepL.ext hn hι ht hf hd r)
  | _, _, .ftup h r => .ftup (hf _ _ h) (RepL.ext hn hι ht hf hd r)
  | _, _, .dic h r => .dic (hd _ _ _ h) (RepL.ext hn hι ht hf hd r)
  | _, _, .ref h => by
    rw [← hι _ h]
    exact .ref (Nat.lt_of_lt_of_le h hn)
theorem RepL.ext {K : PySem.W.Frag} {ι ι' : Nat → Addr} {n n' : Nat} {H H' : Hp} (hn : n ≤ n') (hι : ∀ k, k < n → ι' k = ι k) (ht : ∀ a vs, SqT K H a vs → SqT K H' a vs) (hf : ∀ a vs, TpL H a vs → TpL H' a vs) (hd : ∀ a ks vs, DkL H a ks vs → DkL H' a ks vs) :
    ∀ {d : List D} {v : List V}, RepL K ι n H d v → RepL K ι' n' H' d v
  | _, _, .nil => .nil
  | _, _, .cons h r => .cons (RepV.ext hn hι ht hf hd h) (RepL.ext hn hι ht hf hd r)
end
theorem Wd.Ext.rp {K : PySem.W.Frag} {w w' : Wd} (x : Wd.Ext K w w') {d : D} {v : V} (h : Rp K w d v) : Rp K w' d v := RepV.ext x.len x.ι x.tup x.tp x.dk h
theorem Wd.Ext.rps {K : PySem.W.Frag} {w w' : Wd} (x : Wd.Ext K w w') {d : List D} {v : List V} (h : Rps K w d v) : Rps K w' d v := RepL.ext x.len x.ι x.tup x.tp x.dk h

theorem RepL.length {K : PySem.W.Frag} {ι : Nat → Addr} {n : Nat} {H : Hp} : ∀ {ds : List D} {vs : List V}, RepL K ι n H ds vs → ds.length = vs.length
  | _, _, .nil => rfl
  | _, _, .cons _ r => congrArg (· + 1) r.length
theorem RepL.get {K : PySem.W.Frag} {ι : Nat → Addr} {n : Nat} {H : Hp} : ∀ {ds : List D} {vs : List V} {i : Nat} {d : D}, RepL K ι n H ds vs → ds[i]? = some d → ∃ v, vs[i]? = some v ∧ RepV K ι n H d v
  | _, _, i, _, .nil, h => by simp at h
  | _, _, 0, _, .cons r _, h => by
    simp at h
    subst h
    exact ⟨_, rfl, r⟩
  | _, _, i + 1, _, .cons _ r, h => by
    simp at h
    obtain ⟨v, e, q⟩ := r.get h
    exact ⟨v, by simpa using e, q⟩
theorem RepL.getv {K : PySem.W.Frag} {ι : Nat → Addr} {n : Nat} {H : Hp} : ∀ {ds : List D} {vs : List V} {i : Nat} {v : V}, RepL K ι n H ds vs → vs[i]? = some v → ∃ d, ds[i]? = some d ∧ RepV K ι n H d v
  | _, _, i, _, .nil, h => by simp at h
  | _, _, 0, _, .cons r _, h => by
    simp at h
    subst h
    exact ⟨_, rfl, r⟩
  | _, _, i + 1, _, .cons _ r, h => by
    simp at h
    obtain ⟨d, e, q⟩ := r.getv h
    exact ⟨d, by simpa using e, q⟩
theorem RepL.append {K : PySem.W.Frag} {ι : Nat → Addr} {n : Nat} {H : Hp} : ∀ {ds es : List D} {vs us : List V}, RepL K ι n H ds vs → RepL K ι n H es us → RepL K ι n H (ds ++ es) (vs ++ us)
  | _, _, _, _, .nil, r => r
  | _, _, _, _, .cons h t, r => .cons h (t.append r)
theorem RepL.set {K : PySem.W.Frag} {ι : Nat → Addr} {n : Nat} {H : Hp} {d : D} {v : V} (q : RepV K ι n H d v) : ∀ {ds : List D} {vs : List V} (i : Nat), RepL K ι n H ds vs → RepL K ι n H (ds.set i d) (vs.set i v)
  | _, _, _, .nil => .nil
  | _, _, 0, .cons _ t => .cons q t
  | _, _, i + 1, .cons h t => .cons h (t.set q i)
theorem RepL.take {K : PySem.W.Frag} {ι : Nat → Addr} {n : Nat} {H : Hp} : ∀ {ds : List D} {vs : List V} (i : Nat), RepL K ι n H ds vs → RepL K ι n H (ds.take i) (vs.take i)
  | _, _, _, .nil => by simp; exact .nil
  | _, _, 0, .cons _ t => .nil
  | _, _, i + 1, .cons h t => .cons h (t.take i)
theorem RepL.drop {K : PySem.W.Frag} {ι : Nat → Addr} {n : Nat} {H : Hp} : ∀ {ds : List D} {vs : List V} (i : Nat), RepL K ι n H ds vs → RepL K ι n H (ds.drop i) (vs.drop i)
  | _, _, _, .nil => by simp; exact .nil
  | _, _, 0, .cons h t => .cons h t
  | _, _, i + 1, .cons h t => t.drop i
theorem RepL.eraseIdx {K : PySem.W.Frag} {ι : Nat → Addr} {n : Nat} {H : Hp} : ∀ {ds : List D} {vs : List V} (i : Nat), RepL K ι n H ds vs → RepL K ι n H (ds.eraseIdx i) (vs.eraseIdx i)
  | _, _, _, .nil => .nil
  | _, _, 0, .cons h t => t
  | _, _, i + 1, .cons h t => .cons h (t.eraseIdx i)
theorem RepL.reverse {K : PySem.W.Frag} {ι : Nat → Addr} {n : Nat} {H : Hp} : ∀ {ds : List D} {vs : List V}, RepL K ι n H ds vs → RepL K ι n H ds.reverse vs.reverse
  | _, _, .nil => .nil
  | _, _, .cons h t => by
    simp only [List.reverse_cons]
    exact t.reverse.append (.cons h .nil)

/-! ### what a heap's step keeps -/
/-- a fresh object -/
theorem SqT.fresh {K : PySem.W.Frag} {H : Hp} {p a : Addr} {o : HO} {vs : List V} (hp : H p = none) (h : SqT K H a vs) : SqT K (upd H p o) a vs := by
  rcases h with h | h
  · refine .inl ?_
    have hne : a ≠ p := by
      rintro rfl
      rcases h with h | ⟨_, h⟩ <;> rw [hp] at h <;> cases h
    rcases h with h | ⟨ob, h⟩
    · exact .inl (by rw [upd_ne hne]; exact h)
    · exact .inr ⟨ob, by rw [upd_ne hne]; exact h⟩
  · exact .inr h
/-- a list's new items -/
theorem SqT.wrote {K : PySem.W.Frag} {H : Hp} {p a : Addr} {xs : List V} {o : HO} {vs : List V} (hp : H p = some (.lst xs)) (h : SqT K H a vs) : SqT K (upd H p o) a vs := by
  rcases h with h | h
  · refine .inl ?_
    have hne : a ≠ p := by
      rintro rfl
      rcases h with h | ⟨_, h⟩ <;> rw [hp] at h <;> cases h
    rcases h with h | ⟨ob, h⟩
    · exact .inl (by rw [upd_ne hne]; exact h)
    · exact .inr ⟨ob, by rw [upd_ne hne]; exact h⟩
  · exact .inr h
theorem RoL.fresh {K : PySem.W.Frag} {H : Hp} {p a : Addr} {o : HO} {vs : List V} (hp : H p = none) (h : RoL K H a vs) : RoL K (upd H p o) a vs := by
  rcases h with ⟨ob, h⟩ | h
  · have hne : a ≠ p := by
      rintro rfl
      rw [hp] at h
      cases h
    exact .inl ⟨ob, by rw [upd_ne hne]; exact h⟩
  · exact .inr h
theorem RoL.wrote {K : PySem.W.Frag} {H : Hp} {p a : Addr} {xs : List V} {o : HO} {vs : List V} (hp : H p = some (.lst xs)) (h : RoL K H a vs) : RoL K (upd H p o) a vs := by
  rcases h with ⟨ob, h⟩ | h
  · have hne : a ≠ p := by
      rintro rfl
      rw [hp] at h
      cases h
    exact .inl ⟨ob, by rw [upd_ne hne]; exact h⟩
  · exact .inr h

theorem TpL.fresh {H : Hp} {p a : Addr} {o : HO} {vs : List V} (hp : H p = none) (h : TpL H a vs) : TpL (upd H p o) a vs := by
  obtain ⟨ob, h, g⟩ := h
  have hne : a ≠ p := by
    rintro rfl
    rw [hp] at h
    cases h
  exact ⟨ob, by rw [upd_ne hne]; exact h, g⟩
theorem TpL.wrote {H : Hp} {p a : Addr} {xs : List V} {o : HO} {vs : List V} (hp : H p = some (.lst xs)) (h : TpL H a vs) : TpL (upd H p o) a vs := by
  obtain ⟨ob, h, g⟩ := h
  have hne : a ≠ p := by
    rintro rfl
    rw [hp] at h
    cases h
  exact ⟨ob, by rw [upd_ne hne]; exact h, g⟩

theorem DkL.fresh {H : Hp} {p a : Addr} {o : HO} {ks : List Key} {vs : List V} (hp : H p = none) (h : DkL H a ks vs) : DkL (upd H p o) a ks vs := by
  obtain ⟨hl, ob, h⟩ := h
  have hne : a ≠ p := by
    rintro rfl
    rw [hp] at h
    cases h
  exact ⟨hl, ob, by rw [upd_ne hne]; exact h⟩
theorem DkL.wrote {H : Hp} {p a : Addr} {xs : List V} {o : HO} {ks : List Key} {vs : List V} (hp : H p = some (.lst xs)) (h : DkL H a ks vs) : DkL (upd H p o) a ks vs := by
  obtain ⟨hl, ob, h⟩ := h
  have hne : a ≠ p := by
    rintro rfl
    rw [hp] at h
    cases h
  exact ⟨hl, ob, by rw [upd_ne hne]; exact h⟩

/-! ### worlds that step -/
/-- a new immutable object (a tuple) -/
def Wd.tupAt (w : Wd) (p : Addr) (o : HO) : Wd := ⟨w.ι, w.h, upd w.H p o⟩
theorem Wd.ext_tupAt {K : PySem.W.Frag} {w : Wd} {p : Addr} {o : HO} (hp : w.H p = none) : Wd.Ext K w (w.tupAt p o) :=
  ⟨Nat.le_refl _, fun _ _ => rfl, fun _ _ h => SqT.fresh hp h, fun _ _ h => TpL.fresh hp h, fun _ _ _ h => DkL.fresh hp h, fun a kvs h => (upd_ne (fun z => by rw [z, hp] at h; cases h)).trans h⟩
theorem Wd.Ok.tupAt {K : PySem.W.Frag} {w : Wd} (ok : w.Ok K) {p : Addr} {o : HO} (hp : w.H p = none) : (w.tupAt p o).Ok K := by
  refine ⟨fun n c e => ?_, ok.inj⟩
  have q := ok.cell n c e
  have x : Wd.Ext K w (w.tupAt p o) := Wd.ext_tupAt hp
  cases c with
  | lst ds =>
    obtain ⟨vs, h1, h2⟩ := q
    refine ⟨vs, ?_, x.rps h2⟩
    show upd w.H p o (w.ι n) = _
    rw [upd_ne (by intro z; rw [z, hp] at h1; cases h1)]
    exact h1
  | ro ds =>
    obtain ⟨vs, h1, h2⟩ := q
    exact ⟨vs, h1.fresh hp, x.rps h2⟩

/-- a new list -/
def Wd.newL (w : Wd) (p : Addr) (ds : List D) (vs : List V) : Wd := ⟨fun k => if k = w.h.length then p else w.ι k, w.h ++ [.lst ds], upd w.H p (.lst vs)⟩
theorem Wd.ext_newL {K : PySem.W.Frag} {w : Wd} {p : Addr} {ds : List D} {vs : List V} (hp : w.H p = none) : Wd.Ext K w (w.newL p ds vs) :=
  ⟨by simp [Wd.newL], fun n h => by
    show (if n = w.h.length then p else w.ι n) = w.ι n
    rw [if_neg (Nat.ne_of_lt h)], fun _ _ h => SqT.fresh hp h, fun _ _ h => TpL.fresh hp h, fun _ _ _ h => DkL.fresh hp h, fun a kvs h => (upd_ne (fun z => by rw [z, hp] at h; cases h)).trans h⟩
theorem Wd.Ok.newL {K : PySem.W.Frag} {w : Wd} (ok : w.Ok K) {p : Addr} {ds : List D} {vs : List V} (hp : w.H p = none) (r : Rps K w ds vs) : (w.newL p ds vs).Ok K := by
  have x : Wd.Ext K w (w.newL p ds vs) := Wd.ext_newL hp
  have at_ : ∀ n c, (w.newL p ds vs).h[n]? = some c → (n = w.h.length ∧ c = .lst ds) ∨ (n < w.h.length ∧ w.h[n]? = some c) := fun n c e => by
    have e' : (w.h ++ [Cell.lst ds])[n]? = some c := e
    by_cases hn : n < w.h.length
    · rw [List.getElem?_append_left hn] at e'
      exact .inr ⟨hn, e'⟩
    · rw [List.getElem?_append_right (by omega)] at e'
      have : n - w.h.length = 0 := by
        by_cases q : n - w.h.length = 0
        · exact q
        · rw [List.getElem?_eq_none (by simp; omega)] at e'
          cases e'
      rw [this] at e'
      exact .inl ⟨by omega, by simpa using e'.symm⟩
  have ι1 : ∀ n, n < w.h.length → (w.newL p ds vs).ι n = w.ι n := x.ι
  have ι2 : (w.newL p ds vs).ι w.h.length = p := if_pos rfl
  refine ⟨fun n c e => ?_, fun n m c e hn hm mc me q => ?_⟩
  · rcases at_ n c e with ⟨rfl, rfl⟩ | ⟨hn, e⟩
    · rw [ι2]
      exact ⟨vs, upd_same, x.rps r⟩
    · rw [ι1 n hn]
      have q := ok.cell n c e
      cases c with
      | lst es =>
        obtain ⟨us, h1, h2⟩ := q
        refine ⟨us, ?_, x.rps h2⟩
        show upd w.H p _ (w.ι n) = _
        rw [upd_ne (by intro z; rw [z, hp] at h1; cases h1)]
        exact h1
      | ro es =>
        obtain ⟨us, h1, h2⟩ := q
        exact ⟨us, h1.fresh hp, x.rps h2⟩
  · have there : ∀ n c, w.h[n]? = some c → c.mut = true → w.H (w.ι n) ≠ none := fun n c e mc => by
      have q := ok.cell n c e
      cases c with
      | lst es =>
        obtain ⟨us, h1, h2⟩ := q
        rw [h1]
        exact fun z => nomatch z
      | ro es => cases mc
    rcases at_ n c hn with ⟨rfl, rfl⟩ | ⟨hn', e1⟩
    · rcases at_ m e hm with ⟨rfl, rfl⟩ | ⟨hm', e2⟩
      · rfl
      · rw [ι2, ι1 m hm'] at q
        exact absurd (q ▸ hp) (there m e e2 me)
    · rcases at_ m e hm with ⟨rfl, rfl⟩ | ⟨hm', e2⟩
      · rw [ι2, ι1 n hn'] at q
        exact absurd (q ▸ hp) (there n c e1 mc)
      · rw [ι1 n hn', ι1 m hm'] at q
        exact ok.inj n m c e e1 e2 mc me q

/-- another thing in the place of a dict that nothing rests on -/
theorem dk_keep {K : PySem.W.Frag} {H : Hp} {p : Addr} {o : HO} {kvs : List (Key × V)} (hp : H p = some (.dK kvs)) :
    (∀ a vs, SqT K H a vs → SqT K (upd H p o) a vs) ∧ (∀ a vs, TpL H a vs → TpL (upd H p o) a vs) ∧ ∀ a ks vs, DkL H a ks vs → DkL (upd H p o) a ks vs := by
  refine ⟨fun a vs h => ?_, fun a vs h => ?_, fun a ks vs h => ?_⟩
  · rcases h with h | h
    · refine .inl ?_
      have hne : a ≠ p := by
        rintro rfl
        rcases h with h | ⟨_, h⟩ <;> rw [hp] at h <;> cases h
      rcases h with h | ⟨ob, h⟩
      · exact .inl (by rw [upd_ne hne]; exact h)
      · exact .inr ⟨ob, by rw [upd_ne hne]; exact h⟩
    · exact .inr h
  · obtain ⟨ob, h, g⟩ := h
    have hne : a ≠ p := by
      rintro rfl
      rw [hp] at h
      cases h
    exact ⟨ob, by rw [upd_ne hne]; exact h, g⟩
  · obtain ⟨hl, ob, h⟩ := h
    have hne : a ≠ p := by
      rintro rfl
      rw [hp] at h
      cases h
    exact ⟨hl, ob, by rw [upd_ne hne]; exact h⟩
theorem Wd.rp_dk {K : PySem.W.Frag} {w : Wd} {p : Addr} {o : HO} {kvs : List (Key × V)} (hp : w.H p = some (.dK kvs)) {d : D} {v : V} (r : Rp K w d v) : Rp K (w.tupAt p o) d v :=
  RepV.ext (Nat.le_refl _) (fun _ _ => rfl) (dk_keep hp).1 (dk_keep (K := K) hp).2.1 (dk_keep (K := K) hp).2.2 r
theorem Wd.rps_dk {K : PySem.W.Frag} {w : Wd} {p : Addr} {o : HO} {kvs : List (Key × V)} (hp : w.H p = some (.dK kvs)) {d : List D} {v : List V} (r : Rps K w d v) : Rps K (w.tupAt p o) d v :=
  RepL.ext (Nat.le_refl _) (fun _ _ => rfl) (dk_keep hp).1 (dk_keep (K := K) hp).2.1 (dk_keep (K := K) hp).2.2 r
theorem Wd.Ok.dkAt {K : PySem.W.Frag} {w : Wd} (ok : w.Ok K) {p : Addr} {o : HO} {kvs : List (Key × V)} (hp : w.H p = some (.dK kvs)) : (w.tupAt p o).Ok K := by
  refine ⟨fun n c e => ?_, ok.inj⟩
  have q := ok.cell n c e
  cases c with
  | lst ds =>
    obtain ⟨vs, h1, h2⟩ := q
    refine ⟨vs, ?_, Wd.rps_dk hp h2⟩
    show upd w.H p o (w.ι n) = _
    rw [upd_ne (by intro z; rw [z, hp] at h1; cases h1)]
    exact h1
  | ro ds =>
    obtain ⟨vs, h1, h2⟩ := q
    refine ⟨vs, ?_, Wd.rps_dk hp h2⟩
    rcases h1 with ⟨ob, h⟩ | h
    · refine .inl ⟨ob, ?_⟩
      show upd w.H p o (w.ι n) = _
      rw [upd_ne (by intro z; rw [z, hp] at h; cases h)]
      exact h
    · exact .inr h
/-- from before the dict was: as if nothing had been -/
theorem Wd.Ext.dkAt {K : PySem.W.Frag} {w w' : Wd} (x : Wd.Ext K w w') {p : Addr} {o : HO} {kvs : List (Key × V)} (h0 : w.H p = none) (hp : w'.H p = some (.dK kvs)) : Wd.Ext K w (w'.tupAt p o) :=
  ⟨x.len, x.ι, fun a vs h => (dk_keep hp).1 a vs (x.tup a vs h), fun a vs h => (dk_keep (K := K) hp).2.1 a vs (x.tp a vs h), fun a ks vs h => (dk_keep (K := K) hp).2.2 a ks vs (x.dk a ks vs h),
    fun a kvs h => (upd_ne (fun z => by rw [z, h0] at h; cases h)).trans (x.dp a kvs h)⟩
/-- a list's new items -/
def Wd.putL (w : Wd) (n : Nat) (ds : List D) (vs : List V) : Wd := ⟨w.ι, w.h.set n (.lst ds), upd w.H (w.ι n) (.lst vs)⟩
theorem Wd.ext_putL {K : PySem.W.Frag} {w : Wd} {n : Nat} {xs : List V} {ds : List D} {vs : List V} (hp : w.H (w.ι n) = some (.lst xs)) : Wd.Ext K w (w.putL n ds vs) :=
  ⟨by simp [Wd.putL], fun _ _ => rfl, fun _ _ h => SqT.wrote hp h, fun _ _ h => TpL.wrote hp h, fun _ _ _ h => DkL.wrote hp h, fun a kvs h => (upd_ne (fun z => by rw [z, hp] at h; cases h)).trans h⟩
theorem Wd.Ok.putL {K : PySem.W.Frag} {w : Wd} (ok : w.Ok K) {n : Nat} {es ds : List D} {vs : List V} (hn : w.h[n]? = some (.lst es)) (r : Rps K w ds vs) : (w.putL n ds vs).Ok K ∧ Wd.Ext K w (w.putL n ds vs) := by
  obtain ⟨xs, hp, _⟩ := ok.cell n _ hn
  have x : Wd.Ext K w (w.putL n ds vs) := Wd.ext_putL hp
  have hl : n < w.h.length := (List.getElem?_eq_some_iff.mp hn).1
  have at_ : ∀ m c, (w.putL n ds vs).h[m]? = some c → (m = n ∧ c = .lst ds) ∨ (m ≠ n ∧ w.h[m]? = some c) := fun m c e => by
    have e' : (w.h.set n (.lst ds))[m]? = some c := e
    by_cases hm : m = n
    · subst hm
      rw [List.getElem?_set_self hl] at e'
      exact .inl ⟨rfl, by simpa using e'.symm⟩
    · rw [List.getElem?_set_ne (fun z => hm z.symm)] at e'
      exact .inr ⟨hm, e'⟩
  refine ⟨⟨fun m c e => ?_, fun m k c e hm hk mc me q => ?_⟩, x⟩
  · rcases at_ m c e with ⟨rfl, rfl⟩ | ⟨hm, e⟩
    · exact ⟨vs, upd_same, x.rps r⟩
    · have q := ok.cell m c e
      cases c with
      | lst fs =>
        obtain ⟨us, h1, h2⟩ := q
        refine ⟨us, ?_, x.rps h2⟩
        show upd w.H (w.ι n) _ (w.ι m) = _
        rw [upd_ne (fun z => hm (ok.inj m n _ _ e hn rfl rfl z))]
        exact h1
      | ro fs =>
        obtain ⟨us, h1, h2⟩ := q
        exact ⟨us, h1.wrote hp, x.rps h2⟩
  · have old : ∀ m (c : Cell), (w.putL n ds vs).h[m]? = some c → c.mut = true → ∃ c' : Cell, w.h[m]? = some c' ∧ c'.mut = true := fun m c e mc => by
      rcases at_ m c e with ⟨rfl, rfl⟩ | ⟨hm, e⟩
      · exact ⟨_, hn, rfl⟩
      · exact ⟨c, e, mc⟩
    obtain ⟨c1, a1, b1⟩ := old m c hm mc
    obtain ⟨c2, a2, b2⟩ := old k e hk me
    exact ok.inj m k c1 c2 a1 a2 b1 b2 q
end Vq

/-! Part 2: the readings of denotations; rules for expressions. -/
namespace Vq
open PySem PySem.Spec PyProof.Rows L2

def Slots (K : PySem.W.Frag) (w : Wd) (s : VS) (σ : L2.St) : Prop :=
  s.length = σ.length ∧ ∀ (i : Nat) (d : D), s[i]? = some (some d) → ∃ v, σ[i]? = some (some v) ∧ Rp K w d v
theorem Slots.ext {K : PySem.W.Frag} {w w' : Wd} {s : VS} {σ : L2.St} (h : Slots K w s σ) (x : Wd.Ext K w w') : Slots K w' s σ :=
  ⟨h.1, fun i d e => let ⟨v, a, b⟩ := h.2 i d e; ⟨v, a, x.rp b⟩⟩
theorem Slots.set {K : PySem.W.Frag} {w : Wd} {s : VS} {σ : L2.St} (h : Slots K w s σ) (i : Nat) {d : D} {v : V} (r : Rp K w d v) : Slots K w (s.set i (some d)) (σ.set i (some v)) := by
  refine ⟨by simp [h.1], fun j e q => ?_⟩
  by_cases hj : i = j
  · subst hj
    by_cases hl : i < s.length
    · rw [List.getElem?_set_self hl] at q
      cases q
      exact ⟨v, List.getElem?_set_self (h.1 ▸ hl), r⟩
    · rw [List.getElem?_eq_none (by simp; omega)] at q
      cases q
  · rw [List.getElem?_set_ne hj] at q
    obtain ⟨u, a, b⟩ := h.2 j e q
    exact ⟨u, by rw [List.getElem?_set_ne hj]; exact a, b⟩

def RepX (K : PySem.W.Frag) (mg : Str → Option Value) (w : Wd) (x : Exn) (cls : Value) (d : Option Addr) : Prop :=
  mg x.cls = some cls ∧ ((x.fs = [] ∧ d = none) ∨
    ∃ a fs, d = some a ∧ x.fs ≠ [] ∧ w.H a = some (.xd fs) ∧ fs.map (·.1) = x.fs.map (·.1) ∧ Rps K w (x.fs.map (·.2)) (fs.map (·.2)))

section
variable (X : Cx) (W : WX)
def PstX (w0 : Wd) (x : Exn) (s : VS) (h : VH) : Prop := ∀ (w : Wd) (cls : Value) (d : Option Addr) (σ : L2.St), w.Ok X.K → w.h = h → Wd.Ext X.K w0 w → Slots X.K w s σ → RepX X.K X.mg w x cls d → W cls d σ w.H
def PstE (w : Wd) (r : Res (D × VH)) (Q : VK) : Prop :=
  match r with
  | .ok p => ∀ w' v, w'.Ok X.K → w'.h = p.2 → Wd.Ext X.K w w' → Rp X.K w' p.1 v → Q v w'.H
  | .ex x s h => PstX X W w x s h
  | .bad => False
def PstT (w : Wd) (r : Res (Bool × VH)) (Q : Bool → Hp → Prop) : Prop :=
  match r with
  | .ok p => ∀ w', w'.Ok X.K → w'.h = p.2 → Wd.Ext X.K w w' → Q p.1 w'.H
  | .ex x s h => PstX X W w x s h
  | .bad => False
def PstA (w : Wd) (r : Res (List D × VH)) (Q : List V → Hp → Prop) : Prop :=
  match r with
  | .ok p => ∀ w' vs, w'.Ok X.K → w'.h = p.2 → Wd.Ext X.K w w' → Rps X.K w' p.1 vs → Q vs w'.H
  | .ex x s h => PstX X W w x s h
  | .bad => False
def PstS (w : Wd) (r : Res (Out × VS × VH)) (E : Ends) : Prop :=
  match r with
  | .ok (.nx, s, h) => ∀ w' σ, w'.Ok X.K → w'.h = h → Wd.Ext X.K w w' → Slots X.K w' s σ → E.nx σ w'.H
  | .ok (.rt d, s, h) => ∀ w' v, w'.Ok X.K → w'.h = h → Wd.Ext X.K w w' → Rp X.K w' d v → E.rt v w'.H
  | .ok (.bk, s, h) => ∀ w' σ, w'.Ok X.K → w'.h = h → Wd.Ext X.K w w' → Slots X.K w' s σ → E.bk σ w'.H
  | .ok (.ct, s, h) => ∀ w' σ, w'.Ok X.K → w'.h = h → Wd.Ext X.K w w' → Slots X.K w' s σ → E.ct σ w'.H
  | .ex x s h => PstX X W w x s h
  | .bad => False
def PstG (w : Wd) (r : Res (VS × VH)) (Q : L2.St → Hp → Prop) : Prop :=
  match r with
  | .ok p => ∀ w' σ, w'.Ok X.K → w'.h = p.2 → Wd.Ext X.K w w' → Slots X.K w' p.1 σ → Q σ w'.H
  | .ex x s h => PstX X W w x s h
  | .bad => False

def gE (f : VE) : TE := fun σ H Q => ∃ w s, w.H = H ∧ w.Ok X.K ∧ Slots X.K w s σ ∧ PstE X W w (f s w.h) Q
def gT (f : VT) : TT := fun σ H Q => ∃ w s, w.H = H ∧ w.Ok X.K ∧ Slots X.K w s σ ∧ PstT X W w (f s w.h) Q
def gA (f : VA) : TA := fun σ H Q => ∃ w s, w.H = H ∧ w.Ok X.K ∧ Slots X.K w s σ ∧ PstA X W w (f s w.h) Q
def gS (f : VSt) : TS := fun E σ H => ∃ w s, w.H = H ∧ w.Ok X.K ∧ Slots X.K w s σ ∧ PstS X W w (f s w.h) E
def gG (f : VG) : TG := fun v σ H Q => ∃ w s d, w.H = H ∧ w.Ok X.K ∧ Slots X.K w s σ ∧ Rp X.K w d v ∧ PstG X W w (f d s w.h) Q

/-- a rule that has nothing to do with exceptions -/
def PstO (K : PySem.W.Frag) (w : Wd) (r : Option (D × VH)) (Q : VK) : Prop :=
  match r with
  | some p => ∀ w' v, w'.Ok K → w'.h = p.2 → Wd.Ext K w w' → Rp K w' p.1 v → Q v w'.H
  | none => False
end
def lift {α : Type} : Option α → Res α
  | some a => .ok a
  | none => .bad
@[simp] theorem lift_some {α : Type} (a : α) : lift (some a) = .ok a := rfl
@[simp] theorem lift_none {α : Type} : lift (none : Option α) = .bad := rfl

section
variable {X : Cx} {W : WX}
theorem PstE.lift {w : Wd} {r : Option (D × VH)} {Q : VK} (h : PstE X W w (lift r) Q) : PstO X.K w r Q := by
  cases r with
  | none => exact h
  | some p => exact h
theorem PstX.mono {w w1 : Wd} {x : Exn} {s : VS} {h : VH} (e : Wd.Ext X.K w w1) (p : PstX X W w x s h) : PstX X W w1 x s h :=
  fun w' cls d σ ok eh x' sl rx => p w' cls d σ ok eh (e.trans x') sl rx
theorem PstE.mono {w w1 : Wd} {r : Res (D × VH)} {Q : VK} (x : Wd.Ext X.K w w1) (h : PstE X W w r Q) : PstE X W w1 r Q := by
  cases r with
  | ok p => exact fun w' v ok e x' rp => h w' v ok e (x.trans x') rp
  | ex _ _ _ => exact PstX.mono x h
  | bad => exact h
theorem PstT.mono {w w1 : Wd} {r : Res (Bool × VH)} {Q : Bool → Hp → Prop} (x : Wd.Ext X.K w w1) (h : PstT X W w r Q) : PstT X W w1 r Q := by
  cases r with
  | ok p => exact fun w' ok e x' => h w' ok e (x.trans x')
  | ex _ _ _ => exact PstX.mono x h
  | bad => exact h
theorem PstA.mono {w w1 : Wd} {r : Res (List D × VH)} {Q : List V → Hp → Prop} (x : Wd.Ext X.K w w1) (h : PstA X W w r Q) : PstA X W w1 r Q := by
  cases r with
  | ok p => exact fun w' v ok e x' rp => h w' v ok e (x.trans x') rp
  | ex _ _ _ => exact PstX.mono x h
  | bad => exact h
theorem PstS.mono {w w1 : Wd} {r : Res (Out × VS × VH)} {Q : Ends} (x : Wd.Ext X.K w w1) (h : PstS X W w r Q) : PstS X W w1 r Q := by
  cases r with
  | ok p =>
    obtain ⟨o, s, hp⟩ := p
    cases o <;> exact fun w' v ok e x' rp => h w' v ok e (x.trans x') rp
  | ex _ _ _ => exact PstX.mono x h
  | bad => exact h
theorem PstG.mono {w w1 : Wd} {r : Res (VS × VH)} {Q : L2.St → Hp → Prop} (x : Wd.Ext X.K w w1) (h : PstG X W w r Q) : PstG X W w1 r Q := by
  cases r with
  | ok p => exact fun w' v ok e x' rp => h w' v ok e (x.trans x') rp
  | ex _ _ _ => exact PstX.mono x h
  | bad => exact h
theorem PstO.mono {K : PySem.W.Frag} {w w1 : Wd} {r : Option (D × VH)} {Q : VK} (x : Wd.Ext K w w1) (h : PstO K w r Q) : PstO K w1 r Q := by
  cases r with
  | some p => exact fun w' v ok e x' rp => h w' v ok e (x.trans x') rp
  | none => exact h

/-- what a continuation wants, whatever kind it is -/
structure Wants (X : Cx) (W : WX) (w : Wd) {β : Type} (P : Res β → Prop) : Prop where
  bad : ¬ P .bad
  ex : ∀ x s h, P (.ex x s h) → PstX X W w x s h
theorem Wants.mono {w w1 : Wd} {β : Type} {P : Res β → Prop} (a : Wants X W w P) (x : Wd.Ext X.K w w1) : Wants X W w1 P := ⟨a.bad, fun e s h q => (a.ex e s h q).mono x⟩
theorem wE (w : Wd) (Q : VK) : Wants X W w (fun r => PstE X W w r Q) := ⟨id, fun _ _ _ h => h⟩
theorem wT (w : Wd) (Q : Bool → Hp → Prop) : Wants X W w (fun r => PstT X W w r Q) := ⟨id, fun _ _ _ h => h⟩
theorem wA (w : Wd) (Q : List V → Hp → Prop) : Wants X W w (fun r => PstA X W w r Q) := ⟨id, fun _ _ _ h => h⟩
theorem wS (w : Wd) (Q : Ends) : Wants X W w (fun r => PstS X W w r Q) := ⟨id, fun _ _ _ h => h⟩
theorem wG (w : Wd) (Q : L2.St → Hp → Prop) : Wants X W w (fun r => PstG X W w r Q) := ⟨id, fun _ _ _ h => h⟩

theorem gE.seq {f : VE} {β : Type} {k : D × VH → Res β} {P : Res β → Prop} {w : Wd} {s : VS} {σ : L2.St} {Q : VK} (ok : w.Ok X.K) (sl : Slots X.K w s σ) (hP : Wants X W w P) (hp : P ((f s w.h).bind k))
    (hq : ∀ d w1 v, w1.Ok X.K → Wd.Ext X.K w w1 → Slots X.K w1 s σ → Rp X.K w1 d v → P (k (d, w1.h)) → Q v w1.H) : gE X W f σ w.H Q := by
  refine ⟨w, s, rfl, ok, sl, ?_⟩
  cases e : f s w.h with
  | ok p =>
    rw [e] at hp
    obtain ⟨p1, p2⟩ := p
    intro w' v ok' q x r
    refine hq p1 w' v ok' x (sl.ext x) r ?_
    rw [show w'.h = p2 from q]
    exact hp
  | ex x s h => rw [e] at hp; exact hP.ex _ _ _ hp
  | bad => rw [e] at hp; exact (hP.bad hp).elim
theorem gT.seq {f : VT} {β : Type} {k : Bool × VH → Res β} {P : Res β → Prop} {w : Wd} {s : VS} {σ : L2.St} {Q : Bool → Hp → Prop} (ok : w.Ok X.K) (sl : Slots X.K w s σ) (hP : Wants X W w P) (hp : P ((f s w.h).bind k))
    (hq : ∀ d w1, w1.Ok X.K → Wd.Ext X.K w w1 → Slots X.K w1 s σ → P (k (d, w1.h)) → Q d w1.H) : gT X W f σ w.H Q := by
  refine ⟨w, s, rfl, ok, sl, ?_⟩
  cases e : f s w.h with
  | ok p =>
    rw [e] at hp
    obtain ⟨p1, p2⟩ := p
    intro w' ok' q x
    refine hq p1 w' ok' x (sl.ext x) ?_
    rw [show w'.h = p2 from q]
    exact hp
  | ex x s h => rw [e] at hp; exact hP.ex _ _ _ hp
  | bad => rw [e] at hp; exact (hP.bad hp).elim
theorem gA.seq {f : VA} {β : Type} {k : List D × VH → Res β} {P : Res β → Prop} {w : Wd} {s : VS} {σ : L2.St} {Q : List V → Hp → Prop} (ok : w.Ok X.K) (sl : Slots X.K w s σ) (hP : Wants X W w P) (hp : P ((f s w.h).bind k))
    (hq : ∀ d w1 v, w1.Ok X.K → Wd.Ext X.K w w1 → Slots X.K w1 s σ → Rps X.K w1 d v → P (k (d, w1.h)) → Q v w1.H) : gA X W f σ w.H Q := by
  refine ⟨w, s, rfl, ok, sl, ?_⟩
  cases e : f s w.h with
  | ok p =>
    rw [e] at hp
    obtain ⟨p1, p2⟩ := p
    intro w' v ok' q x r
    refine hq p1 w' v ok' x (sl.ext x) r ?_
    rw [show w'.h = p2 from q]
    exact hp
  | ex x s h => rw [e] at hp; exact hP.ex _ _ _ hp
  | bad => rw [e] at hp; exact (hP.bad hp).elim

theorem PEw {e : Expr} {t t' : TE} (h : PE X e t) (i : ∀ σ H Q, t' σ H Q → t σ H Q) : PE X e t' := ⟨fun pins s σ H Q I q => h.run pins s σ H Q I (i σ H Q q)⟩
theorem PTw {e : Expr} {t t' : TT} (h : PT X e t) (i : ∀ σ H Q, t' σ H Q → t σ H Q) : PT X e t' := ⟨fun pins s σ H Q I q => h.run pins s σ H Q I (i σ H Q q)⟩
theorem PWw {e : Expr} {t t' : TT} (h : PW X e t) (i : ∀ σ H Q, t' σ H Q → t σ H Q) : PW X e t' := ⟨fun wh pins s σ H Q I q => h.run wh pins s σ H Q I (i σ H Q q)⟩
theorem PAw {e : List Expr} {t t' : TA} (h : PA X e t) (i : ∀ σ H Q, t' σ H Q → t σ H Q) : PA X e t' := ⟨fun pos pins s σ H Q I q => h.run pos pins s σ H Q I (i σ H Q q)⟩
theorem PSw {e : Stmt} {t t' : TS} (h : PS X e t) (i : ∀ D σ H, t' D σ H → t D σ H) : PS X e t' := ⟨fun pins s σ H D I q => h.run pins s σ H D I (i D σ H q)⟩
theorem PSsw {e : List Stmt} {t t' : TS} (h : PSs X e t) (i : ∀ D σ H, t' D σ H → t D σ H) : PSs X e t' := ⟨fun pins s σ H D I q => h.run pins s σ H D I (i D σ H q)⟩
theorem PGw {e : Expr} {t t' : TG} (h : PG X e t) (i : ∀ v σ H Q, t' v σ H Q → t v σ H Q) : PG X e t' := ⟨fun pins s σ H v u Q I r q => h.run pins s σ H v u Q I r (i v σ H Q q)⟩

/-! ### names and constants -/
def vVar (i : Nat) : VE := fun s h => match s[i]? with
  | some (some d) => .ok (d, h)
  | _ => .bad
def vC (d : D) : VE := fun _ h => .ok (d, h)
theorem qV {x : Str} {pos : Pos} {i : Nat} (hN : X.N[i]? = some x := by rfl) (hv : Vis X.env.scope x := by first | exact Or.inl rfl | exact Or.inr (Or.inl rfl) | exact Or.inr (Or.inr rfl))
    (hd : (x == ("__debug__" : Str)) = false := by decide) (hcd : (x == ("__classdict__" : Str)) = false := by decide) : PE X (.Name x pos) (gE X W (vVar i)) :=
  PEw (pe_var (i := i) hN hv hd hcd) fun σ H Q ⟨w, s, hH, ok, sl, hp⟩ => by
    subst hH
    unfold vVar at hp
    split at hp
    · rename_i d e
      obtain ⟨v, e', r⟩ := sl.2 i d e
      exact ⟨v, e', hp w v ok rfl (.refl w) r⟩
    · exact hp.elim
theorem qC {e : Expr} {d : D} {v : V} (h : PE X e (tC v)) (r : ∀ w : Wd, Rp X.K w d v) : PE X e (gE X W (vC d)) :=
  PEw h fun σ H Q ⟨w, s, hH, ok, sl, hp⟩ => by
    subst hH
    exact hp w v ok rfl (.refl w) (r w)
theorem qI {i : Int} {j} {pos : Pos} : PE X (.Constant (.int i) j pos) (gE X W (vC (.int i))) := qC pe_int fun _ => .int i
theorem qB {b : Bool} {j} {pos : Pos} : PE X (.Constant (.bool b) j pos) (gE X W (vC (.bl b))) := qC pe_bl fun _ => .bl b
theorem qN {j} {pos : Pos} : PE X (.Constant .none j pos) (gE X W (vC .non)) := qC pe_non fun _ => .non
theorem qS {x : Str} {j} {pos : Pos} : PE X (.Constant (.str x) j pos) (gE X W (vC (.str x))) := qC pe_str fun _ => .str x

/-! ### argument lists, displays -/
def vNil : VA := fun _ h => .ok ([], h)
def vCons (f : VE) (g : VA) : VA := fun s h => (f s h).bind fun p => (g s p.2).bind fun q => .ok (p.1 :: q.1, q.2)
theorem qa0 : PA X [] (gA X W vNil) := PAw pa_nil fun σ H Q ⟨w, s, hH, ok, sl, hp⟩ => by
  subst hH
  exact hp w [] ok rfl (.refl w) .nil
theorem qa {e : Expr} {es : List Expr} {f : VE} {g : VA} (ha : PE X e (gE X W f)) (hr : PA X es (gA X W g)) (hs : starEach (e :: es) X.env = (false, eval e X.env) :: starEach es X.env := by rfl) : PA X (e :: es) (gA X W (vCons f g)) :=
  PAw (pa_cons ha hr hs) fun σ H Q ⟨w, s, hH, ok, sl, hp⟩ => by
    subst hH
    refine gE.seq ok sl (wA w Q) hp fun d w1 v ok1 x1 sl1 r1 hp1 => ?_
    refine gA.seq ok1 sl1 ((wA w Q).mono x1) hp1 fun d2 w2 v2 ok2 x2 sl2 r2 hp2 => ?_
    exact hp2 w2 (v :: v2) ok2 rfl (x1.trans x2) (.cons (x2.rp r1) r2)
def vTup (g : VA) : VE := fun s h => (g s h).bind fun p => if p.1.length ≤ sizeLine then .ok (.tup p.1, p.2) else .bad
def vLst (g : VA) : VE := fun s h => (g s h).bind fun p => if p.1.length ≤ sizeLine then .ok (.ref p.2.length, p.2 ++ [.lst p.1]) else .bad
theorem at_newL {K : PySem.W.Frag} {w : Wd} {p : Addr} {ds : List D} {vs : List V} : Rp K (w.newL p ds vs) (.ref w.h.length) (.ref p) := by
  have q : RepV K (w.newL p ds vs).ι (w.newL p ds vs).h.length (w.newL p ds vs).H (.ref w.h.length) (.ref ((w.newL p ds vs).ι w.h.length)) := .ref (by simp [Wd.newL])
  have e : (w.newL p ds vs).ι w.h.length = p := if_pos rfl
  rw [e] at q
  exact q
theorem qTup {es : List Expr} {g : VA} {pos : Pos} {x1} (ha : PA X es (gA X W g)) : PE X (.Tuple es x1 pos) (gE X W (vTup g)) :=
  PEw (pe_tup ha) fun σ H Q ⟨w, s, hH, ok, sl, hp⟩ => by
    subst hH
    refine gA.seq ok sl (wE w Q) hp fun ds w1 vs ok1 x1 sl1 r1 hp1 => ?_
    simp only at hp1
    by_cases hl : ds.length ≤ sizeLine
    · rw [if_pos hl] at hp1
      refine ⟨by rw [← r1.length]; exact hl, fun p hn => ?_⟩
      exact hp1 (w1.tupAt p (.tup vs)) (.ref p) (ok1.tupAt hn) rfl (x1.trans (Wd.ext_tupAt hn)) (.tup (SqT.of upd_same) ((Wd.ext_tupAt hn).rps r1))
    · rw [if_neg hl] at hp1
      exact hp1.elim
theorem qLst {es : List Expr} {g : VA} {pos : Pos} (ha : PA X es (gA X W g)) : PE X (.List es pos) (gE X W (vLst g)) :=
  PEw (pe_lst ha) fun σ H Q ⟨w, s, hH, ok, sl, hp⟩ => by
    subst hH
    refine gA.seq ok sl (wE w Q) hp fun ds w1 vs ok1 x1 sl1 r1 hp1 => ?_
    simp only at hp1
    by_cases hl : ds.length ≤ sizeLine
    · rw [if_pos hl] at hp1
      refine ⟨by rw [← r1.length]; exact hl, fun p hn => ?_⟩
      exact hp1 (w1.newL p ds vs) (.ref p) (ok1.newL hn r1) rfl (x1.trans (Wd.ext_newL hn)) at_newL
    · rw [if_neg hl] at hp1
      exact hp1.elim

/-! ### operators by values -/
/-- what a two-place operation does upon values -/
def OpD (K : PySem.W.Frag) (r : R2) (f : D → D → VH → Option (D × VH)) : Prop :=
  ∀ (w : Wd) (x y : D) (vx vy : V) (Q : VK), w.Ok K → Rp K w x vx → Rp K w y vy → PstO K w (f x y w.h) Q → r vx vy w.H Q
def vOp (f : D → D → VH → Option (D × VH)) (a b : VE) : VE := fun s h => (a s h).bind fun p => (b s p.2).bind fun q => lift (f p.1 q.1 q.2)
theorem vop_red {r : R2} {f : D → D → VH → Option (D × VH)} {a b : VE} (hf : OpD X.K r f) {σ : L2.St} {H : Hp} {Q : VK} (h : gE X W (vOp f a b) σ H Q) : tOp r (gE X W a) (gE X W b) σ H Q := by
  obtain ⟨w, s, hH, ok, sl, hp⟩ := h
  subst hH
  refine gE.seq ok sl (wE w Q) hp fun d w1 v ok1 x1 sl1 r1 hp1 => ?_
  refine gE.seq ok1 sl1 ((wE w Q).mono x1) hp1 fun d2 w2 v2 ok2 x2 sl2 r2 hp2 => ?_
  exact hf w2 d d2 v v2 Q ok2 (x2.rp r1) r2 (hp2.lift.mono (x1.trans x2))
theorem qOp {op : Operator} {r : R2} {f : D → D → VH → Option (D × VH)} {a b : Expr} {fa fb : VE} {pos : Pos} (ho : OpR X (binaryOp op) r) (hf : OpD X.K r f) (ha : PE X a (gE X W fa)) (hb : PE X b (gE X W fb)) : PE X (.BinOp a op b pos) (gE X W (vOp f fa fb)) :=
  PEw (pe_op ho ha hb) fun _ _ _ h => vop_red hf h
theorem qCm {op : CmpOp} {r : R2} {f : D → D → VH → Option (D × VH)} {a b : Expr} {fa fb : VE} {pos : Pos} (ho : OpR X (compareOp op) r) (hf : OpD X.K r f) (ha : PE X a (gE X W fa)) (hb : PE X b (gE X W fb))
    (hm : behindInMarks op b = false := by first | exact nomark _ | rfl) : PE X (.Compare a [op] [b] pos) (gE X W (vOp f fa fb)) :=
  PEw (pe_cmpR ho ha hb hm) fun _ _ _ h => vop_red hf h
/-- tests: the truth of a value -/
def vTr (f : VE) : VT := fun s h => (f s h).bind fun p => match p.1 with
  | .bl b => .ok (b, p.2)
  | _ => .bad
theorem vtr_red {a : VE} {σ : L2.St} {H : Hp} {Q : Bool → Hp → Prop} (h : gT X W (vTr a) σ H Q) : tB (gE X W a) σ H Q := by
  obtain ⟨w, s, hH, ok, sl, hp⟩ := h
  subst hH
  refine gE.seq ok sl (wT w Q) hp fun d w1 v ok1 x1 sl1 r1 hp1 => ?_
  cases r1 with
  | bl b => exact ⟨b, rfl, hp1 w1 ok1 rfl x1⟩
  | _ => exact hp1.elim
theorem qCmT {op : CmpOp} {r : R2} {f : D → D → VH → Option (D × VH)} {a b : Expr} {fa fb : VE} {pos : Pos} (ho : OpR X (compareOp op) r) (hf : OpD X.K r f) (ha : PE X a (gE X W fa)) (hb : PE X b (gE X W fb))
    (hm : behindInMarks op b = false := by first | exact nomark _ | rfl) : PT X (.Compare a [op] [b] pos) (gT X W (vTr (vOp f fa fb))) :=
  PTw (pt_cmpR ho ha hb hm) fun _ _ _ h => by
    have q := vtr_red h
    obtain ⟨w, s, hH, ok, sl, hp⟩ := q
    exact vop_red hf ⟨w, s, hH, ok, sl, hp⟩
/-- a value as a test -/
theorem qT {e : Expr} {f : VE} (h : PE X e (gE X W f)) (he : ∀ whole, isTrue e X.env whole = (do let v ← whole; standAt e.pos; holding [v] (truthy v)) := by intro _; rfl) : PT X e (gT X W (vTr f)) :=
  PTw (pt_val h he) fun _ _ _ h => vtr_red h

/-! ### and, or, not, if else -/
def vNotT (f : VT) : VT := fun s h => (f s h).bind fun p => .ok (!p.1, p.2)
def vAndT (f g : VT) : VT := fun s h => (f s h).bind fun p => if p.1 = true then g s p.2 else .ok (false, p.2)
def vOrT (f g : VT) : VT := fun s h => (f s h).bind fun p => if p.1 = true then .ok (true, p.2) else g s p.2
theorem qNotT {a : Expr} {f : VT} {pos : Pos} (ha : PT X a (gT X W f)) : PT X (.UnaryOp .Not a pos) (gT X W (vNotT f)) :=
  PTw (pt_not ha) fun σ H Q ⟨w, s, hH, ok, sl, hp⟩ => by
    subst hH
    exact gT.seq ok sl (wT w Q) hp fun d w1 ok1 x1 sl1 hp1 => hp1 w1 ok1 rfl x1
theorem qAnd1 {a : Expr} {f : VT} {pos : Pos} (ha : PT X a (gT X W f)) : PW X (.BoolOp .And [a] pos) (gT X W f) := pw_and1 ha
theorem qOr1 {a : Expr} {f : VT} {pos : Pos} (ha : PT X a (gT X W f)) : PW X (.BoolOp .Or [a] pos) (gT X W f) := pw_or1 ha
theorem qAndT {a b : Expr} {rest : List Expr} {f g : VT} {pos : Pos} (ha : PT X a (gT X W f)) (hb : PW X (.BoolOp .And (b :: rest) pos) (gT X W g)) : PW X (.BoolOp .And (a :: b :: rest) pos) (gT X W (vAndT f g)) :=
  PWw (pw_and ha hb) fun σ H Q ⟨w, s, hH, ok, sl, hp⟩ => by
    subst hH
    refine gT.seq ok sl (wT w Q) hp fun d w1 ok1 x1 sl1 hp1 => ?_
    cases d with
    | true =>
      simp only [if_true] at hp1 ⊢
      exact ⟨w1, s, rfl, ok1, sl1, hp1.mono x1⟩
    | false =>
      simp only [Bool.false_eq_true, if_false] at hp1 ⊢
      exact hp1 w1 ok1 rfl x1
theorem qOrT {a b : Expr} {rest : List Expr} {f g : VT} {pos : Pos} (ha : PT X a (gT X W f)) (hb : PW X (.BoolOp .Or (b :: rest) pos) (gT X W g)) : PW X (.BoolOp .Or (a :: b :: rest) pos) (gT X W (vOrT f g)) :=
  PWw (pw_or ha hb) fun σ H Q ⟨w, s, hH, ok, sl, hp⟩ => by
    subst hH
    refine gT.seq ok sl (wT w Q) hp fun d w1 ok1 x1 sl1 hp1 => ?_
    cases d with
    | true =>
      simp only [if_true] at hp1 ⊢
      exact hp1 w1 ok1 rfl x1
    | false =>
      simp only [Bool.false_eq_true, if_false] at hp1 ⊢
      exact ⟨w1, s, rfl, ok1, sl1, hp1.mono x1⟩
/-- as values: all but the last True or False -/
def vAnd (f g : VE) : VE := fun s h => (f s h).bind fun p => match p.1 with
  | .bl true => g s p.2
  | .bl false => .ok (.bl false, p.2)
  | _ => .bad
def vOr (f g : VE) : VE := fun s h => (f s h).bind fun p => match p.1 with
  | .bl true => .ok (.bl true, p.2)
  | .bl false => g s p.2
  | _ => .bad
def vNot (f : VE) : VE := fun s h => (f s h).bind fun p => match p.1 with
  | .bl b => .ok (.bl (!b), p.2)
  | _ => .bad
theorem qOne {op : PySem.BoolOp} {a : Expr} {f : VE} {pos : Pos} (h : PE X a (gE X W f)) : PE X (.BoolOp op [a] pos) (gE X W f) := pe_one h
theorem qAnd {a b : Expr} {rest : List Expr} {f g : VE} {pos : Pos} (ha : PE X a (gE X W f)) (hb : PE X (.BoolOp .And (b :: rest) pos) (gE X W g)) : PE X (.BoolOp .And (a :: b :: rest) pos) (gE X W (vAnd f g)) :=
  PEw (pe_and ha hb) fun σ H Q ⟨w, s, hH, ok, sl, hp⟩ => by
    subst hH
    refine gE.seq ok sl (wE w Q) hp fun d w1 v ok1 x1 sl1 r1 hp1 => ?_
    cases r1 with
    | bl b =>
      refine ⟨b, rfl, ?_⟩
      cases b with
      | true =>
        simp only [if_true] at hp1 ⊢
        exact ⟨w1, s, rfl, ok1, sl1, hp1.mono x1⟩
      | false =>
        simp only [Bool.false_eq_true, if_false] at hp1 ⊢
        exact hp1 w1 _ ok1 rfl x1 (.bl _)
    | _ => exact hp1.elim
theorem qOr {a b : Expr} {rest : List Expr} {f g : VE} {pos : Pos} (ha : PE X a (gE X W f)) (hb : PE X (.BoolOp .Or (b :: rest) pos) (gE X W g)) : PE X (.BoolOp .Or (a :: b :: rest) pos) (gE X W (vOr f g)) :=
  PEw (pe_or ha hb) fun σ H Q ⟨w, s, hH, ok, sl, hp⟩ => by
    subst hH
    refine gE.seq ok sl (wE w Q) hp fun d w1 v ok1 x1 sl1 r1 hp1 => ?_
    cases r1 with
    | bl b =>
      refine ⟨b, rfl, ?_⟩
      cases b with
      | false =>
        simp only [Bool.false_eq_true, if_false] at hp1 ⊢
        exact ⟨w1, s, rfl, ok1, sl1, hp1.mono x1⟩
      | true =>
        simp only [if_true] at hp1 ⊢
        exact hp1 w1 _ ok1 rfl x1 (.bl _)
    | _ => exact hp1.elim
theorem qNot {a : Expr} {f : VE} {pos : Pos} (ha : PE X a (gE X W f)) : PE X (.UnaryOp .Not a pos) (gE X W (vNot f)) :=
  PEw (pe_not ha) fun σ H Q ⟨w, s, hH, ok, sl, hp⟩ => by
    subst hH
    refine gE.seq ok sl (wE w Q) hp fun d w1 v ok1 x1 sl1 r1 hp1 => ?_
    cases r1 with
    | bl b => exact ⟨b, rfl, hp1 w1 _ ok1 rfl x1 (.bl _)⟩
    | _ => exact hp1.elim
def vIf (c : VT) (f g : VE) : VE := fun s h => (c s h).bind fun p => if p.1 = true then f s p.2 else g s p.2
theorem qIf {c a b : Expr} {t : VT} {f g : VE} {pos : Pos} (hc : PT X c (gT X W t)) (ha : PE X a (gE X W f)) (hb : PE X b (gE X W g)) : PE X (.IfExp c a b pos) (gE X W (vIf t f g)) :=
  PEw (pe_ifExp hc ha hb) fun σ H Q ⟨w, s, hH, ok, sl, hp⟩ => by
    subst hH
    refine gT.seq ok sl (wE w Q) hp fun d w1 ok1 x1 sl1 hp1 => ?_
    cases d with
    | true =>
      simp only [if_true] at hp1 ⊢
      exact ⟨w1, s, rfl, ok1, sl1, hp1.mono x1⟩
    | false =>
      simp only [Bool.false_eq_true, if_false] at hp1 ⊢
      exact ⟨w1, s, rfl, ok1, sl1, hp1.mono x1⟩

/-! ### one-place operations; calls of built-ins by values -/
def UnD (K : PySem.W.Frag) (r : V → Hp → VK → Prop) (f : D → VH → Option (D × VH)) : Prop :=
  ∀ (w : Wd) (x : D) (vx : V) (Q : VK), w.Ok K → Rp K w x vx → PstO K w (f x w.h) Q → r vx w.H Q
def vUn (f : D → VH → Option (D × VH)) (a : VE) : VE := fun s h => (a s h).bind fun p => lift (f p.1 p.2)
theorem qUn {op : UnaryOp} {r : V → Hp → VK → Prop} {f : D → VH → Option (D × VH)} {a : Expr} {fa : VE} {pos : Pos} (ho : UnR X (unaryOp op) r) (hf : UnD X.K r f) (ha : PE X a (gE X W fa)) : PE X (.UnaryOp op a pos) (gE X W (vUn f fa)) :=
  PEw (pe_un ho ha) fun σ H Q ⟨w, s, hH, ok, sl, hp⟩ => by
    subst hH
    refine gE.seq ok sl (wE w Q) hp fun d w1 v ok1 x1 sl1 r1 hp1 => ?_
    exact hf w1 d v Q ok1 r1 (hp1.lift.mono x1)
def CallD (K : PySem.W.Frag) (r : List V → Hp → VK → Prop) (f : List D → VH → Option (D × VH)) : Prop :=
  ∀ (w : Wd) (xs : List D) (vs : List V) (Q : VK), w.Ok K → Rps K w xs vs → PstO K w (f xs w.h) Q → r vs w.H Q
def vBl (f : List D → VH → Option (D × VH)) (a : VA) : VE := fun s h => (a s h).bind fun p => lift (f p.1 p.2)
theorem vbl_red {r : List V → Hp → VK → Prop} {f : List D → VH → Option (D × VH)} {a : VA} (hf : CallD X.K r f) {σ : L2.St} {H : Hp} {Q : VK} (h : gE X W (vBl f a) σ H Q) : tCB r (gA X W a) σ H Q := by
  obtain ⟨w, s, hH, ok, sl, hp⟩ := h
  subst hH
  refine gA.seq ok sl (wE w Q) hp fun d w1 v ok1 x1 sl1 r1 hp1 => ?_
  exact hf w1 d v Q ok1 r1 (hp1.lift.mono x1)
theorem qBl {x : Str} {id : String} {p pos : Pos} {e : Expr} {es : List Expr} {g : VA} {r : List V → Hp → VK → Prop} {f : List D → VH → Option (D × VH)} (hc : CallR X (.builtin id) r) (hf : CallD X.K r f) (hm : X.mg x = none) (ha : PA X (e :: es) (gA X W g))
    (hg : Gl X x := by rfl) (hv : bootBuiltins x = some (.builtin id) := by decide +kernel) (hn : x ≠ "__name__" := by decide) (hdb : (x == ("__debug__" : Str)) = false := by decide)
    (he : starEach (e :: es) X.env = (false, eval e X.env) :: starEach es X.env := by rfl) (hpl : (backTo pos (starEach es X.env)).any (·.1) = false := by rfl) : PE X (.Call (.Name x p) (e :: es) [] pos) (gE X W (vBl f g)) :=
  PEw (pe_callB hc hg hm hv ha hn hdb he hpl) fun _ _ _ h => vbl_red hf h
theorem qTy {x : Str} {T : String} {p pos : Pos} {e : Expr} {es : List Expr} {g : VA} {r : List V → Hp → VK → Prop} {f : List D → VH → Option (D × VH)} (hc : CallR X (.type T) r) (hf : CallD X.K r f) (hm : X.mg x = none) (ha : PA X (e :: es) (gA X W g))
    (hg : Gl X x := by rfl) (hv : bootBuiltins x = some (.type T) := by decide +kernel) (hn : x ≠ "__name__" := by decide) (hdb : (x == ("__debug__" : Str)) = false := by decide)
    (he : starEach (e :: es) X.env = (false, eval e X.env) :: starEach es X.env := by rfl) (hpl : (backTo pos (starEach es X.env)).any (·.1) = false := by rfl) : PE X (.Call (.Name x p) (e :: es) [] pos) (gE X W (vBl f g)) :=
  PEw (pe_callTy hc hg hm hv ha hn hdb he hpl) fun _ _ _ h => vbl_red hf h

/-! ### subscripts and slices -/
theorem qIx {r : R2} {f : D → D → VH → Option (D × VH)} {a b : Expr} {fa fb : VE} {pos : Pos} (ho : IxR X r) (hf : OpD X.K r f) (ha : PE X a (gE X W fa)) (hb : PE X b (gE X W fb)) (hs : PlainIx b := by exact fun _ _ => rfl) : PE X (.Subscript a b pos) (gE X W (vOp f fa fb)) :=
  PEw (pe_ix ho ha hb hs) fun _ _ _ h => vop_red hf h
end
end Vq

/-! Part 3: statements, targets, loops, comprehensions. -/
namespace Vq
open PySem PySem.Spec PyProof.Rows L2

/-! ### blocks -/
def vSeq (f g : VSt) : VSt := fun s h => (f s h).bind fun p => match p with
  | (.nx, s', h') => g s' h'
  | q => .ok q
def vPass : VSt := fun s h => .ok (.nx, s, h)
def vBreak : VSt := fun s h => .ok (.bk, s, h)
def vCont : VSt := fun s h => .ok (.ct, s, h)
def vRet (f : VE) : VSt := fun s h => (f s h).bind fun p => .ok (.rt p.1, s, p.2)
def vRetN : VSt := fun s h => .ok (.rt .non, s, h)
def vDrop (f : VE) : VSt := fun s h => (f s h).bind fun p => .ok (.nx, s, p.2)
def vIfS (c : VT) (f g : VSt) : VSt := fun s h => (c s h).bind fun p => if p.1 = true then f s p.2 else g s p.2
def vAsg (f : VE) (g : VG) : VSt := fun s h => (f s h).bind fun p => (g p.1 s p.2).bind fun q => .ok (.nx, q.1, q.2)
def gName (i : Nat) : VG := fun d s h => .ok (s.set i (some d), h)
abbrev VGs := List D → VS → VH → Res (VS × VH)
def gsNil : VGs := fun l s h => match l with
  | [] => .ok (s, h)
  | _ => .bad
def gsCons (g : VG) (k : VGs) : VGs := fun l s h => match l with
  | d :: r => (g d s h).bind fun p => k r p.1 p.2
  | [] => .bad
def gTupl (n : Nat) (k : VGs) : VG := fun d s h => match d with
  | .tup l => if l.length = n then k l s h else .bad
  | _ => .bad
/-- a store at o[i] by values: new heap -/
def SetD (K : PySem.W.Frag) (t : TSet) (f : D → D → D → VH → Option VH) : Prop :=
  ∀ (w : Wd) (o i d : D) (vo vi vd : V) (Q : Hp → Prop), w.Ok K → Rp K w o vo → Rp K w i vi → Rp K w d vd → (match f o i d w.h with
    | some h => ∀ w', w'.Ok K → w'.h = h → Wd.Ext K w w' → Q w'.H
    | none => False) → t vo vi vd w.H Q
def gSubs (f : D → D → D → VH → Option VH) (o i : VE) : VG := fun d s h => (o s h).bind fun p => (i s p.2).bind fun q => (lift (f p.1 q.1 d q.2)).bind fun h' => .ok (s, h')

section
variable {X : Cx} {W : WX}
theorem qsNil : PSs X [] (gS X W vPass) := PSsw pss_nil fun D σ H ⟨w, s, hH, ok, sl, hp⟩ => by
  subst hH
  exact hp w σ ok rfl (.refl w) sl
theorem vseq_red {f g : VSt} {D : Ends} {σ : L2.St} {H : Hp} (h : gS X W (vSeq f g) D σ H) : gS X W f { D with nx := gS X W g D } σ H := by
  obtain ⟨w, s, hH, ok, sl, hp⟩ := h
  refine ⟨w, s, hH, ok, sl, ?_⟩
  unfold vSeq at hp
  cases e : f s w.h with
  | bad => rw [e] at hp; exact hp
  | ex x s' h' => rw [e] at hp; exact hp
  | ok p =>
    rw [e] at hp
    obtain ⟨o, s', h'⟩ := p
    cases o with
    | nx =>
      intro w' σ' ok' e' x' sl'
      refine ⟨w', s', rfl, ok', sl', ?_⟩
      rw [e']
      exact PstS.mono x' hp
    | rt d => exact hp
    | bk => exact hp
    | ct => exact hp
theorem qsCons {st : Stmt} {rest : List Stmt} {f g : VSt} (h1 : PS X st (gS X W f)) (h2 : PSs X rest (gS X W g)) : PSs X (st :: rest) (gS X W (vSeq f g)) :=
  PSsw (pss_cons h1 h2) fun _ _ _ h => vseq_red h
theorem qsOne {st : Stmt} {f : VSt} (h1 : PS X st (gS X W f)) : PSs X [st] (gS X W f) := pss_one h1
theorem qPass {pos : Pos} : PS X (.Pass pos) (gS X W vPass) := PSw ps_pass fun D σ H ⟨w, s, hH, ok, sl, hp⟩ => by
  subst hH
  exact hp w σ ok rfl (.refl w) sl
theorem qBreak {pos : Pos} : PS X (.Break pos) (gS X W vBreak) := PSw ps_break fun D σ H ⟨w, s, hH, ok, sl, hp⟩ => by
  subst hH
  exact hp w σ ok rfl (.refl w) sl
theorem qCont {pos : Pos} : PS X (.Continue pos) (gS X W vCont) := PSw ps_continue fun D σ H ⟨w, s, hH, ok, sl, hp⟩ => by
  subst hH
  exact hp w σ ok rfl (.refl w) sl
theorem qRet {e : Expr} {f : VE} {pos : Pos} (h : PE X e (gE X W f)) : PS X (.Return (some e) pos) (gS X W (vRet f)) := PSw (ps_ret h) fun D σ H ⟨w, s, hH, ok, sl, hp⟩ => by
  subst hH
  exact gE.seq ok sl (wS w D) hp fun d w1 v ok1 x1 sl1 r1 hp1 => hp1 w1 v ok1 rfl x1 r1
theorem qRetN {pos : Pos} : PS X (.Return none pos) (gS X W vRetN) := PSw ps_retN fun D σ H ⟨w, s, hH, ok, sl, hp⟩ => by
  subst hH
  exact hp w .non ok rfl (.refl w) .non
theorem qDrop {e : Expr} {f : VE} {pos : Pos} (h : PE X e (gE X W f)) (hs : swapsWith e none pos.line X.env = pure false := by rfl) : PS X (.Expr e pos) (gS X W (vDrop f)) := PSw (ps_expr h hs) fun D σ H ⟨w, s, hH, ok, sl, hp⟩ => by
  subst hH
  exact gE.seq ok sl (wS w D) hp fun d w1 v ok1 x1 sl1 r1 hp1 => hp1 w1 σ ok1 rfl x1 sl1
theorem qIfS {c : Expr} {a b : List Stmt} {t : VT} {f g : VSt} {pos : Pos} (hc : PT X c (gT X W t)) (ha : PSs X a (gS X W f)) (hb : PSs X b (gS X W g)) : PS X (.If c a b pos) (gS X W (vIfS t f g)) := PSw (ps_if hc ha hb) fun D σ H ⟨w, s, hH, ok, sl, hp⟩ => by
  subst hH
  refine gT.seq ok sl (wS w D) hp fun d w1 ok1 x1 sl1 hp1 => ?_
  cases d with
  | true =>
    simp only [if_true] at hp1 ⊢
    exact ⟨w1, s, rfl, ok1, sl1, hp1.mono x1⟩
  | false =>
    simp only [Bool.false_eq_true, if_false] at hp1 ⊢
    exact ⟨w1, s, rfl, ok1, sl1, hp1.mono x1⟩

/-! ### targets -/
theorem qgN {i : Nat} {x : Str} {pos : Pos} (hN : X.N.Nodup) (hi : X.N[i]? = some x := by rfl) (hx : Loc X.env.scope x := by first | exact Or.inl rfl | exact Or.inr rfl) (hf : X.fn x = true ∨ X.env.scope.names.lookup x = some .local := by first | exact .inl rfl | exact .inr rfl | assumption) :
    PG X (.Name x pos) (gG X W (gName i)) := PGw (pg_name hN hi hx hf) fun v σ H Q ⟨w, s, d, hH, ok, sl, r, hp⟩ => by
  subst hH
  exact hp w _ ok rfl (.refl w) (sl.set i r)
def gGs (X : Cx) (W : WX) (f : VGs) : TGs := fun vs σ H Q => ∃ w s ds, w.H = H ∧ w.Ok X.K ∧ Slots X.K w s σ ∧ Rps X.K w ds vs ∧ PstG X W w (f ds s w.h) Q
theorem PGsw {e : List Expr} {t t' : TGs} (h : PGs X e t) (i : ∀ v σ H Q, t' v σ H Q → t v σ H Q) : PGs X e t' := ⟨fun pins s σ H v u Q I r q => h.run pins s σ H v u Q I r (i v σ H Q q)⟩
theorem qgs0 : PGs X [] (gGs X W gsNil) := PGsw pgs_nil fun v σ H Q ⟨w, s, ds, hH, ok, sl, r, hp⟩ => by
  subst hH
  cases r with
  | nil => exact ⟨rfl, hp w σ ok rfl (.refl w) sl⟩
  | cons _ _ => exact hp.elim
theorem qgs {e : Expr} {es : List Expr} {g : VG} {k : VGs} (h1 : PG X e (gG X W g)) (h2 : PGs X es (gGs X W k)) (hs : (assignEach (e :: es) X.env).map (·.2) = assign e X.env :: (assignEach es X.env).map (·.2) := by rfl) : PGs X (e :: es) (gGs X W (gsCons g k)) :=
  PGsw (pgs_cons h1 h2 hs) fun v σ H Q ⟨w, s, ds, hH, ok, sl, r, hp⟩ => by
    subst hH
    cases r with
    | nil => exact hp.elim
    | @cons d ds v vs r rr =>
      refine ⟨_, _, rfl, w, s, _, rfl, ok, sl, r, ?_⟩
      unfold gsCons at hp
      cases e' : g d s w.h with
      | bad => simp only [e'] at hp; exact hp
      | ex _ _ _ => simp only [e'] at hp; exact hp
      | ok p =>
        simp only [e'] at hp
        intro w' σ' ok' eh x' sl'
        refine ⟨w', p.1, ds, rfl, ok', sl', x'.rps rr, ?_⟩
        rw [eh]
        exact PstG.mono x' hp
theorem qgT {es : List Expr} {k : VGs} {n m : Nat} {pos : Pos} (hc : X.calm = true) (h : PGs X es (gGs X W k)) (hn : (assignEach es X.env).length = n := by rfl) (hst : (assignEach es X.env).findIdx? (·.1) = none := by rfl) : PG X (.Tuple es m pos) (gG X W (gTupl n k)) :=
  PGw (pg_tup hc h hn hst) fun v σ H Q ⟨w, s, d, hH, ok, sl, r, hp⟩ => by
    subst hH
    cases r with
    | @tup a vs ds hq rr =>
      refine ⟨_, _, rfl, hq, ?_⟩
      unfold gTupl at hp
      simp only at hp
      by_cases hl : ds.length = n
      · rw [if_pos hl] at hp
        exact ⟨by rw [← rr.length]; exact hl, w, s, ds, rfl, ok, sl, rr, hp⟩
      · rw [if_neg hl] at hp
        exact hp.elim
    | _ => exact hp.elim
theorem qgS {o i : Expr} {fo fi : VE} {t : TSet} {f : D → D → D → VH → Option VH} {pos : Pos} (hs : PSet X t) (hf : SetD X.K t f) (ho : PE X o (gE X W fo)) (hi : PE X i (gE X W fi))
    (ha : ∀ v, assign (.Subscript o i pos) X.env v = (do
      let ov ← holding [v] (eval o X.env)
      let iv ← holding [v, ov] (eval i X.env)
      standAt pos
      holding [v, ov, iv] (setItem ov iv v)
      release [v, ov, iv] []) := by intro _; rfl) : PG X (.Subscript o i pos) (gG X W (gSubs f fo fi)) :=
  PGw (pg_sub ho hi hs ha) fun v σ H Q ⟨w, s, d, hH, ok, sl, r, hp⟩ => by
    subst hH
    refine gE.seq ok sl (wG w Q) hp fun d1 w1 v1 ok1 x1 sl1 r1 hp1 => ?_
    refine gE.seq ok1 sl1 ((wG w Q).mono x1) hp1 fun d2 w2 v2 ok2 x2 sl2 r2 hp2 => ?_
    refine hf w2 d1 d2 d v1 v2 v _ ok2 (x2.rp r1) r2 ((x1.trans x2).rp r) ?_
    revert hp2
    simp only
    cases f d1 d2 d w2.h with
    | none => exact fun z => z
    | some h' => exact fun z w' ok' e x' => z w' σ ok' e ((x1.trans x2).trans x') (sl2.ext x')
theorem qAsg {tg e : Expr} {f : VE} {g : VG} {pos : Pos} (he : PE X e (gE X W f)) (hg : PG X tg (gG X W g)) (hs : swapsWithSole [tg] e pos.line X.env = pure false := by rfl) (hw : swappedStores [tg] e X.env = pure none := by rfl)
    (h1 : (assignEach [tg] X.env).map (·.2) = [assign tg X.env] := by rfl) : PS X (.Assign [tg] e pos) (gS X W (vAsg f g)) :=
  PSw (ps_asg he hg hs hw h1) fun D σ H ⟨w, s, hH, ok, sl, hp⟩ => by
    subst hH
    refine gE.seq ok sl (wS w D) hp fun d w1 v ok1 x1 sl1 r1 hp1 => ?_
    refine ⟨w1, s, d, rfl, ok1, sl1, r1, ?_⟩
    revert hp1
    simp only
    cases g d s w1.h with
    | bad => exact fun z => z
    | ex _ _ _ => exact fun z => PstX.mono x1 z
    | ok p => exact fun z w' σ' ok' e x' sl' => z w' σ' ok' e (x1.trans x') sl'
theorem qSet {i : Nat} {x : Str} {e : Expr} {f : VE} {pos pos' : Pos} (hN : X.N.Nodup) (he : PE X e (gE X W f)) (hi : X.N[i]? = some x := by rfl) (hx : Loc X.env.scope x := by first | exact Or.inl rfl | exact Or.inr rfl) (hs : swapsWith e (some (.Name x pos')) pos.line X.env = pure false := by rfl)
    (hf : X.fn x = true ∨ X.env.scope.names.lookup x = some .local := by first | exact .inl rfl | exact .inr rfl | assumption) : PS X (.Assign [.Name x pos'] e pos) (gS X W (vAsg f (gName i))) :=
  PSw (ps_set hN hi hx he hs hf) fun D σ H ⟨w, s, hH, ok, sl, hp⟩ => by
    subst hH
    exact gE.seq ok sl (wS w D) hp fun d w1 v ok1 x1 sl1 r1 hp1 => hp1 w1 _ ok1 rfl x1 (sl1.set i r1)
/-- a, b = x, y with two plain names -/
def vPar (i j : Nat) (a : VA) : VSt := fun s h => (a s h).bind fun p => match p.1 with
  | [x, y] => .ok (.nx, (s.set i (some x)).set j (some y), p.2)
  | _ => .bad
theorem qPar {i j : Nat} {x y : Str} {a b : Expr} {f : VA} {px py pt : Pos} {kt k2 pt2} {pos : Pos} (hc : X.calm = true) (hN : X.N.Nodup) (hi : X.N[i]? = some x) (hj : X.N[j]? = some y) (hij : i ≠ j) (ha : PA X [a, b] (gA X W f))
    (h : ∀ t, PA X [a, b] t → PS X (.Assign [.Tuple [.Name x px, .Name y py] kt pt] (.Tuple [a, b] k2 pt2) pos) (tPar i j t)) : PS X (.Assign [.Tuple [.Name x px, .Name y py] kt pt] (.Tuple [a, b] k2 pt2) pos) (gS X W (vPar i j f)) :=
  PSw (h _ ha) fun D σ H ⟨w, s, hH, ok, sl, hp⟩ => by
    subst hH
    refine gA.seq ok sl (wS w D) hp fun d w1 v ok1 x1 sl1 r1 hp1 => ?_
    cases r1 with
    | nil => exact hp1.elim
    | cons r1 rr =>
      cases rr with
      | nil => exact hp1.elim
      | cons r2 rr =>
        cases rr with
        | cons _ _ => exact hp1.elim
        | nil => exact ⟨_, _, rfl, hp1 w1 _ ok1 rfl x1 ((sl1.set i r1).set j r2)⟩

/-! ### what is walked -/
/-- how the turns of J follow the items of src -/
def Walks (K : PySem.W.Frag) (w0 : Wd) (J : It) (src : VH → Option (List D)) : Prop :=
  ∀ (w : Wd) (i : Nat) (ys : List D), Wd.Ext K w0 w → w.Ok K → src w.h = some ys →
    (ys[i]? = none → J.stop i w.H) ∧ ∀ d, ys[i]? = some d → J.go i w.H ∧ ∀ x H', J.yld i w.H x H' → ∃ w', w'.H = H' ∧ w'.h = w.h ∧ w'.Ok K ∧ Wd.Ext K w w' ∧ Rp K w' d x
abbrev VI := VS → VH → Res ((VH → Option (List D)) × VH)
def PstI (X : Cx) (W : WX) (w : Wd) (r : Res ((VH → Option (List D)) × VH)) (R : It → Hp → Prop) : Prop :=
  match r with
  | .ok p => ∀ w' J, w'.Ok X.K → w'.h = p.2 → Wd.Ext X.K w w' → Walks X.K w' J p.1 → R J w'.H
  | .ex x s h => PstX X W w x s h
  | .bad => False
def gI (X : Cx) (W : WX) (f : VI) : TI := fun σ H R => ∃ w s, w.H = H ∧ w.Ok X.K ∧ Slots X.K w s σ ∧ PstI X W w (f s w.h) R
theorem wI (w : Wd) (R : It → Hp → Prop) : Wants X W w (fun r => PstI X W w r R) := ⟨id, fun _ _ _ h => h⟩
theorem PIw {tg e : Expr} {t t' : TI} (h : PI X tg e t) (i : ∀ σ H Q, t' σ H Q → t σ H Q) : PI X tg e t' := ⟨fun pins s σ H Q I q => h.run pins s σ H Q I (i σ H Q q)⟩

/-! ### for -/
def loopF (src : VH → Option (List D)) (g : VG) (body : VSt) : Nat → Nat → VS → VH → Res (Out × VS × VH)
  | 0, i, s, h => match src h with
    | some ys => if ys.length ≤ i then .ok (.nx, s, h) else .bad
    | none => .bad
  | n + 1, i, s, h => match src h with
    | none => .bad
    | some ys => match ys[i]? with
      | none => .ok (.nx, s, h)
      | some d => (g d s h).bind fun q => (body q.1 q.2).bind fun r => match r with
        | (.nx, s', h') => loopF src g body n (i + 1) s' h'
        | (.ct, s', h') => loopF src g body n (i + 1) s' h'
        | (.bk, s', h') => .ok (.nx, s', h')
        | (.rt d, s', h') => .ok (.rt d, s', h')
def vFor (it : VI) (g : VG) (body : VSt) : VSt := fun s h => (it s h).bind fun p => match p.1 p.2 with
  | some ys => loopF p.1 g body ys.length 0 s p.2
  | none => .bad
theorem qFor {tg iter : Expr} {body : List Stmt} {it : VI} {g : VG} {b : VSt} {pos : Pos} (hp : PassesOwn (model X.prog X.w) X.A X.env X.xe) (hc : X.calm = true) (hi : PI X tg iter (gI X W it)) (hg : PG X tg (gG X W g)) (hb : PSs X body (gS X W b))
    (hs : ∀ x, foldedSetIterable iter X.env x = pure x := by intro _; rfl) : PS X (.For tg iter body [] pos) (gS X W (vFor it g b)) :=
  PSw (ps_for hp hc hi hg hb hs) fun E σ H ⟨w, s, hH, ok, sl, hq⟩ => by
    subst hH
    refine ⟨w, s, rfl, ok, sl, ?_⟩
    unfold vFor at hq
    cases e : it s w.h with
    | bad => rw [e] at hq; exact hq
    | ex _ _ _ => rw [e] at hq; exact hq
    | ok p =>
      rw [e] at hq
      obtain ⟨src, h0⟩ := p
      intro w0 J ok0 eh x0 wk
      simp only [Res.ok_bind] at hq
      cases e0 : src h0 with
      | none => rw [e0] at hq; exact hq.elim
      | some ys =>
        rw [e0] at hq
        simp only at hq
        have eh : w0.h = h0 := eh
        subst eh
        refine ⟨fun i m σ H => ∃ w s, w.H = H ∧ w.Ok X.K ∧ Wd.Ext X.K w0 w ∧ Slots X.K w s σ ∧ PstS X W w (loopF src g b m i s w.h) E, ⟨ys.length, w0, s, rfl, ok0, .refl w0, sl.ext x0, hq.mono x0⟩, ?_⟩
        rintro i m σ H ⟨w, s, rfl, ok, x, sl, hq⟩
        cases es : src w.h with
        | none => cases m <;> (unfold loopF at hq; rw [es] at hq; exact hq.elim)
        | some zs =>
          obtain ⟨k1, k2⟩ := wk w i zs x ok es
          cases ei : zs[i]? with
          | none =>
            refine .inl ⟨k1 ei, ?_⟩
            cases m with
            | zero =>
              unfold loopF at hq
              rw [es] at hq
              simp only at hq
              rw [if_pos (List.getElem?_eq_none_iff.mp ei)] at hq
              exact hq w σ ok rfl (.refl w) sl
            | succ m =>
              unfold loopF at hq
              simp only [es, ei] at hq
              exact hq w σ ok rfl (.refl w) sl
          | some d =>
            obtain ⟨go, yl⟩ := k2 d ei
            cases m with
            | zero =>
              unfold loopF at hq
              rw [es] at hq
              simp only at hq
              rw [if_neg (by have := (List.getElem?_eq_some_iff.mp ei).1; omega)] at hq
              exact hq.elim
            | succ m =>
              unfold loopF at hq
              simp only [es, ei] at hq
              refine .inr ⟨go, fun σ' H' => ∃ w s, w.H = H' ∧ w.Ok X.K ∧ Wd.Ext X.K w0 w ∧ Slots X.K w s σ' ∧ PstS X W w (loopF src g b m (i + 1) s w.h) E, fun σ' H' z => ⟨m, Nat.lt_succ_self m, z⟩, fun v H' y => ?_⟩
              obtain ⟨w', rfl, eh', ok', x', r'⟩ := yl v H' y
              refine ⟨w', s, d, rfl, ok', sl.ext x', r', ?_⟩
              rw [eh']
              cases eg : g d s w.h with
              | bad => rw [eg] at hq; exact hq.elim
              | ex _ _ _ => rw [eg] at hq; exact PstX.mono x' hq
              | ok q =>
                rw [eg] at hq
                obtain ⟨s2, h2⟩ := q
                intro w2 σ2 ok2 eh2 x2 sl2
                refine ⟨w2, s2, rfl, ok2, sl2, ?_⟩
                rw [show w2.h = h2 from eh2]
                simp only [Res.ok_bind] at hq
                have X2 : Wd.Ext X.K w w2 := x'.trans x2
                cases eb : b s2 h2 with
                | bad => rw [eb] at hq; exact hq.elim
                | ex _ _ _ => rw [eb] at hq; exact PstX.mono X2 hq
                | ok r =>
                  rw [eb] at hq
                  obtain ⟨o, s3, h3⟩ := r
                  cases o with
                  | nx => exact fun w3 σ3 ok3 e3 x3 sl3 => ⟨w3, s3, rfl, ok3, (x.trans X2).trans x3, sl3, by rw [e3]; exact PstS.mono (X2.trans x3) hq⟩
                  | ct => exact fun w3 σ3 ok3 e3 x3 sl3 => ⟨w3, s3, rfl, ok3, (x.trans X2).trans x3, sl3, by rw [e3]; exact PstS.mono (X2.trans x3) hq⟩
                  | bk => exact fun w3 σ3 ok3 e3 x3 sl3 => hq w3 σ3 ok3 e3 (X2.trans x3) sl3
                  | rt d => exact fun w3 v3 ok3 e3 x3 r3 => hq w3 v3 ok3 e3 (X2.trans x3) r3

/-! ### while -/
def whileF (c : VT) (body : VSt) : Nat → VS → VH → Res (Out × VS × VH)
  | 0, _, _ => .bad
  | n + 1, s, h => (c s h).bind fun p => if p.1 = true then (body s p.2).bind fun r => match r with
      | (.nx, s', h') => whileF c body n s' h'
      | (.ct, s', h') => whileF c body n s' h'
      | (.bk, s', h') => .ok (.nx, s', h')
      | (.rt d, s', h') => .ok (.rt d, s', h')
    else .ok (.nx, s, p.2)
/-- so many turns are let -/
def vWhile (n : Nat) (c : VT) (body : VSt) : VSt := fun s h => whileF c body n s h
theorem qWhile {c : Expr} {body : List Stmt} {t : VT} {b : VSt} {pos : Pos} (n : Nat) (hp : PassesOwn (model X.prog X.w) X.A X.env X.xe) (hc : PT X c (gT X W t)) (hb : PSs X body (gS X W b)) : PS X (.While c body [] pos) (gS X W (vWhile n t b)) :=
  PSw (ps_while hp hc hb) fun E σ H ⟨w, s, hH, ok, sl, hq⟩ => by
    refine ⟨fun m σ H => ∃ w s, w.H = H ∧ w.Ok X.K ∧ Slots X.K w s σ ∧ PstS X W w (whileF t b m s w.h) E, ⟨n, w, s, hH, ok, sl, hq⟩, ?_⟩
    rintro m σ H ⟨w, s, rfl, ok, sl, hq⟩
    cases m with
    | zero => exact hq.elim
    | succ m =>
      unfold whileF at hq
      refine gT.seq ok sl (wS w E) hq fun d w1 ok1 x1 sl1 hq1 => ?_
      cases d with
      | false =>
        simp only [Bool.false_eq_true, if_false] at hq1 ⊢
        exact hq1 w1 σ ok1 rfl x1 sl1
      | true =>
        simp only [if_true] at hq1 ⊢
        refine ⟨fun σ' H' => ∃ w s, w.H = H' ∧ w.Ok X.K ∧ Slots X.K w s σ' ∧ PstS X W w (whileF t b m s w.h) E, fun σ' H' z => ⟨m, Nat.lt_succ_self m, z⟩, w1, s, rfl, ok1, sl1, ?_⟩
        cases eb : b s w1.h with
        | bad => rw [eb] at hq1; exact hq1.elim
        | ex _ _ _ => rw [eb] at hq1; exact PstX.mono x1 hq1
        | ok r =>
          rw [eb] at hq1
          obtain ⟨o, s3, h3⟩ := r
          cases o with
          | nx => exact fun w3 σ3 ok3 e3 x3 sl3 => ⟨w3, s3, rfl, ok3, sl3, by rw [e3]; exact PstS.mono (x1.trans x3) hq1⟩
          | ct => exact fun w3 σ3 ok3 e3 x3 sl3 => ⟨w3, s3, rfl, ok3, sl3, by rw [e3]; exact PstS.mono (x1.trans x3) hq1⟩
          | bk => exact fun w3 σ3 ok3 e3 x3 sl3 => hq1 w3 σ3 ok3 e3 (x1.trans x3) sl3
          | rt d => exact fun w3 v3 ok3 e3 x3 r3 => hq1 w3 v3 ok3 e3 (x1.trans x3) r3

/-! ### comprehensions -/
def vwipe (s : VS) : List Nat → VS
  | [] => s
  | v :: vs => (vwipe s vs).set v none
theorem Slots.wipe {K : PySem.W.Frag} {w : Wd} {s : VS} {σ : L2.St} (h : Slots K w s σ) : ∀ vs : List Nat, Slots K w (vwipe s vs) (wipe σ vs)
  | [] => h
  | v :: vs => by
    have q := Slots.wipe h vs
    refine ⟨by show (List.set _ _ _).length = (List.set _ _ _).length; rw [List.length_set, List.length_set]; exact q.1, fun j e z => ?_⟩
    have z : ((vwipe s vs).set v none)[j]? = some (some e) := z
    by_cases hj : v = j
    · subst hj
      by_cases hl : v < (vwipe s vs).length
      · rw [List.getElem?_set_self hl] at z
        cases z
      · rw [List.getElem?_eq_none (by rw [List.length_set]; omega)] at z
        cases z
    · rw [List.getElem?_set_ne hj] at z
      obtain ⟨u, a, b⟩ := q.2 j e z
      exact ⟨u, by show ((L2.wipe σ vs).set v none)[j]? = _; rw [List.getElem?_set_ne hj]; exact a, b⟩
/-- a comprehension's target: names of its own -/
abbrev VP := D → VS → Option VS
abbrev VPs := List D → VS → Option VS
def pN (i : Nat) : VP := fun d s => some (s.set i (some d))
def psNil : VPs := fun l s => match l with
  | [] => some s
  | _ => none
def psCons (g : VP) (k : VPs) : VPs := fun l s => match l with
  | d :: r => (g d s).bind fun s' => k r s'
  | [] => none
def pTup (n : Nat) (k : VPs) : VP := fun d s => match d with
  | .tup l => if l.length = n then k l s else none
  | _ => none
def TgD (K : PySem.W.Frag) (vs : List Nat) (g : TG) (f : VP) : Prop :=
  ∀ (w : Wd) (s s' : VS) (σ : L2.St) (d : D) (v : V) (Q : L2.St → Hp → Prop), w.Ok K → Slots K w s σ → Rp K w d v → f d s = some s' →
    (∀ σ2, Slots K w s' σ2 → wipe σ2 vs = wipe σ vs → Q σ2 w.H) → g v σ w.H Q
def TgsD (K : PySem.W.Frag) (vs : List Nat) (g : TGs) (f : VPs) : Prop :=
  ∀ (w : Wd) (s s' : VS) (σ : L2.St) (d : List D) (v : List V) (Q : L2.St → Hp → Prop), w.Ok K → Slots K w s σ → Rps K w d v → f d s = some s' →
    (∀ σ2, Slots K w s' σ2 → wipe σ2 vs = wipe σ vs → Q σ2 w.H) → g v σ w.H Q
theorem wipe_set {vs : List Nat} {i : Nat} (h : i ∈ vs) (σ : L2.St) (x : Option V) : wipe (σ.set i x) vs = wipe σ vs := by
  have comm : ∀ (vs : List Nat) (σ : L2.St) (i : Nat) (x : Option V), i ∉ vs → wipe (σ.set i x) vs = (wipe σ vs).set i x := by
    intro vs
    induction vs with
    | nil => intros; rfl
    | cons v vs ih =>
      intro σ i x hi
      have h1 : i ≠ v := fun z => hi (by rw [z]; exact List.mem_cons_self)
      have h2 : i ∉ vs := fun z => hi (List.mem_cons_of_mem _ z)
      show (wipe (σ.set i x) vs).set v none = ((wipe σ vs).set v none).set i x
      rw [ih σ i x h2, List.set_comm _ _ h1]
  induction vs with
  | nil => cases h
  | cons v vs ih =>
    show (wipe (σ.set i x) vs).set v none = (wipe σ vs).set v none
    by_cases hi : i ∈ vs
    · rw [ih hi]
    · have e : i = v := by
        rcases List.mem_cons.mp h with q | q
        · exact q
        · exact absurd q hi
      subst e
      rw [comm vs σ i x hi, List.set_set]
theorem wipe_wipe (vs : List Nat) (σ : L2.St) : wipe (wipe σ vs) vs = wipe σ vs := by
  have gen : ∀ us : List Nat, (∀ u ∈ us, u ∈ vs) → wipe (wipe σ us) vs = wipe σ vs := by
    intro us
    induction us with
    | nil => intro _; rfl
    | cons u us ih =>
      intro h
      show wipe ((wipe σ us).set u none) vs = _
      rw [wipe_set (h u List.mem_cons_self)]
      exact ih fun v hv => h v (List.mem_cons_of_mem _ hv)
  exact gen vs fun _ h => h
theorem tgd_name {K : PySem.W.Frag} {vs : List Nat} {i : Nat} (hi : i ∈ vs) : TgD K vs (L2.gName i) (pN i) := fun w s s' σ d v Q ok sl r e h => by
  cases e
  exact h _ (sl.set i r) (wipe_set hi σ _)
theorem tgsd_nil {K : PySem.W.Frag} {vs : List Nat} : TgsD K vs gNil psNil := fun w s s' σ d v Q ok sl r e h => by
  cases r with
  | nil => cases e; exact ⟨rfl, h σ sl rfl⟩
  | cons _ _ => cases e
theorem tgsd_cons {K : PySem.W.Frag} {vs : List Nat} {g : TG} {f : VP} {k : TGs} {m : VPs} (a : TgD K vs g f) (b : TgsD K vs k m) : TgsD K vs (gCons g k) (psCons f m) := fun w s s' σ d v Q ok sl r e h => by
  cases r with
  | nil => cases e
  | @cons d ds v vs' r rr =>
    unfold psCons at e
    simp only at e
    cases e1 : f d s with
    | none => rw [e1] at e; cases e
    | some s1 =>
      rw [e1] at e
      exact ⟨_, _, rfl, a w s s1 σ d v _ ok sl r e1 fun σ2 sl2 w2 => b w s1 s' σ2 ds vs' _ ok sl2 rr e fun σ3 sl3 w3 => h σ3 sl3 (w3.trans w2)⟩
theorem tgd_tup {K : PySem.W.Frag} {vs : List Nat} {n : Nat} {k : TGs} {m : VPs} (a : TgsD K vs k m) : TgD K vs (L2.gTup K n k) (pTup n m) := fun w s s' σ d v Q ok sl r e h => by
  cases r with
  | @tup a' us ds hq rr =>
    unfold pTup at e
    simp only at e
    by_cases hl : ds.length = n
    · rw [if_pos hl] at e
      exact ⟨_, _, rfl, hq, by rw [← rr.length]; exact hl, a w s s' σ ds us Q ok sl rr e h⟩
    · rw [if_neg hl] at e
      cases e
  | _ => cases e
/-- the same as the target of a for -/
def gP (p : VP) : VG := fun d s h => match p d s with
  | some s' => .ok (s', h)
  | none => .bad
theorem qgP {vs : List Nat} {tg : Expr} {g : TG} {p : VP} (h : PG X tg g) (hp : TgD X.K vs g p) : PG X tg (gG X W (gP p)) :=
  PGw h fun v σ H Q ⟨w, s, d, hH, ok, sl, r, q⟩ => by
    subst hH
    unfold gP at q
    cases e : p d s with
    | none => rw [e] at q; exact q.elim
    | some s' =>
      rw [e] at q
      exact hp w s s' σ d v Q ok sl r e fun σ2 sl2 _ => q w σ2 ok rfl (.refl w) sl2

/-- what cannot be said within a comprehension: an error that leaves it -/
def noex {α : Type} : Res α → Res α
  | .ok a => .ok a
  | _ => .bad
@[simp] theorem noex_ok {α : Type} (a : α) : noex (.ok a) = .ok a := rfl
@[simp] theorem noex_bad {α : Type} : noex (.bad : Res α) = .bad := rfl
@[simp] theorem noex_ex {α : Type} (x : Exn) (s : VS) (h : VH) : noex (.ex x s h : Res α) = .bad := rfl
abbrev W0 : WX := fun _ _ _ _ => False
def putAt (n : Nat) (d : D) (h : VH) : Res VH := match h[n]? with
  | some (.lst acc) => if acc.length < sizeLine then .ok (h.set n (.lst (acc ++ [d]))) else .bad
  | _ => .bad
def lcF (src : VH → Option (List D)) (vs : List Nat) (g : VP) (t : VT) (e : VE) (n : Nat) (s : VS) : Nat → Nat → VH → Res VH
  | 0, i, h => match src h with
    | some ys => if ys.length ≤ i then .ok h else .bad
    | none => .bad
  | k + 1, i, h => match src h with
    | none => .bad
    | some ys => match ys[i]? with
      | none => .ok h
      | some d => match g d (vwipe s vs) with
        | none => .bad
        | some s' => (noex (t s' h)).bind fun c => if c.1 = true then (noex (e s' c.2)).bind fun y => (putAt n y.1 y.2).bind fun h' => lcF src vs g t e n s k (i + 1) h'
          else lcF src vs g t e n s k (i + 1) c.2
def vLc (it : VI) (vs : List Nat) (g : VP) (t : VT) (e : VE) : VE := fun s h => (it s h).bind fun p => match p.1 (p.2 ++ [.lst []]) with
  | some ys => (lcF p.1 vs g t e p.2.length s ys.length 0 (p.2 ++ [.lst []])).bind fun h' => .ok (.ref p.2.length, h')
  | none => .bad
def vYes : VT := fun _ h => .ok (true, h)
theorem qYes (X : Cx) (W : WX) : PTs X [] (gT X W vYes) := ⟨fun pins s σ H Q I h => pts_nil.run pins s σ H Q I (by
  obtain ⟨w, s', hH, ok, sl, hp⟩ := h
  subst hH
  exact hp w ok rfl (.refl w))⟩
theorem lc_red {wi : VI} {g : TG} {p : VP} {t : VT} {e : VE} {vs : List Nat} (hg : TgD X.K vs g p) {σ : L2.St} {H : Hp} {Q : VK} (h : gE X W (vLc wi vs p t e) σ H Q) : tLc (gI X W wi) g (gT X W0 t) (gE X W0 e) vs σ H Q := by
  obtain ⟨w, s, hH, ok, sl, hq⟩ := h
  subst hH
  refine ⟨w, s, rfl, ok, sl, ?_⟩
  unfold vLc at hq
  cases ew : wi s w.h with
  | bad => rw [ew] at hq; exact hq
  | ex _ _ _ => rw [ew] at hq; exact hq
  | ok pr =>
    rw [ew] at hq
    obtain ⟨src, h0⟩ := pr
    intro w0 J ok0 eh x0 wk D hD
    have eh : w0.h = h0 := eh
    subst eh
    simp only [Res.ok_bind] at hq
    cases e0 : src (w0.h ++ [.lst []]) with
    | none => rw [e0] at hq; exact hq.elim
    | some ys =>
      rw [e0] at hq
      simp only at hq
      have x1 : Wd.Ext X.K w0 (w0.newL D [] []) := Wd.ext_newL hD
      have ok1 : (w0.newL D [] []).Ok X.K := ok0.newL hD .nil
      have ιD : (w0.newL D [] []).ι w0.h.length = D := if_pos rfl
      refine ⟨fun i m H => ∃ w, w.H = H ∧ w.Ok X.K ∧ Wd.Ext X.K (w0.newL D [] []) w ∧ PstE X W w ((lcF src vs p t e w0.h.length s m i w.h).bind fun h' => .ok (.ref w0.h.length, h')) Q,
        ⟨ys.length, w0.newL D [] [], rfl, ok1, .refl _, hq.mono (x0.trans x1)⟩, ?_⟩
      rintro i m H ⟨w, rfl, ok, x, hq⟩
      have lenD : w0.h.length < w.h.length := by
        have := x.len
        simp [Wd.newL] at this
        omega
      have ιw : w.ι w0.h.length = D := (x.ι _ (by simp [Wd.newL])).trans ιD
      have refD : ∀ w' : Wd, Wd.Ext X.K w w' → Rp X.K w' (.ref w0.h.length) (.ref D) := fun w' x' => by
        have q : Rp X.K w' (.ref w0.h.length) (.ref (w'.ι w0.h.length)) := .ref (Nat.lt_of_lt_of_le lenD x'.len)
        rw [x'.ι _ lenD, ιw] at q
        exact q
      cases es : src w.h with
      | none => cases m <;> (unfold lcF at hq; rw [es] at hq; exact hq.elim)
      | some zs =>
        obtain ⟨k1, k2⟩ := wk w i zs (x1.trans x) ok es
        cases ei : zs[i]? with
        | none =>
          refine .inl ⟨k1 ei, ?_⟩
          cases m with
          | zero =>
            unfold lcF at hq
            rw [es] at hq
            simp only at hq
            rw [if_pos (List.getElem?_eq_none_iff.mp ei)] at hq
            exact hq w _ ok rfl (.refl w) (refD w (.refl w))
          | succ m =>
            unfold lcF at hq
            simp only [es, ei] at hq
            exact hq w _ ok rfl (.refl w) (refD w (.refl w))
        | some d =>
          obtain ⟨go, yl⟩ := k2 d ei
          cases m with
          | zero =>
            unfold lcF at hq
            rw [es] at hq
            simp only at hq
            rw [if_neg (by have := (List.getElem?_eq_some_iff.mp ei).1; omega)] at hq
            exact hq.elim
          | succ m =>
            unfold lcF at hq
            simp only [es, ei] at hq
            refine .inr ⟨go, fun H' => ∃ w, w.H = H' ∧ w.Ok X.K ∧ Wd.Ext X.K (w0.newL D [] []) w ∧ PstE X W w ((lcF src vs p t e w0.h.length s m (i + 1) w.h).bind fun h' => .ok (.ref w0.h.length, h')) Q, fun H' z => ⟨m, Nat.lt_succ_self m, z⟩, fun v H' y => ?_⟩
            obtain ⟨w', rfl, eh', ok', x', r'⟩ := yl v H' y
            cases eg : p d (vwipe s vs) with
            | none => rw [eg] at hq; exact hq.elim
            | some s2 =>
              rw [eg] at hq
              simp only at hq
              have X0 : Wd.Ext X.K w (w') := x'
              have sl' : Slots X.K w' s σ := sl.ext (((x0.trans x1).trans x).trans x')
              refine hg w' (vwipe s vs) s2 (wipe σ vs) d v _ ok' (sl'.wipe vs) r' eg fun σ2 sl2 hw2 => ⟨hw2.trans (wipe_wipe vs σ), w', s2, rfl, ok', sl2, ?_⟩
              rw [eh']
              cases et : t s2 w.h with
              | bad => rw [et] at hq; exact hq.elim
              | ex _ _ _ => rw [et] at hq; exact hq.elim
              | ok c =>
                obtain ⟨b, hc⟩ := c
                rw [et] at hq
                simp only [noex_ok, Res.ok_bind] at hq
                intro w2 ok2 eh2 x2
                have eh2 : w2.h = hc := eh2
                subst eh2
                have X2 : Wd.Ext X.K w w2 := x'.trans x2
                cases b with
                | false =>
                  simp only [Bool.false_eq_true, if_false] at hq ⊢
                  exact ⟨w2, rfl, ok2, x.trans X2, hq.mono X2⟩
                | true =>
                  simp only [if_true] at hq ⊢
                  refine ⟨w2, s2, rfl, ok2, sl2.ext x2, ?_⟩
                  cases ee : e s2 w2.h with
                  | bad => rw [ee] at hq; exact hq.elim
                  | ex _ _ _ => rw [ee] at hq; exact hq.elim
                  | ok yv =>
                    obtain ⟨y1, y2⟩ := yv
                    rw [ee] at hq
                    simp only [noex_ok, Res.ok_bind] at hq
                    intro w3 v3 ok3 eh3 x3 r3
                    have eh3 : w3.h = y2 := eh3
                    subst eh3
                    have X3 : Wd.Ext X.K w w3 := X2.trans x3
                    unfold putAt at hq
                    cases en : w3.h[w0.h.length]? with
                    | none => rw [en] at hq; exact hq.elim
                    | some c =>
                      rw [en] at hq
                      cases c with
                      | ro _ => exact hq.elim
                      | lst acc =>
                        simp only at hq
                        by_cases hl : acc.length < sizeLine
                        · rw [if_pos hl] at hq
                          obtain ⟨us, hu, ru⟩ := ok3.cell _ _ en
                          have ι3 : w3.ι w0.h.length = D := (X3.ι _ lenD).trans ιw
                          rw [ι3] at hu
                          obtain ⟨ok4, x4⟩ := ok3.putL (ds := acc ++ [y1]) (vs := us ++ [v3]) en (ru.append (.cons r3 .nil))
                          refine ⟨us, hu, by rw [← ru.length]; exact hl, w3.putL w0.h.length (acc ++ [y1]) (us ++ [v3]), ?_, ok4, (x.trans X3).trans x4, ?_⟩
                          · show upd w3.H (w3.ι w0.h.length) _ = _
                            rw [ι3]
                          · exact PstE.mono (X3.trans x4) hq
                        · rw [if_neg hl] at hq
                          exact hq.elim
theorem qLc {elt tg iter : Expr} {ifs : List Expr} {scope : Scope} {own : List (Str × Nat)} {pos : Pos} {it : VI} {g : TG} {p : VP} {t : VT} {e : VE} (hc : X.calm = true) (hN : X.N.Nodup) (hi : PI X tg iter (gI X W it)) (ok : BlkOk X.N X.env.scope scope own)
    (hgd : TgD X.K (own.map (·.2)) g p)
    (hg : ∀ (s : Shared) (H : Hp) (C : Addr) (cl : List (Str × Addr)) (fp : List Addr), PG (X.blk s H scope (compEnvC scope cl C X.env) fp) tg g) (ht : ∀ (s : Shared) (H : Hp) (C : Addr) (cl : List (Str × Addr)) (fp : List Addr), PTs (X.blk s H scope (compEnvC scope cl C X.env) fp) ifs (gT (X.blk s H scope (compEnvC scope cl C X.env) fp) W0 t))
    (he : ∀ (s : Shared) (H : Hp) (C : Addr) (cl : List (Str × Addr)) (fp : List Addr), PE (X.blk s H scope (compEnvC scope cl C X.env) fp) elt (gE (X.blk s H scope (compEnvC scope cl C X.env) fp) W0 e)) (hs : ∀ x, foldedSetIterable iter X.env x = pure x := by intro _; rfl) :
    PE X (.ListComp elt [⟨tg, iter, ifs, 0⟩] scope pos) (gE X W (vLc it (own.map (·.2)) p t e)) :=
  PEw (pe_lc (tt := gT X W0 t) (te := gE X W0 e) hc hN hi ok hg (fun a b c d f => ht a b c d f) (fun a b c d f => he a b c d f) hs) fun _ _ _ h => lc_red hgd h
theorem qSetLc {i : Nat} {y : Str} {py : Pos} {elt tg iter : Expr} {ifs : List Expr} {scope : Scope} {own : List (Str × Nat)} {pos spos : Pos} {it : VI} {g : TG} {p : VP} {t : VT} {e : VE} (hc : X.calm = true) (hN : X.N.Nodup) (hy : X.N[i]? = some y) (hyl : X.env.scope.names.lookup y = some .local)
    (hsw : swapsWith (.ListComp elt [⟨tg, iter, ifs, 0⟩] scope pos) (some (.Name y py)) spos.line X.env = pure true) (hi : PI X tg iter (gI X W it)) (ok : BlkOk X.N X.env.scope scope own)
    (hgd : TgD X.K (own.map (·.2)) g p)
    (hg : ∀ (s : Shared) (H : Hp) (C : Addr) (cl : List (Str × Addr)) (fp : List Addr), PG (X.blk s H scope (compEnvC scope cl C X.env) fp) tg g) (ht : ∀ (s : Shared) (H : Hp) (C : Addr) (cl : List (Str × Addr)) (fp : List Addr), PTs (X.blk s H scope (compEnvC scope cl C X.env) fp) ifs (gT (X.blk s H scope (compEnvC scope cl C X.env) fp) W0 t))
    (he : ∀ (s : Shared) (H : Hp) (C : Addr) (cl : List (Str × Addr)) (fp : List Addr), PE (X.blk s H scope (compEnvC scope cl C X.env) fp) elt (gE (X.blk s H scope (compEnvC scope cl C X.env) fp) W0 e)) (hs : ∀ x, foldedSetIterable iter X.env x = pure x := by intro _; rfl) :
    PS X (.Assign [.Name y py] (.ListComp elt [⟨tg, iter, ifs, 0⟩] scope pos) spos) (gS X W (vAsg (vLc it (own.map (·.2)) p t e) (gName i))) :=
  PSw (ps_setLc (tt := gT X W0 t) (te := gE X W0 e) hc hN hy hyl hsw hi ok hg (fun a b c d f => ht a b c d f) (fun a b c d f => he a b c d f) hs) fun D σ H ⟨w, s, hH, ok, sl, hp⟩ => by
    subst hH
    show tLc _ _ _ _ _ σ w.H fun x H1 => L2.gName i x σ H1 D.nx
    refine lc_red (W := W) hgd ?_
    exact gE.seq ok sl (wS w D) hp fun d w1 v ok1 x1 sl1 r1 hp1 => hp1 w1 _ ok1 rfl x1 (sl1.set i r1)
end
end Vq

/-! Part 4: defs: what they are worth, how they are called, where the law begins. No repr is under way (guards). -/
namespace Vq
open PySem PySem.Spec PyProof.Rows L2

/-- a body as a function of arguments and heap; N: how many names -/
def mF (N : Nat) (f : VSt) : Fn := fun ds h => match f (ds.map some ++ List.replicate (N - ds.length) none) h with
  | .ok (.rt d, _, h') => .ok (d, h')
  | .ok (.nx, _, h') => .ok (.non, h')
  | .ok (.bk, _, _) => .bad
  | .ok (.ct, _, _) => .bad
  | .ex x _ h' => .ex x [] h'
  | .bad => .bad

def PstF (K : PySem.W.Frag) (mg : Str → Option Value) (w : Wd) (r : Res (D × VH)) (Q : VK) (E : XK) : Prop :=
  match r with
  | .ok p => ∀ w' v, w'.Ok K → w'.h = p.2 → Wd.Ext K w w' → Rp K w' p.1 v → Q v w'.H
  | .ex x _ h => ∀ (w' : Wd) (cls : Value) (d : Option Addr), w'.Ok K → w'.h = h → Wd.Ext K w w' → RepX K mg w' x cls d → E cls d w'.H
  | .bad => False

/-- the def at f is worth F, at level k -/
structure FnG (P : Program) (w : World) (K : PySem.W.Frag) (mg : Str → Option Value) (base : Heap) (k : Nat) (f : Addr) (fd : FuncData) (ps : List Str) (F : Fn) : Prop where
  run : ∀ (A : Around) (outer : List Env) (s : Shared) (args : Args) (us : List Value) (vs : List V) (ds : List D) (wd : Wd) (Q : VK) (E : XK),
    A.guards = some [] → Room k A → Env0 P w K mg base A outer s wd.H → ds.length = ps.length → BindsTo s fd args (ps.zip us) → Vals vs us → wd.Ok K → Rps K wd ds vs →
      PstF K mg wd (F ds wd.h) Q E → codeAny (model P w) A (.call (.ref f) args) (CR (L2.CX P w) outer P w wd.H s Q E) s
theorem FnG.mono {P : Program} {w : World} {K : PySem.W.Frag} {mg : Str → Option Value} {base : Heap} {j k : Nat} {f : Addr} {fd : FuncData} {ps : List Str} {F : Fn} (x : FnG P w K mg base j f fd ps F) (h : j ≤ k) : FnG P w K mg base k f fd ps F :=
  ⟨fun A outer s args us vs ds wd Q E hg hr => x.run A outer s args us vs ds wd Q E hg (hr.mono h)⟩

/-- all a step needs of where it stands -/
structure At (X : Cx) (W : WX) (k : Nat) : Prop where
  room : Room k X.A
  gd : X.A.guards = some []
  tk : Takes X W
  ps : PassesOwn (model X.prog X.w) X.A X.env X.xe
theorem At.mono {X : Cx} {W : WX} {j k : Nat} (a : At X W k) (h : j ≤ k) : At X W j := ⟨a.room.mono h, a.gd, a.tk, a.ps⟩

/-- X, the context of a def's body -/
abbrev cxG (P : Program) (w : World) (K : PySem.W.Frag) (mg : Str → Option Value) (base : Heap) (N : List Str) (qual : Str) (sc : Scope) (f : Addr) (cdv : Value) (A : Around) (outer : List Env) (s : Shared) (H : Hp) (E : XK) : Cx :=
  cxOf (L2.CX P w) P w K mg base N qual sc f cdv A outer s H E

theorem slots_start {K : PySem.W.Frag} {wd : Wd} {ds : List D} {vs : List V} (N : List Str) (r : Rps K wd ds vs) : Slots K wd (ds.map some ++ List.replicate (N.length - ds.length) none) (L2.start N vs) := by
  refine ⟨by simp [L2.start, r.length], fun i d e => ?_⟩
  by_cases hi : i < ds.length
  · rw [List.getElem?_append_left (by simpa using hi), List.getElem?_map] at e
    cases ed : ds[i]? with
    | none => rw [ed] at e; cases e
    | some d' =>
      rw [ed] at e
      cases e
      obtain ⟨v, ev, rv⟩ := r.get ed
      refine ⟨v, ?_, rv⟩
      unfold L2.start
      rw [List.getElem?_append_left (by rw [List.length_map, ← r.length]; exact hi), List.getElem?_map, ev]
      rfl
  · rw [List.getElem?_append_right (by simpa using Nat.le_of_not_lt hi), List.getElem?_replicate] at e
    split at e <;> cases e

theorem guards_deeper (A : Around) (env : Env) : (A.deeper env).guards = A.guards := by
  first
    | rfl
    | simp [Around.deeper]

theorem fnG_of {P : Program} {w : World} {K : PySem.W.Frag} {mg : Str → Option Value} {base : Heap} {k : Nat} {f : Addr} {fd : FuncData} {x qual : Str} {st : Stmt} {N ps : List Str} {b : VSt}
    (F : Fun K x qual st f fd) (S : FnScope N ps (defScope st))
    (hb : ∀ (cdv : Value) (A : Around) (outer : List Env) (s : Shared) (H : Hp) (E : XK), At (cxG P w K mg base N qual (defScope st) f cdv A outer s H E) (fun c d _ H => E c d H) k →
      PSs (cxG P w K mg base N qual (defScope st) f cdv A outer s H E) (defBody st) (gS (cxG P w K mg base N qual (defScope st) f cdv A outer s H E) (fun c d _ H => E c d H) b)) :
    FnG P w K mg base (k + 1) f fd ps (mF N.length b) := by
  obtain ⟨oc, od, kV, doc, pm, an, cdv, ct, osl, rfl, lk, hcd⟩ := F.ex
  refine ⟨fun A outer s args us vs ds wd Q E hg hr e0 hl bt rv ok rd hp => ?_⟩
  have hl' : vs.length = ps.length := by
    rw [← RepL.length rd]
    exact hl
  have inK : K.In s.heap := e0.mod.kin.keeps fun b o e => (e0.bs b o e).1
  have lim : s.heap.NoLimit :=
    e0.mod.nolimit.keeps fun b o e => (e0.bs b o e).1
  have kinds : ∀ y ∈ ps.zip us, (defScope st).names.lookup y.1 = some .local ∨
      ((defScope st).names.lookup y.1 = some .cell ∧ ((cellsFrom (s.heap.objs.size + 1) (defScope st).names []).lookup y.1).isSome = true) := by
    rintro ⟨n, v⟩ hy
    exact (S.par n (List.of_mem_zip hy).1).imp id fun q => ⟨q, PySem.W.cellsFrom_some _ _ _ (.inl q)⟩
  refine codeAny_call_function hr.depth (inK _ _ lk) rfl S.co S.gen rfl (PySem.W.codeRec_of inK hcd) (bt _ _ _ _ ?_)
  refine wpAny_newFunctionEnv_cells S.kind kinds fun env he s1 ic => ?_
  subst he
  refine ⟨lim.keeps ic.toInCall.keep, codeAny_func ?_⟩
  have here : At (cxG P w K mg base N qual (defScope st) f cdv A outer s wd.H E) (fun c d _ H => E c d H) k :=
    ⟨hr.deeper _, (guards_deeper A _).trans hg, takes_of rfl rfl rfl rfl, passes_of rfl⟩
  have I := inv_start (CX := L2.CX P w) (E := E) S hr.hd e0 hl' rv ic
  have body := hb cdv A outer s wd.H E here
  have post : gS (cxG P w K mg base N qual (defScope st) f cdv A outer s wd.H E) (fun c d _ H => E c d H) b { nx := fun _ H' => Q .non H', rt := Q } (L2.start N vs) wd.H := by
    refine ⟨wd, ds.map some ++ List.replicate (N.length - ds.length) none, rfl, ok, slots_start N rd, ?_⟩
    unfold mF at hp
    revert hp
    cases b (ds.map some ++ List.replicate (N.length - ds.length) none) wd.h with
    | bad => exact fun z => z
    | ex x s' h' => exact fun z w' cls d σ ok' e' x' sl' rx => z w' cls d ok' e' x' rx
    | ok p =>
      obtain ⟨o, s', h'⟩ := p
      cases o with
      | nx => exact fun z w' σ ok' e' x' sl' => z w' .non ok' e' x' .non
      | rt d => exact fun z w' v ok' e' x' r' => z w' v ok' e' x' r'
      | bk => exact fun z => z.elim
      | ct => exact fun z => z.elim
  refine wpAny_mono (body.run [] s1 (L2.start N vs) wd.H _ I post) (fun fl s' hs => ?_) fun e s' hs => hs
  have done : ∀ {σ' : L2.St} {H' : Hp} {v : V} {u : Value}, Inv (cxG P w K mg base N qual (defScope st) f cdv A outer s wd.H E) [] σ' H' s' → RelV v u → Q v H' → CE outer P w wd.H s Q u s' :=
    fun {σ' H' v u} J r q => ⟨v, H', J.os, J.bare, J.base, J.hok, r, q⟩
  cases fl with
  | next => obtain ⟨σ', H', J, q⟩ := hs; exact done (v := V.non) (u := Value.none) J rfl q
  | ret u => obtain ⟨v, σ', H', J, r, q⟩ := hs; exact done J r q
  | brk => obtain ⟨_, _, _, q⟩ := hs; exact q.elim
  | cont => obtain ⟨_, _, _, q⟩ := hs; exact q.elim
end Vq

/-! Part 5: calls of defs; what a def is worth may be said more plainly; the law's own call. -/
namespace Vq
open PySem PySem.Spec PyProof.Rows L2

/-! ### calls -/
/-- a call within a frame: an error keeps the frame's slots -/
def callR (s : VS) (r : Res (D × VH)) : Res (D × VH) := match r with
  | .ok p => .ok p
  | .ex x _ h => .ex x s h
  | .bad => .bad
@[simp] theorem callR_ok (s : VS) (p : D × VH) : callR s (.ok p) = .ok p := rfl
@[simp] theorem callR_bad (s : VS) : callR s .bad = .bad := rfl
@[simp] theorem callR_ex (s s' : VS) (x : Exn) (h : VH) : callR s (.ex x s' h) = .ex x s h := rfl
def vCall (n : Nat) (F : Fn) (a : VA) : VE := fun s h => (a s h).bind fun p => if p.1.length = n then callR s (F p.1 p.2) else .bad
/-- keywords: place tells where the values stand (positional ones first, then the keywords' in their order) -/
def vCallK (n : Nat) (F : Fn) (pl : List D → List D → List D) (a k : VA) : VE := fun s h => (a s h).bind fun p => (k s p.2).bind fun q => if (pl p.1 q.1).length = n then callR s (F (pl p.1 q.1) q.2) else .bad

section
variable {X : Cx} {W : WX} {P : Program} {k : Nat} {f : Addr} {fd : FuncData} {ps : List Str} {F : Fn}
theorem run_fnG {pins : List (Addr × Obj)} {σ : L2.St} {s : Shared} {Q : VK} {us : List Value} {vs : List V} {ds : List D} {wd : Wd} {sv : VS} {args : Args} (G : FnG X.prog X.w X.K X.mg X.base k f fd ps F) (a : At X W k)
    (hb : BindsTo s fd args (ps.zip us)) (I : Inv X pins σ wd.H s) (rv : Vals vs us) (ok : wd.Ok X.K) (sl : Slots X.K wd sv σ) (rd : Rps X.K wd ds vs) (hl : ds.length = ps.length) (h : PstE X W wd (callR sv (F ds wd.h)) Q) :
    codeAny (model X.prog X.w) X.A (.call (.ref f) args) (fun r s' => match r with | .ok (.ret u) => EP X pins σ Q u s' | .ok _ => False | .error e => X.xe e s') s := by
  refine codeAny_mono (G.run X.A X.stack s args us vs ds wd Q (fun cls d H' => W cls d σ H') a.gd a.room I.env0 hl hb rv ok rd ?_) fun r s' hq => ?_
  · revert h
    cases F ds wd.h with
    | bad => exact fun z => z
    | ok p => exact fun z => z
    | ex x s' h' => exact fun z w' cls d ok' e x' rx => z w' cls d σ ok' e x' (sl.ext x') rx
  · cases r with
    | error e => exact a.tk e s' (XE.of_call (W := W) (E := fun cls d H' => W cls d σ H') I (fun _ _ _ z => z) hq)
    | ok fl =>
      cases fl with
      | ret u => exact I.after hq
      | next => exact hq.elim
      | brk => exact hq.elim
      | cont => exact hq.elim
theorem call_of {pins : List (Addr × Obj)} {σ : L2.St} {s : Shared} {Q : VK} {f : Value} {us : List Value} {kw : List (Str × Value)}
    (h : codeAny (model X.prog X.w) X.A (.call f ⟨us, kw⟩) (fun r s' => match r with | .ok (.ret u) => EP X pins σ Q u s' | .ok _ => False | .error e => X.xe e s') s) : wpAny (model X.prog X.w) X.A (call f us kw) (EP X pins σ Q) X.xe s :=
  wpAny_call (codeAny_mono h fun r s' hq => by
    cases r with
    | error e => exact hq
    | ok fl =>
      cases fl with
      | ret u => exact hq
      | next => exact hq.elim
      | brk => exact hq.elim
      | cont => exact hq.elim)

/-- how a def binds what is given by place -/
def BindP (K : PySem.W.Frag) (fd : FuncData) (ps : List Str) : Prop := ∀ us : List Value, us.length = ps.length → bindArgs fd ⟨us, []⟩ = pure (ps.zip us)
/-- .. by names ks behind so many by place: pl puts them in the parameters' order -/
structure BindK (fd : FuncData) (ps ks : List Str) (n : Nat) (pl : {α : Type} → List α → List α → List α) : Prop where
  to : ∀ us ws : List Value, us.length = n → ws.length = ks.length → bindArgs fd ⟨us, ks.zip ws⟩ = pure (ps.zip (pl us ws))
  reps : ∀ (K : PySem.W.Frag) (w : Wd) (ds es : List D) (vs zs : List V), Rps K w ds vs → Rps K w es zs → Rps K w (pl ds es) (pl vs zs)
  vals : ∀ (vs zs : List V) (us ws : List Value), Vals vs us → Vals zs ws → Vals (pl vs zs) (pl us ws)

variable {x : Str} {p pos : Pos} {e : Expr} {es : List Expr} {g : VA}
theorem qCall (G : FnG X.prog X.w X.K X.mg X.base k f fd ps F) (a : At X W k) (hm : X.mg x = some (.ref f)) (hk : PySem.W.keepIn X.K (.ref f) = true) (hb : BindP X.K fd ps) (ha : PA X (e :: es) (gA X W g)) (hg : Gl X x := by rfl)
    (hdb : (x == ("__debug__" : Str)) = false := by decide) (he : starEach (e :: es) X.env = (false, eval e X.env) :: starEach es X.env := by rfl) (hpl : (backTo pos (starEach es X.env)).any (·.1) = false := by rfl) :
    PE X (.Call (.Name x p) (e :: es) [] pos) (gE X W (vCall ps.length F g)) := by
  refine ⟨fun pins s σ H Q I ⟨wd, sv, hH, ok, sl, hp⟩ => ?_⟩
  subst hH
  refine wpAny_Call_Name_kw (ld_glob I hg hm ?_ hdb)
  refine PySem.W.callWith_K (h₀ := X.base) I.ok.mod.kin hk ?_ he hpl
  have q : gA X W g σ wd.H fun vs H1 => ∃ w1 ds, w1.H = H1 ∧ w1.Ok X.K ∧ Slots X.K w1 sv σ ∧ Rps X.K w1 ds vs ∧ ds.length = ps.length ∧ PstE X W w1 (callR sv (F ds w1.h)) Q := by
    refine gA.seq ok sl (wE wd Q) hp fun ds w1 vs ok1 x1 sl1 r1 hp1 => ?_
    by_cases hl : ds.length = ps.length
    · simp only [if_pos hl] at hp1
      exact ⟨w1, ds, rfl, ok1, sl1, r1, hl, hp1.mono x1⟩
    · simp only [if_neg hl] at hp1
      exact hp1.elim
  refine thn (ha.run pos pins s σ wd.H _ I q) fun us s1 ⟨vs, H1, I1, rv, w1, ds, hH1, ok1, sl1, r1, hl, hp1⟩ => ⟨I1.kIn, ?_⟩
  subst hH1
  refine call_of (kw := []) (run_fnG (vs := vs) (us := us) G a (.of_eq (hb us ?_)) I1 rv ok1 sl1 r1 hl hp1)
  rw [← rv.length, ← RepL.length r1]
  exact hl
theorem qCall0 (G : FnG X.prog X.w X.K X.mg X.base k f fd [] F) (a : At X W k) (hm : X.mg x = some (.ref f)) (hk : PySem.W.keepIn X.K (.ref f) = true) (hb : BindP X.K fd []) (hg : Gl X x := by rfl)
    (hdb : (x == ("__debug__" : Str)) = false := by decide) : PE X (.Call (.Name x p) [] [] pos) (gE X W (vCall 0 F vNil)) := by
  refine ⟨fun pins s σ H Q I ⟨wd, sv, hH, ok, sl, hp⟩ => ?_⟩
  subst hH
  refine wpAny_Call_Name_kw (ld_glob I hg hm ?_ hdb)
  exact PySem.W.callWith_K0 I.kIn hk (call_of (us := []) (kw := []) (run_fnG (vs := []) (us := []) (ds := []) G a (.of_eq (hb [] rfl)) I .nil ok sl .nil rfl hp))

def gK (X : Cx) (W : WX) (f : VA) : TA := gA X W f
theorem qk0 : PK X [] (gA X W vNil) := ⟨fun pos pins s σ H Q I ⟨w, sv, hH, ok, sl, hp⟩ => pk_nil.run pos pins s σ H Q I (by
  subst hH
  exact hp w [] ok rfl (.refl w) .nil)⟩
theorem qk {nm : Option Str} {kpos : Pos} {kws : List Keyword} {fe : VE} {fk : VA} (ha : PE X e (gE X W fe)) (hr : PK X kws (gA X W fk)) : PK X (⟨nm, e, kpos⟩ :: kws) (gA X W (vCons fe fk)) :=
  ⟨fun pos pins s σ H Q I ⟨w, sv, hH, ok, sl, hp⟩ => (pk_cons ha hr).run pos pins s σ H Q I (by
    subst hH
    refine gE.seq ok sl (wA w Q) hp fun d w1 v ok1 x1 sl1 r1 hp1 => ?_
    refine gA.seq ok1 sl1 ((wA w Q).mono x1) hp1 fun d2 w2 v2 ok2 x2 sl2 r2 hp2 => ?_
    exact hp2 w2 (v :: v2) ok2 rfl (x1.trans x2) (.cons (x2.rp r1) r2))⟩
variable {kws : List Keyword} {ks : List Str} {n : Nat} {pl : {α : Type} → List α → List α → List α} {gk : VA}
theorem qCallK (G : FnG X.prog X.w X.K X.mg X.base k f fd ps F) (a : At X W k) (hm : X.mg x = some (.ref f)) (hk : PySem.W.keepIn X.K (.ref f) = true) (hb : BindK fd ps ks n pl) (ha : PA X (e :: es) (gA X W g)) (hkw : PK X kws (gA X W gk))
    (hn : (e :: es).length = n := by rfl) (hg : Gl X x := by rfl) (hall : (backToKw pos (keywordEach kws X.env)).all (·.1.isSome) = true := by rfl) (hks : (backToKw pos (keywordEach kws X.env)).filterMap (·.1) = ks := by rfl)
    (hdb : (x == ("__debug__" : Str)) = false := by decide) (he : starEach (e :: es) X.env = (false, eval e X.env) :: starEach es X.env := by rfl)
    (hpl : ((backTo pos (starEach (e :: es) X.env)).any (·.1) || (backToKw pos (keywordEach kws X.env)).any (·.1.isNone)) = false := by rfl) :
    PE X (.Call (.Name x p) (e :: es) kws pos) (gE X W (vCallK ps.length F (fun a b => if a.length = n ∧ b.length = ks.length then pl a b else List.replicate (ps.length + 1) .non) g gk)) := by
  refine ⟨fun pins s σ H Q I ⟨wd, sv, hH, ok, sl, hp⟩ => ?_⟩
  subst hH
  refine wpAny_Call_Name_kw (ld_glob I hg hm ?_ hdb)
  refine PySem.W.callWith_KW (h₀ := X.base) I.ok.mod.kin hk hall ?_ hpl he
  have q : gA X W g σ wd.H fun vs H1 => gA X W gk σ H1 fun zs H2 => ∃ w2 ds es, w2.H = H2 ∧ w2.Ok X.K ∧ Slots X.K w2 sv σ ∧ Rps X.K w2 ds vs ∧ Rps X.K w2 es zs ∧ ds.length = n ∧ es.length = ks.length ∧ (pl ds es).length = ps.length ∧ PstE X W w2 (callR sv (F (pl ds es) w2.h)) Q := by
    refine gA.seq ok sl (wE wd Q) hp fun ds w1 vs ok1 x1 sl1 r1 hp1 => ?_
    refine gA.seq ok1 sl1 ((wE wd Q).mono x1) hp1 fun es w2 zs ok2 x2 sl2 r2 hp2 => ?_
    simp only at hp2
    by_cases hn : ds.length = n ∧ es.length = ks.length
    · rw [if_pos hn] at hp2
      by_cases hl : (pl ds es).length = ps.length
      · rw [if_pos hl] at hp2
        exact ⟨w2, ds, es, rfl, ok2, sl2, x2.rps r1, r2, hn.1, hn.2, hl, hp2.mono (x1.trans x2)⟩
      · rw [if_neg hl] at hp2
        exact hp2.elim
    · rw [if_neg hn] at hp2
      rw [if_neg (by simp)] at hp2
      exact hp2.elim
  refine thn (ha.run pos pins s σ wd.H _ I q) fun us s1 ⟨vs, H1, I1, rv, q1⟩ => ?_
  refine thn (hkw.run pos pins s1 σ H1 _ I1 q1) fun ws s2 ⟨zs, H2, I2, rz, w2, ds, es, hH2, ok2, sl2, r1, r2, n1, n2, hl, hp2⟩ => ⟨I2.kIn, ?_⟩
  subst hH2
  rw [hks]
  have e1 : us.length = n := by rw [← rv.length, ← RepL.length r1]; exact n1
  have e2 : ws.length = ks.length := by rw [← rz.length, ← RepL.length r2]; exact n2
  exact call_of (run_fnG (ds := pl ds es) (vs := pl vs zs) (us := pl us ws) G a (.of_eq (hb.to us ws e1 e2)) I2 (hb.vals vs zs us ws rv rz) ok2 sl2 (hb.reps _ _ ds es vs zs r1 r2) hl hp2)
theorem qCallK0 (G : FnG X.prog X.w X.K X.mg X.base k f fd ps F) (a : At X W k) (hm : X.mg x = some (.ref f)) (hk : PySem.W.keepIn X.K (.ref f) = true) (hb : BindK fd ps ks 0 pl) (hkw : PK X kws (gA X W gk))
    (hg : Gl X x := by rfl) (hall : (backToKw pos (keywordEach kws X.env)).all (·.1.isSome) = true := by rfl) (hks : (backToKw pos (keywordEach kws X.env)).filterMap (·.1) = ks := by rfl)
    (hdb : (x == ("__debug__" : Str)) = false := by decide)
    (hpl : ((backTo pos (starEach [] X.env)).any (·.1) || (backToKw pos (keywordEach kws X.env)).any (·.1.isNone)) = false := by rfl) :
    PE X (.Call (.Name x p) [] kws pos) (gE X W (vCallK ps.length F (fun a b => if a.length = 0 ∧ b.length = ks.length then pl a b else List.replicate (ps.length + 1) .non) vNil gk)) := by
  refine ⟨fun pins s σ H Q I ⟨wd, sv, hH, ok, sl, hp⟩ => ?_⟩
  subst hH
  refine wpAny_Call_Name_kw (ld_glob I hg hm ?_ hdb)
  refine PySem.W.callWith_KW0 (h₀ := X.base) I.ok.mod.kin hk hall ?_ hpl
  have q : gA X W gk σ wd.H fun zs H2 => ∃ w2 es, w2.H = H2 ∧ w2.Ok X.K ∧ Slots X.K w2 sv σ ∧ Rps X.K w2 es zs ∧ es.length = ks.length ∧ (pl [] es).length = ps.length ∧ PstE X W w2 (callR sv (F (pl [] es) w2.h)) Q := by
    refine gA.seq (f := gk) ok sl (wE wd Q) hp fun es w2 zs ok2 x2 sl2 r2 hp2 => ?_
    simp only at hp2
    by_cases hn : ([] : List D).length = 0 ∧ es.length = ks.length
    · rw [if_pos hn] at hp2
      by_cases hl : (pl [] es).length = ps.length
      · rw [if_pos hl] at hp2
        exact ⟨w2, es, rfl, ok2, sl2, r2, hn.2, hl, hp2.mono x2⟩
      · rw [if_neg hl] at hp2
        exact hp2.elim
    · rw [if_neg hn] at hp2
      rw [if_neg (by simp)] at hp2
      exact hp2.elim
  refine thn (hkw.run pos pins s σ wd.H _ I q) fun ws s2 ⟨zs, H2, I2, rz, w2, es, hH2, ok2, sl2, r2, n2, hl, hp2⟩ => ⟨I2.kIn, ?_⟩
  subst hH2
  rw [hks]
  have e2 : ws.length = ks.length := by rw [← rz.length, ← RepL.length r2]; exact n2
  exact call_of (run_fnG (ds := pl [] es) (vs := pl [] zs) (us := pl [] ws) G a (.of_eq (hb.to [] ws rfl e2)) I2 (hb.vals [] zs [] ws .nil rz) ok2 sl2 (hb.reps _ _ [] es [] zs .nil r2) hl hp2)
end

/-! ### saying it more plainly -/
mutual
def D.lt (n : Nat) : D → Bool
  | .tup l => D.ltAll n l
  | .ftup l => D.ltAll n l
  | .dic _ l => D.ltAll n l
  | .ref k => decide (k < n)
  | .non => true
  | .bl _ => true
  | .int _ => true
  | .str _ => true
def D.ltAll (n : Nat) : List D → Bool
  | [] => true
  | d :: r => D.lt n d && D.ltAll n r
end
def Cell.lt (n : Nat) : Cell → Bool
  | .lst l => D.ltAll n l
  | .ro l => D.ltAll n l
/-- no address leads out of the heap -/
def closed (h : VH) : Prop := ∀ c ∈ h, Cell.lt h.length c = true

mutual
theorem RepV.cut {K : PySem.W.Frag} {ι : Nat → Addr} {n m : Nat} {H : Hp} : ∀ {d : D} {v : V}, RepV K ι n H d v → D.lt m d = true → RepV K ι m H d v
  | _, _, .non, _ => .non
  | _, _, .bl b, _ => .bl b
  | _, _, .int i, _ => .int i
  | _, _, .str s, _ => .str s
  | _, _, .tup h r, e => .tup h (r.cut (by simpa [D.lt] using e))
  | _, _, .ftup h r, e => .ftup h (r.cut (by simpa [D.lt] using e))
  | _, _, .dic h r, e => .dic h (r.cut (by simpa [D.lt] using e))
  | _, _, .ref h, e => .ref (by simpa [D.lt] using e)
theorem RepL.cut {K : PySem.W.Frag} {ι : Nat → Addr} {n m : Nat} {H : Hp} : ∀ {d : List D} {v : List V}, RepL K ι n H d v → D.ltAll m d = true → RepL K ι m H d v
  | _, _, .nil, _ => .nil
  | _, _, .cons h r, e => by
    simp only [D.ltAll, Bool.and_eq_true] at e
    exact .cons (h.cut e.1) (r.cut e.2)
end
mutual
theorem RepV.in {K : PySem.W.Frag} {ι : Nat → Addr} {n : Nat} {H : Hp} : ∀ {d : D} {v : V}, RepV K ι n H d v → D.lt n d = true
  | _, _, .non => by simp [D.lt]
  | _, _, .bl b => by simp [D.lt]
  | _, _, .int i => by simp [D.lt]
  | _, _, .str s => by simp [D.lt]
  | _, _, .tup h r => by simp only [D.lt]; exact r.in
  | _, _, .ftup h r => by simp only [D.lt]; exact r.in
  | _, _, .dic h r => by simp only [D.lt]; exact r.in
  | _, _, .ref h => by simpa [D.lt] using h
theorem RepL.in {K : PySem.W.Frag} {ι : Nat → Addr} {n : Nat} {H : Hp} : ∀ {d : List D} {v : List V}, RepL K ι n H d v → D.ltAll n d = true
  | _, _, .nil => by simp [D.ltAll]
  | _, _, .cons h r => by simp only [D.ltAll, Bool.and_eq_true]; exact ⟨h.in, r.in⟩
end
theorem Wd.Ok.closed {K : PySem.W.Frag} {w : Wd} (ok : w.Ok K) : closed w.h := fun c hc => by
  obtain ⟨n, hn, rfl⟩ := List.mem_iff_getElem.mp hc
  have q := ok.cell n _ (List.getElem?_eq_getElem hn)
  revert q
  cases w.h[n] with
  | lst l => rintro ⟨vs, _, r⟩; exact r.in
  | ro l => rintro ⟨vs, _, r⟩; exact r.in
/-- the first part of a heap -/
def Wd.cut (w : Wd) (h : VH) : Wd := ⟨w.ι, h, w.H⟩
theorem Wd.Ok.cut {K : PySem.W.Frag} {w : Wd} {h g : VH} (ok : w.Ok K) (e : w.h = h ++ g) (c : Vq.closed h) : (w.cut h).Ok K := by
  have at_ : ∀ n c, h[n]? = some c → w.h[n]? = some c := fun n c q => by
    rw [e, List.getElem?_append_left (List.getElem?_eq_some_iff.mp q).1]
    exact q
  refine ⟨fun n d q => ?_, fun n m a b ha hb => ok.inj n m a b (at_ n a ha) (at_ m b hb)⟩
  have z := ok.cell n d (at_ n d q)
  have hd := c d (List.mem_of_getElem? q)
  cases d with
  | lst l =>
    obtain ⟨vs, h1, h2⟩ := z
    exact ⟨vs, h1, h2.cut hd⟩
  | ro l =>
    obtain ⟨vs, h1, h2⟩ := z
    exact ⟨vs, h1, h2.cut hd⟩

/-- F' says the same as F, but for what F leaves behind at the heap's end -/
def Says (F' F : Fn) : Prop :=
  ∀ (ds : List D) (h : VH), closed h → D.ltAll h.length ds = true → match F' ds h with
    | .ok (d, h') => (∃ g, F ds h = .ok (d, h' ++ g)) ∧ h.length ≤ h'.length ∧ closed h' ∧ D.lt h'.length d = true
    | .ex x _ h' => (∃ s g, F ds h = .ex x s (h' ++ g)) ∧ h.length ≤ h'.length ∧ closed h' ∧ D.ltAll h'.length (x.fs.map (·.2)) = true
    | .bad => True
theorem FnG.says {P : Program} {w : World} {K : PySem.W.Frag} {mg : Str → Option Value} {base : Heap} {k : Nat} {f : Addr} {fd : FuncData} {ps : List Str} {F F' : Fn} (G : FnG P w K mg base k f fd ps F) (h : Says F' F) : FnG P w K mg base k f fd ps F' := by
  refine ⟨fun A outer s args us vs ds wd Q E hg hr e0 hl bt rv ok rd hp => G.run A outer s args us vs ds wd Q E hg hr e0 hl bt rv ok rd ?_⟩
  have z := h ds wd.h ok.closed rd.in
  revert z hp
  cases F' ds wd.h with
  | bad => exact fun q => q.elim
  | ok p =>
    obtain ⟨d, h'⟩ := p
    rintro hp ⟨⟨g, e⟩, hl, hc, hd⟩
    rw [e]
    intro w' v ok' e' x' r'
    have e' : w'.h = h' ++ g := e'
    exact hp (w'.cut h') v (ok'.cut e' hc) rfl ⟨hl, x'.ι, x'.tup, x'.tp, x'.dk, x'.dp⟩ (r'.cut hd)
  | ex x s h' =>
    rintro hp ⟨⟨s2, g, e⟩, hl, hc, hd⟩
    rw [e]
    intro w' cls d ok' e' x' rx
    have e' : w'.h = h' ++ g := e'
    refine hp (w'.cut h') cls d (ok'.cut e' hc) rfl ⟨hl, x'.ι, x'.tup, x'.tp, x'.dk, x'.dp⟩ ⟨rx.1, rx.2.imp id fun ⟨a, fs, h1, h2, h3, h4, h5⟩ => ⟨a, fs, h1, h2, h3, h4, h5.cut hd⟩⟩
end Vq

/-! Part 6: the law's own call, at the heap that the top leaves. The script is the first cell, a list that nobody writes to. -/
namespace Vq
open PySem PySem.Spec PyProof.Rows L2

/-- the script as a heap of one cell -/
def scriptH (ns : List Int) : VH := [.ro (ns.map D.int)]
theorem reps_ints (K : PySem.W.Frag) (ι : Nat → Addr) (n : Nat) (H : Hp) : ∀ ns : List Int, RepL K ι n H (ns.map D.int) (ns.map V.int)
  | [] => .nil
  | i :: r => .cons (.int i) (reps_ints K ι n H r)
theorem ro_of {K : PySem.W.Frag} {H : Hp} {a : Addr} {xs : List V} (hO : Only H) (h : SqL K H a xs) : RoL K H a xs := by
  rcases h with (h | ⟨ob, h⟩) | h
  · rcases hO a with z | ⟨o, ys, z⟩ <;> rw [h] at z <;> cases z
  · exact .inl ⟨ob, h⟩
  · exact .inr h
theorem script_ok {K : PySem.W.Frag} {H : Hp} {a : Addr} {ns : List Int} (h : RoL K H a (ns.map V.int)) : (Wd.mk (fun _ => a) (scriptH ns) H).Ok K := by
  refine ⟨fun n c e => ?_, fun n m c d h1 h2 m1 m2 _ => ?_⟩
  · match n, e with
    | 0, e =>
      cases e
      exact ⟨_, h, reps_ints K _ _ _ ns⟩
    | n + 1, e => cases e
  · match n, m, h1, h2 with
    | 0, 0, _, _ => rfl
    | n + 1, _, h1, _ => cases h1
    | _, m + 1, _, h2 => cases h2

/-- the module table stands in the base -/
class SysIn (base : Heap) : Prop where
  h : base.get? sysModules ≠ none
theorem lawG {P : Program} {w : World} {K : PySem.W.Frag} {mg mb : Str → Option Value} {k : Nat} {fa a : Addr} {fd : FuncData} {x : Str} {F : Fn} {s : Shared} {vs : List Value} {ns : List Int}
    (KX : K.In s.heap) (hns : s.heap.Ns mainGlobals mg) (hb : s.heap.Ns builtinsNs mb) (hbb : ∀ x : Str, x ≠ "__name__" → mb x = bootBuiltins x) (hlim : s.heap.NoLimit) {mm : Str → Option Value} (hsy : s.heap.Ns sysModules mm)
    (hg : s.gens = #[]) (ha : s.heap.get? a = some { cls := .type "list", data := .seq vs.toArray }) (hi : IntsAre vs ns) (hl : ns.length ≤ sizeLine) (hr : Room k callerA)
    (G : ∀ base : Heap, K.In base → base.Ns mainGlobals mg → SysIn base → FnG P w K mg base k fa fd [x] F) (hbind : ∀ u : Value, bindArgs fd ⟨[u], []⟩ = pure [(x, u)])
    (hF : ∃ h', F [.ref 0] (scriptH ns) = .ok (.bl true, h')) :
    codeAny (model P w) callerA (.call (.ref fa) ⟨[.ref a], []⟩) (fun r s' => r = .ok (.ret (.bool true)) ∧ OldK s.heap s'.heap ∧ s'.os = s.os ∧ AllBare s'.gens) s := by
  have rv := vals_ints hi
  have go : ∀ H : Hp, Only H → SqL K H a (ns.map V.int) → HOk P w H s.heap → (∀ b, H b ≠ none → b = a) → (H a ≠ none → K.lookup a = none) →
      codeAny (model P w) callerA (.call (.ref fa) ⟨[.ref a], []⟩) (fun r s' => r = .ok (.ret (.bool true)) ∧ OldK s.heap s'.heap ∧ s'.os = s.os ∧ AllBare s'.gens) s := by
    intro H hO hS hok hA hK
    have free : ∀ {b : Addr} {o : Obj} {es : Array DictEntry} {ep : Nat}, s.heap.get? b = some o → o.data = .dict es ep → H b = none := by
      intro b o es ep e d
      cases q : H b with
      | none => rfl
      | some u =>
        have e' : b = a := hA b (by rw [q]; exact fun z => nomatch z)
        subst e'
        rw [ha] at e
        cases e
        have d' : Data.seq vs.toArray _ = Data.dict es ep := d
        cases d'
    have ns1 : ∀ {b : Addr} {m : Str → Option Value}, s.heap.Ns b m → (hidT s.heap H).Ns b m := by
      rintro b m ⟨o, es, ep, e, d, r⟩
      exact ⟨o, es, ep, hidT_get e (free e d), d, r⟩
    have inB : K.In (hidT s.heap H) := by
      intro b o e
      refine hidT_get (KX b o e) ?_
      cases q : H b with
      | none => rfl
      | some u =>
        have e' : b = a := hA b (by rw [q]; exact fun z => nomatch z)
        subst e'
        rw [hK (by rw [q]; exact fun z => nomatch z)] at e
        cases e
    have hM : Mod K mg (hidT s.heap H) := ⟨inB, ns1 hns, ⟨mb, ns1 hb, hbb⟩, by
      obtain ⟨mc, h1, h2⟩ := hlim
      exact ⟨mc, ns1 h1, h2⟩⟩
    have e0 : Env0 P w K mg (hidT s.heap H) callerA [] s H :=
      ⟨rfl, hM, fun b o e => of_hidT e, Nat.le_of_eq (hidT_size _ _), trivial, fun b hb => absurd (show b ∈ ([] : List Addr) from hb) List.not_mem_nil, hok, .of_eq hg⟩
    obtain ⟨h', hF⟩ := hF
    have hsi : SysIn (hidT s.heap H) := ⟨by
      obtain ⟨o, es, ep, e, _⟩ := ns1 hsy
      rw [e]
      exact fun z => nomatch z⟩
    have run := (G _ inB (ns1 hns) hsi).run callerA [] s ⟨[.ref a], []⟩ [.ref a] [.ref a] [.ref 0] (Wd.mk (fun _ => a) (scriptH ns) H) (fun v _ => v = .bl true) (fun _ _ _ => False) rfl hr e0 rfl
      (.of_eq (hbind (.ref a))) (.cons rfl .nil) (script_ok (ro_of hO hS)) (.cons (.ref (k := 0) (Nat.zero_lt_one)) .nil) (by
        rw [hF]
        intro w' v _ _ _ r
        have r' : RepV K w'.ι w'.h.length w'.H (.bl true) v := r
        cases r'
        rfl)
    refine codeAny_mono run fun r s' h => ?_
    cases r with
    | error e =>
      obtain ⟨_, _, _, _, _, _, _, _, _, _, _, _, z⟩ := h
      exact z.elim
    | ok fl =>
      cases fl with
      | next => exact h.elim
      | brk => exact h.elim
      | cont => exact h.elim
      | ret u =>
        obtain ⟨v, H', os, bare, un, hok', r', q⟩ := h
        have q' : v = .bl true := q
        subst q'
        obtain rfl : u = Value.bool true := r'
        refine ⟨rfl, OldK.of_keep fun b o e => ?_, os, bare⟩
        cases q : H b with
        | none => exact un.keep b o e q (fun z => absurd (show b ∈ ([] : List Addr) from z) List.not_mem_nil) List.not_mem_nil
        | some u =>
          rcases hO b with z | ⟨ob, xs, z⟩
          · rw [q] at z
            cases z
          · obtain ⟨e1, _⟩ := hok b _ z
            obtain ⟨e2, _⟩ := hok' b _ (un.frzs b ob _ z)
            rw [e] at e1
            cases e1
            exact e2
  have lenV := hi.length
  cases hk : K.lookup a with
  | some o =>
    have e := KX a o hk
    rw [ha] at e
    cases e
    refine go (fun _ => none) (fun _ => .inl rfl) (.inr ⟨_, vs.toArray, _, hk, rfl, rfl, rfl, by rw [List.size_toArray, lenV]; exact hl, by simpa using rv⟩) (fun b u z => by
      have z' : (none : Option HO) = some u := z
      cases z') (fun b z => absurd rfl z) fun z => absurd rfl z
  | none =>
    refine go (fun b => if b = a then some (.frz { cls := .type "list", data := .seq vs.toArray } (.lst (ns.map V.int))) else none) (fun b => ?_) (.inl (.inr ⟨{ cls := .type "list", data := .seq vs.toArray }, if_pos rfl⟩))
      (fun b u z => ?_) (fun b z => ?_) fun _ => hk
    · by_cases hb : b = a
      · exact .inr ⟨_, _, if_pos hb⟩
      · exact .inl (if_neg hb)
    · by_cases hb : b = a
      · have z' := (if_pos hb).symm.trans z
        cases z'
        subst hb
        exact ⟨ha, by rw [List.length_map]; exact hl, vs, _, rv, ha⟩
      · have z' := (if_neg hb).symm.trans z
        cases z'
    · by_cases hb : b = a
      · exact hb
      · exact absurd (if_neg hb) z

/-- what k_head leaves -/
theorem walkG {l : PySem.W.OpenLaw} {n k : Nat} {q : Program} {loose : List Str} {XP : (Str → Option Value) → Heap → Prop} {YP : World → Heap → Prop} {d : DefRec} {K : Params → PySem.W.Frag} {F : Fn} {x : Str}
    (hn : l.most = some n) (hn2 : n ≤ sizeLine) (hdf : d.params.defaults = []) (hr : Room k callerA) (hY : ∀ (w : World) (h : Heap), YP w h → (K w.params).In h)
    (G : ∀ (w : World) (mg : Str → Option Value) (fa : Addr) (h : Heap), (K w.params).In h → h.Ns mainGlobals mg → mg d.name = some (.ref fa) →
      ∃ fd : FuncData, (∀ u : Value, bindArgs fd ⟨[u], []⟩ = pure [(x, u)]) ∧ ∀ base : Heap, (K w.params).In base → base.Ns mainGlobals mg → SysIn base → FnG l.prog w (K w.params) mg base k fa fd [x] F)
    (hF : ∀ ns : List Int, ns.length ≤ n → ∃ h', F [.ref 0] (scriptH ns) = .ok (.bl true, h')) (hi : importsNone q = true) : PySem.W.WalkO q loose XP YP l.row.toRowW d [] (fun f vs => PySem.call f vs) := by
  refine Att.attach_call hn hdf fun w s₀ s₁ mg mb fa o pm cd doc a vs ns Gr Y ho hd hcd hmg hobj hints hlen hg => ?_
  obtain ⟨fd, hb, hG⟩ := G w mg fa _ (hY w _ Y) Gr.T.g hmg
  obtain ⟨mm, hm, _⟩ := (Gr.T.seer hi).mods
  exact lawG (hY w _ Y) Gr.T.g Gr.T.b Gr.T.builtins Gr.T.nolimit hm hg hobj hints (Nat.le_trans hlen hn2) hr hG hb (hF ns hlen)
end Vq

/-! Part 7: what operators and built-ins do upon values. -/
namespace Vq
open PySem PySem.Spec PyProof.Rows L2

/-! ### a list's items -/
def lk (h : VH) (n : Nat) : Option (List D) := match h[n]? with
  | some (.lst l) => some l
  | some (.ro l) => some l
  | none => none
theorem lk_sq {K : PySem.W.Frag} {w : Wd} {n : Nat} {ds : List D} (ok : w.Ok K) (e : lk w.h n = some ds) : ∃ vs, SqL K w.H (w.ι n) vs ∧ Rps K w ds vs := by
  unfold lk at e
  cases q : w.h[n]? with
  | none => rw [q] at e; cases e
  | some c =>
    have z := ok.cell n c q
    rw [q] at e
    cases c with
    | lst l =>
      cases e
      obtain ⟨vs, h1, h2⟩ := z
      exact ⟨vs, SqL.of h1, h2⟩
    | ro l =>
      cases e
      obtain ⟨vs, h1, h2⟩ := z
      exact ⟨vs, h1.sq, h2⟩
def seqOf (h : VH) : D → Option (List D)
  | .tup l => some l
  | .ref n => lk h n
  | .ftup l => some l
  | _ => none
theorem seqOf_sq {K : PySem.W.Frag} {w : Wd} {d : D} {v : V} {ds : List D} (ok : w.Ok K) (r : Rp K w d v) (e : seqOf w.h d = some ds) : ∃ a vs, v = .ref a ∧ (SqL K w.H a vs ∨ SqT K w.H a vs) ∧ Rps K w ds vs := by
  cases r with
  | tup hq rr => cases e; exact ⟨_, _, rfl, .inr hq, rr⟩
  | ftup hq rr => cases e; exact ⟨_, _, rfl, .inr hq.sq, rr⟩
  | ref hk =>
    obtain ⟨vs, h1, h2⟩ := lk_sq ok e
    exact ⟨_, vs, rfl, .inl h1, h2⟩
  | _ => cases e

/-! ### plain data, as the library says it -/
mutual
def pyD (f : Nat → Option PyData) : D → Option PyData
  | .non => some .none
  | .bl b => some (.bool b)
  | .int i => some (.int i)
  | .str s => some (.str s)
  | .tup l => (pyL f l).map .tuple
  | .ftup l => (pyL f l).map .tuple
  | .dic _ _ => none
  | .ref n => f n
def pyL (f : Nat → Option PyData) : List D → Option (List PyData)
  | [] => some []
  | d :: r => (pyD f d).bind fun a => (pyL f r).map fun b => a :: b
end
def refPy (h : VH) : Nat → Nat → Option PyData
  | 0, _ => none
  | k + 1, n => (lk h n).bind fun l => (pyL (refPy h k) l).map .list
def py (h : VH) (d : D) : Option PyData := pyD (refPy h 6) d

mutual
theorem pyD_dp {K : PySem.W.Frag} {w : Wd} {f : Nat → Option PyData} (hf : ∀ n p, f n = some p → Dp K w.H (.ref (w.ι n)) p) : ∀ {d : D} {v : V} {p : PyData}, Rp K w d v → pyD f d = some p → Dp K w.H v p
  | _, _, _, .non, e => by simp only [pyD] at e; cases e; exact .non
  | _, _, _, .bl b, e => by simp only [pyD] at e; cases e; exact .bl b
  | _, _, _, .int i, e => by simp only [pyD] at e; cases e; exact .int i
  | _, _, _, .str s, e => by simp only [pyD] at e; cases e; exact .str s
  | _, _, _, .tup h r, e => by
    simp only [pyD] at e
    obtain ⟨ps, e1, rfl⟩ := Option.map_eq_some_iff.mp e
    exact .tup h (pyL_dp hf r e1)
  | _, _, _, .ftup h r, e => by
    simp only [pyD] at e
    obtain ⟨ps, e1, rfl⟩ := Option.map_eq_some_iff.mp e
    exact .tup h.sq (pyL_dp hf r e1)
  | _, _, _, .dic _ _, e => by
    simp only [pyD] at e
    cases e
  | _, _, _, .ref _, e => by simp only [pyD] at e; exact hf _ _ e
theorem pyL_dp {K : PySem.W.Frag} {w : Wd} {f : Nat → Option PyData} (hf : ∀ n p, f n = some p → Dp K w.H (.ref (w.ι n)) p) : ∀ {d : List D} {v : List V} {p : List PyData}, Rps K w d v → pyL f d = some p → DpAll K w.H v p
  | _, _, _, .nil, e => by simp only [pyL] at e; cases e; exact .nil
  | _, _, _, .cons h r, e => by
    simp only [pyL] at e
    obtain ⟨a, ea, e⟩ := Option.bind_eq_some_iff.mp e
    obtain ⟨b, eb, rfl⟩ := Option.map_eq_some_iff.mp e
    exact .cons (pyD_dp hf h ea) (pyL_dp hf r eb)
end
theorem refPy_dp {K : PySem.W.Frag} {w : Wd} (ok : w.Ok K) : ∀ (k n : Nat) (p : PyData), refPy w.h k n = some p → Dp K w.H (.ref (w.ι n)) p
  | 0, _, _, e => by cases e
  | k + 1, n, p, e => by
    simp only [refPy] at e
    obtain ⟨l, el, e⟩ := Option.bind_eq_some_iff.mp e
    obtain ⟨ps, ep, rfl⟩ := Option.map_eq_some_iff.mp e
    obtain ⟨vs, h1, h2⟩ := lk_sq ok el
    exact .lst h1 (pyL_dp (refPy_dp ok k) h2 ep)
theorem py_dp {K : PySem.W.Frag} {w : Wd} {d : D} {v : V} {p : PyData} (ok : w.Ok K) (r : Rp K w d v) (e : py w.h d = some p) : Dp K w.H v p := pyD_dp (refPy_dp ok 6) r e

def eqWith (neg : Bool) (x y : D) (h : VH) : Option (D × VH) := match py h x, py h y with
  | some a, some b => if SeqAt.shaped a && SeqAt.shaped b then some (.bl (if neg then !PyData.eqv a b else PyData.eqv a b), h) else none
  | _, _ => none
/-! ### ints -/
def ii (f : Int → Int → Option D) (x y : D) (h : VH) : Option (D × VH) := match x, y with
  | .int i, .int j => (f i j).map fun d => (d, h)
  | _, _ => none
theorem opd_ii {K : PySem.W.Frag} {r : R2} {f : Int → Int → Option D} (hr : ∀ (i j : Int) (d : D) (H : Hp) (Q : VK), f i j = some d → (∀ v, (∀ w : Wd, Rp K w d v) → Q v H) → r (.int i) (.int j) H Q) : OpD K r (ii f) := fun w x y vx vy Q ok rx ry h => by
  cases rx with
  | int i =>
    cases ry with
    | int j =>
      unfold ii at h
      simp only at h
      cases e : f i j with
      | none => rw [e] at h; exact h.elim
      | some d =>
        rw [e] at h
        exact hr i j d w.H Q e fun v hv => h w v ok rfl (.refl w) (hv w)
    | _ => exact h.elim
  | _ => cases ry <;> exact h.elim
theorem opd_or {K : PySem.W.Frag} {r r' : R2} {f f' g : D → D → VH → Option (D × VH)} (a : OpD K r f) (b : OpD K r' f') (h : ∀ x y hp, (g x y hp = f x y hp) ∨ (g x y hp = f' x y hp)) : OpD K (fun x y H Q => r x y H Q ∨ r' x y H Q) g := fun w x y vx vy Q ok rx ry hp => by
  rcases h x y w.h with e | e
  · rw [e] at hp; exact .inl (a w x y vx vy Q ok rx ry hp)
  · rw [e] at hp; exact .inr (b w x y vx vy Q ok rx ry hp)
/-- two operations side by side: the second where the first is not said -/
def orD (f g : D → D → VH → Option (D × VH)) : D → D → VH → Option (D × VH) := fun x y h => match f x y h with
  | some p => some p
  | none => g x y h
theorem opd_orD {K : PySem.W.Frag} {r r' : R2} {f f' : D → D → VH → Option (D × VH)} (a : OpD K r f) (b : OpD K r' f') : OpD K (fun x y H Q => r x y H Q ∨ r' x y H Q) (orD f f') :=
  opd_or a b fun x y hp => by
    unfold orD
    cases e : f x y hp with
    | none => exact .inr rfl
    | some p => exact .inl rfl

theorem eqd_opd (K : PySem.W.Frag) : OpD K (rEqD K) (eqWith false) := fun w x y vx vy Q ok rx ry h => by
  unfold eqWith at h
  cases ea : py w.h x with
  | none => rw [ea] at h; exact h.elim
  | some a =>
    cases eb : py w.h y with
    | none => rw [ea, eb] at h; exact h.elim
    | some b =>
      simp only [ea, eb] at h
      by_cases hs : (SeqAt.shaped a && SeqAt.shaped b) = true
      · rw [if_pos hs] at h
        rw [Bool.and_eq_true] at hs
        exact ⟨a, b, py_dp ok rx ea, py_dp ok ry eb, hs.1, hs.2, h w _ ok rfl (.refl w) (.bl _)⟩
      · rw [if_neg hs] at h
        exact h.elim
theorem ned_opd (K : PySem.W.Frag) : OpD K (rNeD K) (eqWith true) := fun w x y vx vy Q ok rx ry h => by
  unfold eqWith at h
  cases ea : py w.h x with
  | none => rw [ea] at h; exact h.elim
  | some a =>
    cases eb : py w.h y with
    | none => rw [ea, eb] at h; exact h.elim
    | some b =>
      simp only [ea, eb] at h
      by_cases hs : (SeqAt.shaped a && SeqAt.shaped b) = true
      · rw [if_pos hs] at h
        rw [Bool.and_eq_true] at hs
        exact ⟨a, b, py_dp ok rx ea, py_dp ok ry eb, hs.1, hs.2, h w _ ok rfl (.refl w) (.bl _)⟩
      · rw [if_neg hs] at h
        exact h.elim

/-- two texts -/
def eqStr (neg : Bool) (x y : D) (h : VH) : Option (D × VH) := match x, y with
  | .str a, .str b => some (.bl (if neg then !decide (a = b) else decide (a = b)), h)
  | _, _ => none
theorem eqs_opd (K : PySem.W.Frag) : OpD K rEq (eqStr false) := fun w x y vx vy Q ok rx ry h => by
  cases rx with
  | str a =>
    cases ry with
    | str b =>
      have e : decide (V.str a = V.str b) = decide (a = b) := by simp
      exact ⟨rfl, by rw [e]; exact h w _ ok rfl (.refl w) (.bl _)⟩
    | _ => exact h.elim
  | _ => cases ry <;> exact h.elim
theorem nes_opd (K : PySem.W.Frag) : OpD K rNe (eqStr true) := fun w x y vx vy Q ok rx ry h => by
  cases rx with
  | str a =>
    cases ry with
    | str b =>
      have e : decide (V.str a = V.str b) = decide (a = b) := by simp
      exact ⟨rfl, by rw [e]; exact h w _ ok rfl (.refl w) (.bl _)⟩
    | _ => exact h.elim
  | _ => cases ry <;> exact h.elim
def dEq : D → D → VH → Option (D × VH) := orD (eqStr false) (eqWith false)
def dNe : D → D → VH → Option (D × VH) := orD (eqStr true) (eqWith true)
def rEqA (K : PySem.W.Frag) : R2 := fun x y H Q => rEq x y H Q ∨ rEqD K x y H Q
def rNeA (K : PySem.W.Frag) : R2 := fun x y H Q => rNe x y H Q ∨ rNeD K x y H Q
theorem eq_opd (K : PySem.W.Frag) : OpD K (rEqA K) dEq := opd_orD (eqs_opd K) (eqd_opd K)
theorem ne_opd (K : PySem.W.Frag) : OpD K (rNeA K) dNe := opd_orD (nes_opd K) (ned_opd K)
theorem eq_opr {X : Cx} (hu : X.A.units + 64 < cLine) : OpR X (compareOp .Eq) (rEqA X.K) := OpR.or op_eq (op_eqD hu)
theorem ne_opr {X : Cx} (hu : X.A.units + 64 < cLine) : OpR X (compareOp .NotEq) (rNeA X.K) := OpR.or op_ne (op_neD hu)

def aAdd := ii fun i j => some (.int (i + j))
def aSub := ii fun i j => some (.int (i - j))
theorem add_ii (K : PySem.W.Frag) : OpD K (rI0 fun i j => .int (i + j)) aAdd := opd_ii fun i j d H Q e q => by
  cases e
  exact ⟨i, j, rfl, rfl, q _ fun _ => .int _⟩
theorem sub_ii (K : PySem.W.Frag) : OpD K (rI0 fun i j => .int (i - j)) aSub := opd_ii fun i j d H Q e q => by
  cases e
  exact ⟨i, j, rfl, rfl, q _ fun _ => .int _⟩
/-- a product's size: one side small, or both bounded -/
def mulOk (i j : Int) : Bool := decide (-(2 ^ 64) < i ∧ i < 2 ^ 64) || decide (-(2 ^ 64) < j ∧ j < 2 ^ 64) || decide (i.natAbs.log2 + j.natAbs.log2 < 1000000)
def aMul := ii fun i j => if mulOk i j then some (.int (i * j)) else none
theorem mul_ii (K : PySem.W.Frag) : OpD K (fun x y H Q => rI CMul (fun i j => .int (i * j)) x y H Q ∨ rI CMulW (fun i j => .int (i * j)) x y H Q) aMul := opd_ii fun i j d H Q e q => by
  by_cases h : mulOk i j = true
  · rw [if_pos h] at e
    cases e
    unfold mulOk at h
    simp only [Bool.or_eq_true, decide_eq_true_eq] at h
    rcases h with (h | h) | h
    · exact .inl ⟨i, j, rfl, rfl, .inl h, q _ fun _ => .int _⟩
    · exact .inl ⟨i, j, rfl, rfl, .inr h, q _ fun _ => .int _⟩
    · exact .inr ⟨i, j, rfl, rfl, h, q _ fun _ => .int _⟩
  · rw [if_neg h] at e
    cases e
def divOk (j : Int) : Bool := (j != 0 && decide (j.natAbs < 1073741824)) || (decide (0 < j) && decide (j.natAbs.log2 < 9000))
def aFdv := ii fun i j => if divOk j then some (.int (i.fdiv j)) else none
theorem fdv_ii (K : PySem.W.Frag) : OpD K (fun x y H Q => rI CDivN (fun i j => .int (i.fdiv j)) x y H Q ∨ rI CDivW (fun i j => .int (i / j)) x y H Q) aFdv := opd_ii fun i j d H Q e q => by
  by_cases h : divOk j = true
  · rw [if_pos h] at e
    cases e
    unfold divOk at h
    simp only [Bool.or_eq_true, Bool.and_eq_true, decide_eq_true_eq, bne_iff_ne] at h
    rcases h with h | h
    · exact .inl ⟨i, j, rfl, rfl, h, q _ fun _ => .int _⟩
    · refine .inr ⟨i, j, rfl, rfl, h, ?_⟩
      have e : i.fdiv j = i / j := Int.fdiv_eq_ediv_of_nonneg i (Int.le_of_lt h.1)
      show Q (.int (i / j)) H
      rw [← e]
      exact q _ fun _ => .int _
  · rw [if_neg h] at e
    cases e
def aMod := ii fun i j => if j = 0 then none else some (.int (i.fmod j))
theorem mod_ii (K : PySem.W.Frag) : OpD K (rI (fun _ j => j ≠ 0) fun i j => .int (i.fmod j)) aMod := opd_ii fun i j d H Q e q => by
  by_cases h : j = 0
  · rw [if_pos h] at e
    cases e
  · rw [if_neg h] at e
    cases e
    exact ⟨i, j, rfl, rfl, h, q _ fun _ => .int _⟩
def powOk (i j : Int) : Bool := decide (0 ≤ j) && decide ((Builtin.Int.intBits i : Int) * j ≤ 2 ^ 27)
def aPow := ii fun i j => if powOk i j then some (.int (i ^ j.toNat)) else none
theorem op_powB {X : Cx} : OpR X (binaryOp .Pow) (rI (fun i j => powOk i j = true) fun i j => .int (i ^ j.toNat)) := by
  rintro pins s σ H x y v u Q I rx ry ⟨i, j, rfl, rfl, c, q⟩
  obtain ⟨t, rfl⟩ := rx
  obtain ⟨t', rfl⟩ := ry
  unfold powOk at c
  simp only [Bool.and_eq_true, decide_eq_true_eq] at c
  exact pow_int c.1 c.2 ⟨.int _, H, I.tok _, ⟨_, rfl⟩, q⟩
theorem pow_ii (K : PySem.W.Frag) : OpD K (rI (fun i j => powOk i j = true) fun i j => .int (i ^ j.toNat)) aPow := opd_ii fun i j d H Q e q => by
  by_cases h : powOk i j = true
  · rw [if_pos h] at e
    cases e
    exact ⟨i, j, rfl, rfl, h, q _ fun _ => .int _⟩
  · rw [if_neg h] at e
    cases e
def aLt := ii fun i j => some (.bl (decide (i < j)))
def aLe := ii fun i j => some (.bl (decide (i ≤ j)))
def aGt := ii fun i j => some (.bl (decide (j < i)))
def aGe := ii fun i j => some (.bl (decide (j ≤ i)))
theorem lt_ii (K : PySem.W.Frag) : OpD K (rI0 fun i j => .bl (decide (i < j))) aLt := opd_ii fun i j d H Q e q => by
  cases e
  exact ⟨i, j, rfl, rfl, q _ fun _ => .bl _⟩
theorem le_ii (K : PySem.W.Frag) : OpD K (rI0 fun i j => .bl (decide (i ≤ j))) aLe := opd_ii fun i j d H Q e q => by
  cases e
  exact ⟨i, j, rfl, rfl, q _ fun _ => .bl _⟩
theorem gt_ii (K : PySem.W.Frag) : OpD K (rI0 fun i j => .bl (decide (j < i))) aGt := opd_ii fun i j d H Q e q => by
  cases e
  exact ⟨i, j, rfl, rfl, q _ fun _ => .bl _⟩
theorem ge_ii (K : PySem.W.Frag) : OpD K (rI0 fun i j => .bl (decide (j ≤ i))) aGe := opd_ii fun i j d H Q e q => by
  cases e
  exact ⟨i, j, rfl, rfl, q _ fun _ => .bl _⟩
def uNeg (x : D) (h : VH) : Option (D × VH) := match x with
  | .int i => some (.int (-i), h)
  | _ => none
theorem neg_un (K : PySem.W.Frag) : UnD K (rU fun i => .int (-i)) uNeg := fun w x vx Q ok rx h => by
  cases rx with
  | int i => exact ⟨i, rfl, h w _ ok rfl (.refl w) (.int _)⟩
  | _ => exact h.elim

/-! ### tuples, lists, texts -/
def tAddT : D → D → VH → Option (D × VH) := fun x y h => match x, y with
  | .tup a, .tup b => if a.length + b.length ≤ sizeLine then some (.tup (a ++ b), h) else none
  | _, _ => none
theorem addT_opd (K : PySem.W.Frag) : OpD K (rCatA K) tAddT := fun w x y vx vy Q ok rx ry h => by
  cases rx with
  | tup hx rx =>
    cases ry with
    | tup hy ry =>
      unfold tAddT at h
      simp only at h
      rename_i a vs ds b us es
      by_cases hl : ds.length + es.length ≤ sizeLine
      · rw [if_pos hl] at h
        refine ⟨_, _, _, _, rfl, rfl, hx, hy, by rw [← rx.length, ← ry.length]; exact hl, fun e => ?_, fun e1 e2 => ?_, fun e1 e2 p hp => ?_⟩
        · subst e
          cases rx
          exact h w _ ok rfl (.refl w) (.tup hy ry)
        · subst e2
          cases ry
          rw [List.append_nil] at h
          exact h w _ ok rfl (.refl w) (.tup hx rx)
        · exact h (w.tupAt p (.tup (vs ++ us))) _ (ok.tupAt hp) rfl (Wd.ext_tupAt hp) (.tup (SqT.of upd_same) ((Wd.ext_tupAt hp).rps (rx.append ry)))
      · rw [if_neg hl] at h
        exact h.elim
    | _ => exact h.elim
  | _ => cases ry <;> exact h.elim
def tAddL : D → D → VH → Option (D × VH) := fun x y h => match x, y with
  | .ref m, .ref n => match h[m]?, h[n]? with
    | some (.lst a), some (.lst b) => if a.length + b.length ≤ sizeLine then some (.ref h.length, h ++ [.lst (a ++ b)]) else none
    | _, _ => none
  | _, _ => none
theorem addL_opd (K : PySem.W.Frag) : OpD K rCat tAddL := fun w x y vx vy Q ok rx ry h => by
  cases rx with
  | ref hm =>
    rename_i m
    cases ry with
    | ref hn =>
      rename_i n
      unfold tAddL at h
      simp only at h
      cases e1 : w.h[m]? with
      | none => rw [e1] at h; exact h.elim
      | some c1 =>
        cases e2 : w.h[n]? with
        | none => cases c1 <;> (simp only [e1, e2] at h; exact h.elim)
        | some c2 =>
          cases c1 with
          | ro _ => simp only [e1, e2] at h; exact h.elim
          | lst a =>
            cases c2 with
            | ro _ => simp only [e1, e2] at h; exact h.elim
            | lst b =>
              simp only [e1, e2] at h
              by_cases hl : a.length + b.length ≤ sizeLine
              · rw [if_pos hl] at h
                obtain ⟨us, h1, r1⟩ := ok.cell m _ e1
                obtain ⟨vs, h2, r2⟩ := ok.cell n _ e2
                refine ⟨_, _, us, vs, rfl, rfl, h1, h2, by rw [← r1.length, ← r2.length]; exact hl, fun p hp => ?_⟩
                exact h (w.newL p (a ++ b) (us ++ vs)) _ (ok.newL hp (r1.append r2)) rfl (Wd.ext_newL hp) at_newL
              · rw [if_neg hl] at h
                exact h.elim
    | _ => exact h.elim
  | _ => cases ry <;> exact h.elim
def tAddS : D → D → VH → Option (D × VH) := fun x y h => match x, y with
  | .str a, .str b => if a.length + b.length ≤ sizeLine then some (.str (a ++ b), h) else none
  | _, _ => none
theorem addS_opd (K : PySem.W.Frag) : OpD K (fun x y H Q => ∃ i j, x = .str i ∧ y = .str j ∧ i.length + j.length ≤ sizeLine ∧ Q (.str (i ++ j)) H) tAddS := fun w x y vx vy Q ok rx ry h => by
  cases rx with
  | str a =>
    cases ry with
    | str b =>
      unfold tAddS at h
      simp only at h
      by_cases hl : a.length + b.length ≤ sizeLine
      · rw [if_pos hl] at h
        exact ⟨a, b, rfl, rfl, hl, h w _ ok rfl (.refl w) (.str _)⟩
      · rw [if_neg hl] at h
        exact h.elim
    | _ => exact h.elim
  | _ => cases ry <;> exact h.elim
/-- +: ints, tuples, lists, texts -/
def dAdd : D → D → VH → Option (D × VH) := orD aAdd (orD tAddT (orD tAddL tAddS))
def orR (a b : R2) : R2 := fun x y H Q => a x y H Q ∨ b x y H Q
def rStrCat : R2 := fun x y H Q => ∃ i j, x = .str i ∧ y = .str j ∧ i.length + j.length ≤ sizeLine ∧ Q (.str (i ++ j)) H
def rAdd (K : PySem.W.Frag) : R2 := orR (rI0 fun i j => .int (i + j)) (orR (rCatA K) (orR rCat rStrCat))
theorem add_opd (K : PySem.W.Frag) : OpD K (rAdd K) dAdd := opd_orD (add_ii K) (opd_orD (addT_opd K) (opd_orD (addL_opd K) (addS_opd K)))
theorem add_opr {X : Cx} : OpR X (binaryOp .Add) (rAdd X.K) := OpR.or (op_add (X := X)) (OpR.or (op_catA (X := X)) (OpR.or (op_cat (X := X)) (op_add_str (X := X))))

/-! ### in, not in (flat things) -/
def flatD : D → Bool
  | .tup _ => false
  | .ftup _ => false
  | .dic _ _ => false
  | .ref _ => false
  | _ => true
def inWith (neg : Bool) (x y : D) (h : VH) : Option (D × VH) := match py h x, (seqOf h y).bind (pyL fun _ => none) with
  | some a, some l => if flatD x && ((seqOf h y).getD []).all flatD then some (.bl (if neg then !(l.any fun b => PyData.eqv b a) else l.any fun b => PyData.eqv b a), h) else none
  | _, _ => none

/-! ### subscripts -/
def dIx (x y : D) (h : VH) : Option (D × VH) := match y with
  | .int i => (seqOf h x).bind fun l => (atI l i).map fun d => (d, h)
  | _ => none
theorem atI_rep {K : PySem.W.Frag} {w : Wd} {ds : List D} {vs : List V} {i : Int} {d : D} (r : Rps K w ds vs) (e : atI ds i = some d) : ∃ v, atI vs i = some v ∧ Rp K w d v := by
  unfold atI at e ⊢
  rw [← RepL.length r]
  cases q : ixN ds.length i with
  | none => rw [q] at e; cases e
  | some j =>
    rw [q] at e
    obtain ⟨v, ev, rv⟩ := RepL.get r (i := j) e
    exact ⟨v, ev, rv⟩
theorem ix_opd (K : PySem.W.Frag) : OpD K (rIx K) dIx := fun w x y vx vy Q ok rx ry h => by
  cases ry with
  | int i =>
    unfold dIx at h
    simp only at h
    cases es : seqOf w.h x with
    | none => rw [es] at h; exact h.elim
    | some l =>
      rw [es] at h
      simp only [Option.bind_some] at h
      cases ea : atI l i with
      | none => rw [ea] at h; exact h.elim
      | some d =>
        rw [ea] at h
        obtain ⟨a, vs, rfl, hq, rr⟩ := seqOf_sq ok rx es
        obtain ⟨v, ev, rv⟩ := atI_rep rr ea
        have q := h w v ok rfl (.refl w) rv
        rcases hq with hq | hq
        · exact .inl ⟨a, vs, i, v, rfl, rfl, hq, ev, q⟩
        · exact .inr (.inl ⟨a, vs, i, v, rfl, rfl, hq, ev, q⟩)
  | _ => exact h.elim
end Vq

/-! Part 8: walks over tuples by enumerate; what built-ins do upon tuples; repr. -/
namespace Vq
open PySem PySem.Spec PyProof.Rows L2

/-! ### enumerate over what begins somehow -/
set_option maxHeartbeats 1000000 in
theorem meets_enum1 {v : Value} {o : Obj} {H : Heap → Prop} (B : Begins v o H) :
    Meets (Builtin.«enumerate.__new__» ⟨[.type "enumerate", v], []⟩) (fun _ R s => H s.heap ∧
      R (.ok (.ret (.ref (s.heap.push o).objs.size))) { s with heap := (s.heap.push o).push { cls := .type "enumerate", data := .fields #[.none, .bool false, .ref s.heap.objs.size, rawInt 0, .none, .none] } }) := by
  refine .of_wp fun prog w A R s h => ?_
  obtain ⟨hp, g, d, tk, os⟩ := s
  obtain ⟨h1, h⟩ := h
  have hsub := sub_enumerate
  have q1 : ∀ {A' : Around} {E : Value → Shared → Prop} {Q : Value → Shared → Prop}, Q (.ref hp.objs.size) ⟨hp.push o, g, d, tk, os⟩ →
      wpAny (model prog w) A' (pyIter v) Q E ⟨hp, g, d, tk, os⟩ := fun q => B.iter prog w _ _ ⟨hp, g, d, tk, os⟩ _ h1 q
  wp_walk using q1
  refine wpAny_stack_any fun st => wpAny_pure ?_
  split
  · rename_i c _ _ _ _ _
    cases (c == Value.type "enumerate") <;>
      (wp_walk using q1
       exact ⟨_, rfl, h⟩)
  · wp_walk using q1
    exact ⟨_, rfl, h⟩
section
variable {prog : Program} {w : World} {A : Around} {E : Value → Shared → Prop} {s : Shared}
theorem enum1_begins {v : Value} {o : Obj} {H : Heap → Prop} {Q : Value → Shared → Prop} (B : Begins v o H) (h1 : H s.heap)
    (h : ∀ h', IsEnum h' (s.heap.objs.size + 1) s.heap.objs.size 0 .none → h'.get? s.heap.objs.size = some o →
      (∀ b o, s.heap.get? b = some o → h'.get? b = some o) → Q (.ref (s.heap.objs.size + 1)) { s with heap := h' }) :
    wpAny (model prog w) A (call (.type "enumerate") [v]) Q E s := by
  refine callType_new F.called_enumerate (by decide) (F.typeCall_enumerate_1 _) (F.newCall_enumerate_1 _) (fun obj => F.args_object_init_2 obj _) F.entry_enumerate_new (meets_enum1 B) ⟨h1, ?_⟩
  have hz : (s.heap.push o).objs.size = s.heap.objs.size + 1 := Heap.size_push ..
  show _ ∧ _
  rw [hz]
  have he : IsEnum ((s.heap.push o).push { cls := .type "enumerate", data := .fields #[.none, .bool false, .ref s.heap.objs.size, rawInt 0, .none, .none] })
      (s.heap.objs.size + 1) s.heap.objs.size 0 .none := by
    have q := Heap.get?_push_size (s.heap.push o) (o := { cls := .type "enumerate", data := .fields #[.none, .bool false, .ref s.heap.objs.size, rawInt 0, .none, .none] }) rfl
    rw [hz] at q
    exact q
  exact ⟨⟨_, he, rfl⟩, h _ he (Heap.get?_push_of_some _ (Heap.get?_push_size _ B.free)) fun b o x => Heap.get?_push_of_some _ (Heap.get?_push_of_some _ x)⟩
end

/-- the tuple at a, of n items, numbered, in new pairs -/
def IteT (K : PySem.W.Frag) (a : Addr) (n : Nat) : It :=
  ⟨fun i H => ∃ xs x, SqT K H a xs ∧ xs.length = n ∧ xs[i]? = some x,
   fun i H v H' => ∃ T x, v = .ref T ∧ H T = none ∧ H' = upd H T (.tup [.int (i : Nat), x]) ∧ ∀ xs, SqT K H a xs → xs[i]? = some x,
   fun i H => ∃ xs, SqT K H a xs ∧ xs.length = n ∧ n ≤ i⟩
theorem tup_inj {X : Cx} {pins : List (Addr × Obj)} {σ : L2.St} {H : Hp} {s : Shared} {a : Addr} {xs ys : List V} (I : Inv X pins σ H s) (h : SqT X.K H a xs) (h' : SqT X.K H a ys) : xs = ys := by
  obtain ⟨its, r, ⟨o, e, _, n, d⟩, _⟩ := I.tuple h
  obtain ⟨its', r', ⟨o', e', _, n', d'⟩, _⟩ := I.tuple h'
  rw [e] at e'
  cases e'
  rw [d] at d'
  injection d' with d1 _
  have z : its = its' := by simpa using congrArg Array.toList d1
  subst z
  exact r.inj r'
theorem turn_enumT {P : Program} {w : World} {K : PySem.W.Frag} {elts : List Expr} {kk n : Nat} {tpos : Pos} (a e it : Addr) :
    Turn P w K (.Tuple elts kk tpos) (IteT K a n) [e, it] e (fun i h => (∃ old, IsEnum h e it ((i : Nat) : Int) old) ∧ h.IsTupleIter it a i ∧ e ≠ it ∧ i ≤ n) where
  mem := by simp
  obj := fun i h st b hb => by
    obtain ⟨⟨old, he⟩, ⟨o, ho, hc, hd⟩, _⟩ := st
    have e' : b = e ∨ b = it := by simpa using hb
    rcases e' with z | z
    · rw [z]
      exact ⟨_, he, fun v q => nomatch q⟩
    · rw [z]
      exact ⟨o, ho, fun v q => by rw [hd] at q; cases q⟩
  keep := fun i h h' st k => by
    obtain ⟨⟨old, he⟩, hi, hne, hn⟩ := st
    exact ⟨⟨old, k e (by simp) _ he⟩, hi.at fun o q => k it (by simp) o q, hne, hn⟩
  item := by
    intro X hP hw hK hc i pins s σ H E I hf st hg
    subst hP hw hK
    obtain ⟨⟨old, he⟩, hit, hne, hn⟩ := st
    obtain ⟨xs, x, hq, hlen, hx⟩ := hg
    obtain ⟨its, rv, p, hz⟩ := I.tuple hq
    obtain ⟨u, hu, ru⟩ := rv.get hx
    have hel : e < s.heap.objs.size := Heap.lt_size he
    have hil : it < s.heap.objs.size := by
      obtain ⟨_, q, _⟩ := hit
      exact Heap.lt_size q
    have pT : s.heap.IsTuple a its.toArray := p
    have hae : e ≠ a := by
      rintro rfl
      obtain ⟨o, eo, co, _⟩ := pT
      rw [show s.heap.get? e = _ from he] at eo
      cases eo
      injection co with z
      exact absurd z (by decide)
    have hai : a ≠ it := by
      rintro rfl
      obtain ⟨o, eo, co, _⟩ := pT
      obtain ⟨o2, e2, c2, _⟩ := hit
      rw [eo] at e2
      cases e2
      rw [co] at c2
      injection c2 with z
      exact absurd z (by decide)
    have hlt : i < its.toArray.size := by
      have := rv.length
      have := (List.getElem?_eq_some_iff.mp hx).1
      simp
      omega
    refine wpAny_pyNext_enum_itemD (Draws.tuple (show X.A.in1.handled = none from I.ok.hd hc) it a hai its.toArray) he ⟨hit, pT⟩ hlt hne (by simp [hne, hae]) fun x' h' tk hx' ho st' hT hsz hk => ?_
    have ex : x' = u := by
      have : its[i]? = some x' := by simpa using hx'
      rw [hu] at this
      exact (Option.some.inj this).symm
    subst ex
    refine ⟨_, rfl, wpAny_letOwnedTupleGo_enum (s := { s with heap := h', toks := tk + 1 }) ho fun h'' he' sb => ?_⟩
    have hT2 : h''.get? s.heap.objs.size = some { cls := .type "tuple", data := .seq #[.int i tk, x'] } := (sb.2 _ (Nat.ne_of_gt hel)).trans hT
    have new : ObjOk X.prog X.w (upd H s.heap.objs.size (.tup [.int (i : Nat), x])) h'' s.heap.objs.size (.tup [.int (i : Nat), x]) :=
      ⟨by show 2 ≤ sizeLine; decide, [.int i tk, x'], .cons ⟨_, rfl⟩ (.cons ru .nil), ⟨_, hT2, rfl, _, rfl⟩⟩
    have I1 : Inv X pins σ (upd H s.heap.objs.size (.tup [.int (i : Nat), x])) { s with heap := h'', toks := tk + 1 } :=
      I.turnedNew (ch := [e, it]) (fun b ob hb q => (sb.2 b (fun z => hb (by simp [z]))).trans (hk b ob (fun z => hb (by simp [z])) (fun z => hb (by simp [z])) q)) hf (Nat.le_refl _) new
    refine ⟨.ref s.heap.objs.size, _, I1, rfl, ⟨_, x, rfl, I.hok.fresh (Nat.le_refl _), rfl, fun ys hy => by rw [tup_inj I hy hq]; exact hx⟩, ⟨⟨x', ?_⟩, st'.1.at fun o q => (sb.2 it (Ne.symm hne)).trans q, hne, ?_⟩, fun b hb => ?_⟩
    · have e1 : ((i + 1 : Nat) : Int) = (i : Int) + 1 := by omega
      rw [e1]
      exact he'
    · have := (List.getElem?_eq_some_iff.mp hx).1
      omega
    · have hb' : b < s.heap.objs.size := by
        have e' : b = e ∨ b = it := by simpa using hb
        rcases e' with z | z
        · rw [z]; exact hel
        · rw [z]; exact hil
      rw [upd_ne (Nat.ne_of_lt hb')]
      exact (hf b hb).1
  done := by
    intro X hP hw hK hc i pins s σ H E I hf st hg
    subst hP hw hK
    obtain ⟨⟨old, he⟩, hit, hne, hn⟩ := st
    obtain ⟨xs, hq, hlen, hx⟩ := hg
    obtain ⟨its, rv, p, hz⟩ := I.tuple hq
    have pT : s.heap.IsTuple a its.toArray := p
    have hai : a ≠ it := by
      rintro rfl
      obtain ⟨o, eo, co, _⟩ := pT
      obtain ⟨o2, e2, c2, _⟩ := hit
      rw [eo] at e2
      cases e2
      rw [co] at c2
      injection c2 with z
      exact absurd z (by decide)
    have hi : its.toArray.size = i := by
      have := rv.length
      simp
      omega
    obtain ⟨f0, f1, f2, f3, f4, f5⟩ := hf it (by simp)
    exact wpAny_pyNext_enum_endD (Draws.tuple (show X.A.in1.handled = none from I.ok.hd hc) it a hai its.toArray) he (by rw [hi]; exact ⟨hit, pT⟩) fun h' eb => ⟨rfl, I.turned (t' := s.toks) (fun b o hb q => eb b o hb q) f0 f1 f3 f4 f5⟩
  self := fun A i s Q E st h => let ⟨⟨_, he⟩, _⟩ := st; wpAny_pyIter_enum he h
def iEnumT (K : PySem.W.Frag) (ta : TA) : TI := fun σ H R => ta σ H fun vs H1 => ∃ a xs, vs = [.ref a] ∧ SqT K H1 a xs ∧ R (IteT K a xs.length) H1
theorem pi_enumA {X : Cx} {e : Expr} {ta : TA} {p pos tpos : Pos} {elts : List Expr} {kk : Nat} (hg : Gl X "enumerate") (hm : X.mg "enumerate" = none) (ha : PA X [e] ta) (hs : starEach [e] X.env = [(false, eval e X.env)] := by rfl) :
    PI X (.Tuple elts kk tpos) (.Call (.Name "enumerate" p) [e] [] pos) (fun σ H R => ta σ H fun vs H1 => (∃ a xs, vs = [.ref a] ∧ SqL X.K H1 a xs ∧ R (Ite X.K a) H1) ∨ ∃ a xs, vs = [.ref a] ∧ SqT X.K H1 a xs ∧ R (IteT X.K a xs.length) H1) := by
  refine ⟨fun pins s σ H R I h => ?_⟩
  refine Call_ (ld_blt I hg hm boot_enumerate (PyProof.Rows.callWith_type1 (thn (ha.run pos pins s σ H _ I h) fun us s1 ⟨vs, H1, I1, r1, q1⟩ => ?_) hs rfl))
  rcases q1 with ⟨a, xs, ex, hq, q⟩ | ⟨a, xs, ex, hq, q⟩
  · subst ex
    cases r1 with
    | cons r rr =>
      cases rr
      cases r
      obtain ⟨its, rv, p', hz⟩ := I1.list hq
      refine call_enumerate_list p'.isList fun h' he hit hsz hk => wpAny_pyIter_enum he ?_
      have I2 : Inv X pins σ H1 { s1 with heap := h' } := I1.kept (t' := s1.toks) hk
      refine ⟨s1.heap.objs.size + 1, [s1.heap.objs.size + 1, s1.heap.objs.size], _, _, H1, rfl, I2, turn_enum a (s1.heap.objs.size + 1) s1.heap.objs.size, ⟨⟨.none, he⟩, hit, Nat.succ_ne_self _⟩, fun b hb => ?_, q⟩
      have hle : s1.heap.objs.size ≤ b := by
        rcases (show b = s1.heap.objs.size + 1 ∨ b = s1.heap.objs.size by simpa using hb) with z | z <;> rw [z]
        · exact Nat.le_add_right _ _
        · exact Nat.le_refl _
      exact I1.fpOk hle (I1.hok.fresh hle)
  · subst ex
    cases r1 with
    | cons r rr =>
      cases rr
      cases r
      obtain ⟨its, rv, p', hz⟩ := I1.tuple hq
      refine enum1_begins (begins_tuple a its.toArray) p' fun h' he hit hk => wpAny_pyIter_enum he ?_
      have I2 : Inv X pins σ H1 { s1 with heap := h' } := I1.kept (t' := s1.toks) hk
      refine ⟨s1.heap.objs.size + 1, [s1.heap.objs.size + 1, s1.heap.objs.size], _, _, H1, rfl, I2, turn_enumT (n := xs.length) a (s1.heap.objs.size + 1) s1.heap.objs.size, ⟨⟨.none, he⟩, ⟨_, hit, rfl, rfl⟩, Nat.succ_ne_self _, Nat.zero_le _⟩, fun b hb => ?_, q⟩
      have hle : s1.heap.objs.size ≤ b := by
        rcases (show b = s1.heap.objs.size + 1 ∨ b = s1.heap.objs.size by simpa using hb) with z | z <;> rw [z]
        · exact Nat.le_add_right _ _
        · exact Nat.le_refl _
      exact I1.fpOk hle (I1.hok.fresh hle)
end Vq

/-! Part 9: list(reversed(xs)), sums and extremes of tuples, repr. -/
namespace Vq
open PySem PySem.Spec PyProof.Rows L2
section
variable {prog : Program} {w : World} {A : Around} {E : Value → Shared → Prop} {s : Shared}
theorem init_rev {R : Result → Shared → Prop} {it l S : Addr} {items : Array Value} (hh : A.handled = none) (hit : s.heap.IsRevIter it l ((items.size : Int) - 1)) (hl : s.heap.IsList l items) (hne : l ≠ it) (hn : items.size ≤ sizeLine)
    (hS : s.heap.get? S = some { cls := .type "list", data := .seq #[] }) (hSi : S ≠ it) (hSl : S ≠ l)
    (hR : ∀ (h' : Heap) (tk : Nat) (acc : Array Value) (c : Nat), (∀ b o, b ≠ it → b ≠ S → s.heap.get? b = some o → h'.get? b = some o) → h'.get? S = some { cls := .type "list", dict := none, data := .seq acc c, slots := #[] } →
      ItemsOf (fun i v => items[items.size - 1 - i]? = some v) acc items.size → R (.ok (.ret .none)) { s with heap := h', toks := tk }) :
    wpAny (model prog w) A.in1 (Builtin.«list.__init__» ⟨[.ref S, .ref it], []⟩)
      (fun fin s' => match fin with | .done f => R (.ok f) s' | .again c' => c'.quiet = true ∧ codeAny (model prog w) A c' R s') (fun e s' => R (.error e) s') s := by
  have Wk := (Walks.listRev (prog := prog) (w := w) (A := A.in1) hh it l hne items).toS
  have hSf : S ∉ [it, l] := by
    simp only [List.mem_cons, List.not_mem_nil, or_false, not_or]
    exact ⟨hSi, hSl⟩
  show wpAny _ A.in1 (do let old ← Builtin.List.listItems (.ref S); Builtin.List.listUpdate (.ref S) (fun _ => #[]); letGo old.toList.reverse; Builtin.List.listExtendWith (.ref S) (.ref it) .none) _ _ s
  refine wpAny_bind ?_
  unfold Builtin.List.listItems
  refine wpAny_bind (wpAny_seqItems hS rfl (wpAny_pure ?_))
  show wpAny _ A.in1 (updateSeq S (fun _ => #[]) >>= fun _ => letGo (#[] : Array Value).toList.reverse >>= fun _ => Builtin.List.listExtendWith (.ref S) (.ref it) .none) _ _ s
  refine wpAny_bind (wpAny_updateSeq hS rfl ?_)
  have hS₂ := Heap.get?_update_self (Obj.mapSeq (fun _ => (#[] : Array Value))) hS rfl
  have oth : ∀ b o, b ≠ S → s.heap.get? b = some o → (s.heap.update S (Obj.mapSeq (fun _ => (#[] : Array Value)))).get? b = some o :=
    fun b o hb e => (Heap.get?_update_other _ _ (Ne.symm hb)).trans e
  refine wpAny_bind (wpAny_letGo ?_)
  generalize hG : s.heap.update S (Obj.mapSeq (fun _ => (#[] : Array Value))) = G at hS₂ oth ⊢
  have hit1 : G.IsRevIter it l ((items.size : Int) - 1) := hit.at fun o e => oth _ _ (Ne.symm hSi) e
  have hl1 : G.IsList l items := hl.at fun o e => oth _ _ (Ne.symm hSl) e
  have hT : ({ s with heap := G } : Shared).TypeIs (.ref it) "list_reverseiterator" := Heap.IsRevIter.typeIs (s := { s with heap := G }) hit1
  have h1 : Builtin.List.listSameRef (.ref S) (.ref it) = false := by simp [Builtin.List.listSameRef, hSi]
  unfold Builtin.List.listExtendWith
  refine wpAny_bind (wpAny_typeOf hT ?_)
  rw [if_neg (by rw [h1]; decide)]
  refine wpAny_bind (wpAny_pyIter_revIter (s := { s with heap := G }) hit1 ?_)
  refine wpAny_bind (wpAny_holding ?_)
  unfold Builtin.List.listLengthHint
  refine wpAny_bind (wpAny_specialOf hT RT.nolen_lri ?_)
  show wpAny _ A.in1 (specialOf (Value.ref it) (Str.ofString "__length_hint__") >>= _) _ _ _
  refine wpAny_bind (wpAny_specialOf hT RT.hint_lri ?_)
  generalize hid : ("list_reverseiterator.__length_hint__" : String) = id0
  wp_delta
  rw [show splitId id0 = some ("list_reverseiterator", "__length_hint__") from by subst hid; decide +kernel]
  subst hid
  refine wpAny_bind (wpAny_isInstance (b := true) hT (by rw [isSubtype_type]; kernel_rfl) ?_)
  refine wpAny_pure ?_
  rw [if_neg (by decide)]
  have e0 : ((items.size : Nat) : Int) - 1 - ((0 : Nat) : Int) = (items.size : Int) - 1 := by omega
  refine wpAny_pure ⟨plainId_quiet F.plain_extend_loop _, codeAny_extend_loopS Wk hn _ hSf _ items.size 0 _ _ _ rfl (Nat.zero_le _) ⟨Nat.zero_le _, by rw [e0]; exact hit1, hl1⟩ hS₂ (ItemsOf.nil _) fun s' acc' c' hm hS' hacc => ?_⟩
  rw [Moved.eq_with hm]
  refine hR s'.heap s'.toks acc' c' (fun b o hb hb2 e => hm.heap b o (fun hmem => ?_) (oth b o hb2 e)) hS' hacc
  rcases List.mem_cons.mp hmem with e' | hmem
  · exact hb2 e'
  · exact hb (by simpa using hmem)
theorem call_list_rev {it l : Addr} {items : Array Value} {Q : Value → Shared → Prop} (hh : A.handled = none) (hit : s.heap.IsRevIter it l ((items.size : Int) - 1)) (hl : s.heap.IsList l items) (hne : l ≠ it) (hn : items.size ≤ sizeLine)
    (hQ : ∀ (h' : Heap) (tk : Nat) (acc : Array Value) (c : Nat), (∀ b o, b ≠ it → s.heap.get? b = some o → h'.get? b = some o) → h'.get? s.heap.objs.size = some { cls := .type "list", dict := none, data := .seq acc c, slots := #[] } →
      ItemsOf (fun i v => items[items.size - 1 - i]? = some v) acc items.size → Q (.ref s.heap.objs.size) { s with heap := h', toks := tk }) :
    wpAny (model prog w) A (call (.type "list") [.ref it]) Q E s := by
  obtain ⟨oi, hoi, _⟩ := id hit
  obtain ⟨ol, hol, _⟩ := id hl
  have hSi : s.heap.objs.size ≠ it := Nat.ne_of_gt (Heap.lt_size hoi)
  have hSl : s.heap.objs.size ≠ l := Nat.ne_of_gt (Heap.lt_size hol)
  refine callType_codes (Q₁ := fun obj s₁ => obj = .ref s.heap.objs.size ∧ s₁ = { s with heap := s.heap.push { cls := .type "list", data := .seq #[] } }) F.called_list (F.typeCall_list_1 _) F.entry_list_init
    (code_list_new _ ⟨rfl, rfl⟩) fun obj s₁ h₁ => ?_
  obtain ⟨rfl, rfl⟩ := h₁
  have hS : (s.heap.push { cls := .type "list", data := .seq #[] }).get? s.heap.objs.size = some { cls := .type "list", data := .seq #[] } := Heap.get?_push_size _ rfl
  refine ⟨⟨_, hS, rfl⟩, F.args_list_init_2 _ _, init_rev (s := { s with heap := s.heap.push { cls := .type "list", data := .seq #[] } }) hh (hit.at fun o e => Heap.get?_push_of_some _ e) (hl.push _) hne hn hS hSi hSl fun h' tk acc c k e i => ?_⟩
  exact ⟨rfl, hQ h' tk acc c (fun b o hb q => k b o hb (fun z => by
    rw [z] at q
    exact absurd (Heap.lt_size q) (Nat.lt_irrefl _)) (Heap.get?_push_of_some _ q)) e i⟩
end

theorem vals_reverse : ∀ {xs : List V} {us : List Value}, Vals xs us → Vals xs.reverse us.reverse
  | _, _, .nil => .nil
  | _, _, .cons h t => by
    simp only [List.reverse_cons]
    exact (vals_reverse t).append (.cons h .nil)
section
variable {X : Cx} {e : Expr} {ta : TA} {p p2 pos pos2 : Pos}
/-- list(reversed(e)) -/
def tLRev (K : PySem.W.Frag) (ta : TA) : TE := fun σ H Q => ta σ H fun vs H1 => ∃ a xs, vs = [.ref a] ∧ SqL K H1 a xs ∧ ∀ q, H1 q = none → Q (.ref q) (upd H1 q (.lst xs.reverse))
theorem pe_listRev (hc : X.calm = true) (ha : PA X [e] ta) (hg : Gl X "list") (hm : X.mg "list" = none) (hg2 : Gl X "reversed") (hm2 : X.mg "reversed" = none)
    (hs1 : starEach [Expr.Call (.Name "reversed" p2) [e] [] pos2] X.env = [(false, eval (Expr.Call (.Name "reversed" p2) [e] [] pos2) X.env)] := by rfl)
    (hs : starEach [e] X.env = [(false, eval e X.env)] := by rfl) :
    PE X (.Call (.Name "list" p) [.Call (.Name "reversed" p2) [e] [] pos2] [] pos) (tLRev X.K ta) := by
  refine ⟨fun pins s σ H Q I h => ?_⟩
  refine Call_ (ld_blt I hg hm (u := .type "list") (by decide +kernel) (PyProof.Rows.callWith_type1 ?_ hs1 rfl))
  rw [hs1]
  refine Calls.spliced_cons (Call_ (ld_blt I hg2 hm2 (u := .type "reversed") (by decide +kernel) (PyProof.Rows.callWith_type1 (thn (ha.run pos2 pins s σ H _ I h) fun us s1 ⟨vs, H1, I1, r1, q1⟩ => ?_) hs rfl)))
  obtain ⟨a, xs, ex, hq, q⟩ := q1
  subst ex
  cases r1 with
  | cons r rr =>
    cases rr
    cases r
    obtain ⟨its, rv, p', hz⟩ := I1.list hq
    have hl := rv.length
    refine call_reversed_list p'.isList (Calls.spliced_nil ?_)
    have kp : ∀ b u, s1.heap.get? b = some u → (s1.heap.push (revObj a ((its.toArray.size : Int) - 1))).get? b = some u := fun b u z => Heap.get?_push_of_some _ z
    have I2 : Inv X pins σ H1 { s1 with heap := s1.heap.push (revObj a ((its.toArray.size : Int) - 1)) } := I1.kept (t' := s1.toks) kp
    have ne : a ≠ s1.heap.objs.size := by
      obtain ⟨o, z, _⟩ := p'.isList
      exact Nat.ne_of_lt (Heap.lt_size z)
    have F : FpOk X pins H1 s1.heap.objs.size := I1.fpOk (Nat.le_refl _) (I1.hok.fresh (Nat.le_refl _))
    refine call_list_rev (s := { s1 with heap := s1.heap.push (revObj a ((its.toArray.size : Int) - 1)) }) (it := s1.heap.objs.size) (l := a) (items := its.toArray) (I1.ok.hd hc) ⟨_, Heap.get?_push_size _ rfl, rfl, rfl⟩ (p'.isList.push _) ne (by simp; omega)
      fun h' tk acc c k en ie => ?_
    have eacc : acc.toList = its.reverse := by
      apply List.ext_getElem?
      intro j
      by_cases hj : j < its.length
      · have hj' : j < acc.size := by
          have := ie.1
          simp at this
          omega
        have z := ie.2 j acc[j] (by simp [hj'])
        rw [Array.getElem?_toList, Array.getElem?_eq_getElem hj', List.getElem?_reverse hj]
        rw [← z]
        simp
      · rw [List.getElem?_eq_none (by have := ie.1; simp at this; simp; omega), List.getElem?_eq_none (by simp; omega)]
    have hfresh : H1 (s1.heap.push (revObj a ((its.toArray.size : Int) - 1))).objs.size = none := I2.hok.fresh (Nat.le_refl _)
    refine ⟨.ref (s1.heap.push (revObj a ((its.toArray.size : Int) - 1))).objs.size, upd H1 (s1.heap.push (revObj a ((its.toArray.size : Int) - 1))).objs.size (.lst xs.reverse), I2.turnedNew (h' := h') (t' := tk) (ch := [s1.heap.objs.size]) (fun b o hb z => k b o (by simpa using hb) z) (fun b hb => ?_) (Nat.le_refl _) ?_, rfl, q _ hfresh⟩
    · rw [show b = s1.heap.objs.size by simpa using hb]
      exact F
    · refine ⟨by rw [List.length_reverse]; exact hz, its.reverse, c, ?_, ?_⟩
      · exact vals_reverse rv
      · rw [← eacc]
        simpa using en
end

/-! ### sums and extremes of tuples -/
section
variable {prog : Program} {w : World} {A : Around} {E : Value → Shared → Prop} {s : Shared}
theorem ext_old {o : Obj} {h' : Heap} (hk : ∀ b u, b ∉ [s.heap.objs.size] → (s.heap.push o).get? b = some u → h'.get? b = some u) : ∀ b u, s.heap.get? b = some u → h'.get? b = some u := fun b u e =>
  hk b u (fun z => by
    have z' : b = s.heap.objs.size := by simpa using z
    rw [z'] at e
    exact Nat.lt_irrefl _ (Heap.lt_size e)) (Heap.get?_push_of_some _ e)
theorem ints_pack {us : List Value} {ns : List Int} (hi : IntsAre us ns) : ∃ xs : Array (Int × Tok), us.toArray = intItems xs ∧ xs.toList.map (·.1) = ns := by
  induction hi with
  | nil => exact ⟨#[], by simp [intItems], rfl⟩
  | cons n t r ih =>
    obtain ⟨xs, e1, e2⟩ := ih
    refine ⟨#[(n, t)] ++ xs, ?_, by simp [e2]⟩
    apply Array.toList_inj.mp
    have e3 := congrArg Array.toList e1
    simp [intItems] at e3 ⊢
    exact e3
theorem ext_tuple {id : String} {l : Addr} {us : List Value} {ns : List Int} {Q : Value → Shared → Prop} (hh : A.handled = none) (hl : s.heap.IsTuple l us.toArray) (hi : IntsAre us ns) (hne : ns ≠ [])
    (hid : id = "max" ∧ (∀ M h' tk t', M ∈ ns → (∀ a, a ∈ ns → a ≤ M) → (∀ b o, s.heap.get? b = some o → h'.get? b = some o) → Q (.int M t') { s with heap := h', toks := tk }) ∨
      id = "min" ∧ (∀ M h' tk t', M ∈ ns → (∀ a, a ∈ ns → M ≤ a) → (∀ b o, s.heap.get? b = some o → h'.get? b = some o) → Q (.int M t') { s with heap := h', toks := tk })) :
    wpAny (model prog w) A (call (.builtin id) [.ref l]) Q E s := by
  obtain ⟨xs, e1, e2⟩ := ints_pack hi
  rw [e1] at hl
  have hsz : 0 < xs.size := by
    have : ns.length = xs.size := by rw [← e2]; simp
    have : ns.length ≠ 0 := by simpa using hne
    omega
  have hlt : l < s.heap.objs.size := by
    obtain ⟨_, z, _⟩ := hl
    exact Heap.lt_size z
  have low : ∀ b ∈ [s.heap.objs.size, l], b < (s.heap.push { cls := .type "tuple_iterator", data := .fields #[.ref l, .int 0 0] }).objs.size := fun b hb => by
    rw [Heap.size_push]
    rcases (show b = s.heap.objs.size ∨ b = l by simpa using hb) with z | z <;> rw [z]
    · exact Nat.lt_succ_self _
    · exact Nat.lt_succ_of_lt hlt
  have hit : (s.heap.push { cls := .type "tuple_iterator", data := .fields #[.ref l, .int 0 0] }).IsTupleIter s.heap.objs.size l 0 := ⟨_, Heap.get?_push_size _ rfl, rfl, rfl⟩
  rcases hid with ⟨rfl, h⟩ | ⟨rfl, h⟩
  · refine call_max_walk (wpAny_pyIter_tuple hl ?_)
    refine ⟨_, _, _, _, _, _, _, rfl, Walks.tuple (A := A.in1) hh _ l (Nat.ne_of_lt hlt) (intItems xs), ⟨hit, hl.push _⟩, low, by simpa [intItems] using hsz, CmpOf.ints_gt (numAt xs) (fun _ _ => intItems_at), fun v h' tk hP hk => ?_⟩
    obtain ⟨t, rfl⟩ := intItems_at hP
    obtain ⟨g1, g2⟩ := argBest_gt (numAt xs) (xs.size - 1)
    have sz : (intItems xs).size = xs.size := by simp [intItems]
    rw [sz]
    refine h _ h' tk t ?_ (fun a ha => ?_) (ext_old hk)
    · rw [← e2, numAt_eq]
      exact PySem.getD_mem (by rw [List.length_map, Array.length_toList]; omega)
    · rw [← e2] at ha
      obtain ⟨j, hj, rfl⟩ := mem_getD ha
      rw [List.length_map, Array.length_toList] at hj
      rw [← numAt_eq]
      exact g2 j (by omega)
  · refine call_min_walk (wpAny_pyIter_tuple hl ?_)
    refine ⟨_, _, _, _, _, _, _, rfl, Walks.tuple (A := A.in1) hh _ l (Nat.ne_of_lt hlt) (intItems xs), ⟨hit, hl.push _⟩, low, by simpa [intItems] using hsz, CmpOf.ints_lt (numAt xs) (fun _ _ => intItems_at), fun v h' tk hP hk => ?_⟩
    obtain ⟨t, rfl⟩ := intItems_at hP
    obtain ⟨g1, g2⟩ := argBest_lt (numAt xs) (xs.size - 1)
    have sz : (intItems xs).size = xs.size := by simp [intItems]
    rw [sz]
    refine h _ h' tk t ?_ (fun a ha => ?_) (ext_old hk)
    · rw [← e2, numAt_eq]
      exact PySem.getD_mem (by rw [List.length_map, Array.length_toList]; omega)
    · rw [← e2] at ha
      obtain ⟨j, hj, rfl⟩ := mem_getD ha
      rw [List.length_map, Array.length_toList] at hj
      rw [← numAt_eq]
      exact g2 j (by omega)
theorem preSum_getD (ns : List Int) : ∀ j, preSum (fun i => ns.getD i 0) j = (ns.take j).sum
  | 0 => rfl
  | j + 1 => by
    rw [preSum, preSum_getD ns j]
    by_cases h : j < ns.length
    · rw [List.take_succ, List.sum_append]
      simp [h]
    · rw [List.take_of_length_le (by omega), List.take_of_length_le (by omega)]
      simp [List.getD, List.getElem?_eq_none (show ns.length ≤ j by omega)]
theorem sum_tuple {l : Addr} {us : List Value} {ns : List Int} {Q : Value → Shared → Prop} (hh : A.handled = none) (hl : s.heap.IsTuple l us.toArray) (hi : IntsAre us ns)
    (h : ∀ h' tk t, (∀ b o, s.heap.get? b = some o → h'.get? b = some o) → Q (.int ns.sum t) { s with heap := h', toks := tk }) :
    wpAny (model prog w) A (call (.builtin "sum") [.ref l]) Q E s := by
  refine call_sum_walkAnyS (PySem.W.iter_tupleW (A := A.in1) hh hl fun s₂ e W st hfp hw hk => ?_)
  refine ⟨_, _, _, _, _, _, _, fun i => ns.getD i 0, rfl, W, st, hfp, fun i v q => ?_, fun s' t' m => ?_⟩
  · have q' : us[i]? = some v := by simpa using q
    clear q W hl h st
    induction hi generalizing i with
    | nil => simp at q'
    | cons n t r ih =>
      cases i with
      | zero =>
        simp at q'
        subst q'
        exact ⟨t, rfl⟩
      | succ i =>
        simp at q'
        simpa using ih i q'
  · obtain ⟨h', tk, rfl, hk'⟩ := PySem.W.moved_old e rfl m
    have e2 : preSum (fun i => ns.getD i 0) us.toArray.size = ns.sum := by
      rw [preSum_getD]
      have := hi.length
      rw [List.take_of_length_le (by simp; omega)]
    rw [e2]
    exact h h' tk t' hk'
end
end Vq

/-! Part 10: iterables; built-ins, methods, stores and slices by values. -/
namespace Vq
open PySem PySem.Spec PyProof.Rows L2

/-! ### what arguments are -/
def intD : D → Option Int
  | .int i => some i
  | _ => none
def one : List D → Option D
  | [d] => some d
  | _ => none
def two : List D → Option (D × D)
  | [d, e] => some (d, e)
  | _ => none
def int1 (l : List D) : Option Int := (one l).bind intD
def int2 (l : List D) : Option (Int × Int) := (two l).bind fun p => (intD p.1).bind fun i => (intD p.2).map fun j => (i, j)
def int3 : List D → Option (Int × Int × Int)
  | [.int i, .int j, .int k] => some (i, j, k)
  | _ => none
section
variable {K : PySem.W.Frag} {w : Wd}
theorem intD_rp {d : D} {v : V} {i : Int} (r : Rp K w d v) (e : intD d = some i) : d = .int i ∧ v = .int i := by
  cases r with
  | int j => cases e; exact ⟨rfl, rfl⟩
  | _ => cases e
theorem one_rps {ds : List D} {vs : List V} {d : D} (r : Rps K w ds vs) (e : one ds = some d) : ∃ v, ds = [d] ∧ vs = [v] ∧ Rp K w d v := by
  cases r with
  | nil => cases e
  | cons r rr =>
    cases rr with
    | nil => cases e; exact ⟨_, rfl, rfl, r⟩
    | cons _ _ => cases e
theorem two_rps {ds : List D} {vs : List V} {p : D × D} (r : Rps K w ds vs) (e : two ds = some p) : ∃ v u, ds = [p.1, p.2] ∧ vs = [v, u] ∧ Rp K w p.1 v ∧ Rp K w p.2 u := by
  cases r with
  | nil => cases e
  | cons r rr =>
    cases rr with
    | nil => cases e
    | cons r2 rr =>
      cases rr with
      | nil => cases e; exact ⟨_, _, rfl, rfl, r, r2⟩
      | cons _ _ => cases e
theorem int1_rps {ds : List D} {vs : List V} {i : Int} (r : Rps K w ds vs) (e : int1 ds = some i) : vs = [.int i] := by
  obtain ⟨d, e1, e2⟩ := Option.bind_eq_some_iff.mp e
  obtain ⟨v, _, rfl, r'⟩ := one_rps r e1
  rw [(intD_rp r' e2).2]
theorem int2_rps {ds : List D} {vs : List V} {p : Int × Int} (r : Rps K w ds vs) (e : int2 ds = some p) : vs = [.int p.1, .int p.2] := by
  obtain ⟨d, e1, e2⟩ := Option.bind_eq_some_iff.mp e
  obtain ⟨i, e3, e4⟩ := Option.bind_eq_some_iff.mp e2
  obtain ⟨j, e5, rfl⟩ := Option.map_eq_some_iff.mp e4
  obtain ⟨v, u, _, rfl, r1, r2⟩ := two_rps r e1
  rw [(intD_rp r1 e3).2, (intD_rp r2 e5).2]
theorem int3_rps {ds : List D} {vs : List V} {p : Int × Int × Int} (r : Rps K w ds vs) (e : int3 ds = some p) : vs = [.int p.1, .int p.2.1, .int p.2.2] := by
  unfold int3 at e
  split at e
  · cases e
    cases r with
    | cons a r =>
      cases r with
      | cons b r =>
        cases r with
        | cons c r =>
          cases r
          cases a
          cases b
          cases c
          rfl
  · cases e
end

/-! ### iterables -/
section
variable {X : Cx} {W : WX}
def srcOf (d : D) : Option (VH → Option (List D)) := match d with
  | .tup l => some fun _ => some l
  | .ref n => some fun h => lk h n
  | _ => none
def vIt (f : VE) : VI := fun s h => (f s h).bind fun p => match srcOf p.1 with
  | some src => .ok (src, p.2)
  | none => .bad
theorem PI_or {tg e : Expr} {a b : TI} (h : PI X tg e a) (h' : PI X tg e b) : PI X tg e (fun σ H R => a σ H R ∨ b σ H R) := ⟨fun pins s σ H R I q => q.elim (h.run pins s σ H R I) (h'.run pins s σ H R I)⟩
theorem walks_lst {K : PySem.W.Frag} {w : Wd} {n : Nat} (hn : n < w.h.length) : Walks K w (Itl K (w.ι n)) (fun h => lk h n) := fun w' i ys x ok e => by
  obtain ⟨vs, h1, h2⟩ := lk_sq ok e
  rw [x.ι n hn] at h1
  refine ⟨fun q => ⟨vs, h1, by rw [← RepL.length h2]; exact List.getElem?_eq_none_iff.mp q⟩, fun d ed => ?_⟩
  obtain ⟨v, ev, rv⟩ := RepL.get h2 ed
  refine ⟨⟨vs, v, h1, ev⟩, fun x' H' ⟨eH, ex⟩ => ⟨w', eH.symm, rfl, ok, .refl w', ?_⟩⟩
  have z := ex vs h1
  rw [ev] at z
  cases z
  exact rv
/-- for x in e: a list or a tuple -/
theorem qIt {tg e : Expr} {f : VE} (he : PE X e (gE X W f)) : PI X tg e (gI X W (vIt f)) :=
  PIw (PI_or (pi_list he) (pi_tup he)) fun σ H R ⟨w, s, hH, ok, sl, hp⟩ => by
    subst hH
    unfold vIt at hp
    cases e1 : f s w.h with
    | bad => rw [e1] at hp; exact hp.elim
    | ex x s' h' => rw [e1] at hp; exact .inl ⟨w, s, rfl, ok, sl, by rw [e1]; exact hp⟩
    | ok p =>
      obtain ⟨d, h1⟩ := p
      rw [e1] at hp
      simp only [Res.ok_bind] at hp
      cases d with
      | tup ds =>
        refine .inr ⟨w, s, rfl, ok, sl, ?_⟩
        rw [e1]
        intro w1 v ok1 eh x1 r1
        have r1' : RepV X.K w1.ι w1.h.length w1.H (.tup ds) v := r1
        cases r1' with
        | @tup a vs _ hq rr =>
          refine ⟨a, rfl, ⟨vs, hq⟩, hp w1 _ ok1 eh x1 fun w' i ys x' ok' e' => ?_⟩
          cases e'
          have h' := x'.tup _ _ hq
          refine ⟨fun n => ⟨vs, h', by rw [← RepL.length rr]; exact List.getElem?_eq_none_iff.mp n⟩, fun d ed => ?_⟩
          obtain ⟨v, ev, rv⟩ := (x'.rps rr).get ed
          refine ⟨⟨vs, v, h', ev⟩, fun x2 H' ⟨eH, ex⟩ => ⟨w', eH.symm, rfl, ok', .refl w', ?_⟩⟩
          have z := ex vs h'
          rw [ev] at z
          cases z
          exact rv
      | ref n =>
        refine .inl ⟨w, s, rfl, ok, sl, ?_⟩
        rw [e1]
        intro w1 v ok1 eh x1 r1
        have r1' : RepV X.K w1.ι w1.h.length w1.H (.ref n) v := r1
        cases r1' with
        | ref hn =>
          have : ∃ ds, lk w1.h n = some ds := by
            unfold lk
            rw [List.getElem?_eq_getElem hn]
            cases w1.h[n] <;> exact ⟨_, rfl⟩
          obtain ⟨ds, eds⟩ := this
          obtain ⟨vs, h1, h2⟩ := lk_sq ok1 eds
          exact ⟨_, rfl, ⟨vs, h1⟩, hp w1 _ ok1 eh x1 (walks_lst hn)⟩
      | _ => exact hp.elim

def rangeD (lo c : Int) (n : Nat) : List D := (List.range n).map fun (k : Nat) => D.int (lo + (k : Int) * c)
theorem rangeD_length (lo c : Int) (n : Nat) : (rangeD lo c n).length = n := by simp [rangeD]
theorem rangeD_get (lo c : Int) (n i : Nat) : (rangeD lo c n)[i]? = if i < n then some (.int (lo + (i : Int) * c)) else none := by
  unfold rangeD
  rw [List.getElem?_map]
  by_cases h : i < n
  · rw [if_pos h, List.getElem?_range h]; rfl
  · rw [if_neg h, List.getElem?_eq_none (by simpa using Nat.le_of_not_lt h)]; rfl
theorem walks_rng {K : PySem.W.Frag} {w : Wd} (lo : Int) (n : Nat) : Walks K w (Itr lo n) (fun _ => some (rangeD lo 1 n)) := fun w' i ys x ok e => by
  cases e
  refine ⟨fun q => by have z := List.getElem?_eq_none_iff.mp q; rw [rangeD_length] at z; exact z, fun d ed => ?_⟩
  rw [rangeD_get] at ed
  by_cases h : i < n
  · rw [if_pos h] at ed
    cases ed
    refine ⟨h, fun x' H' ⟨eH, ex⟩ => ⟨w', eH.symm, rfl, ok, .refl w', ?_⟩⟩
    rw [ex, Int.mul_one]
    exact .int _
  · rw [if_neg h] at ed
    cases ed
theorem walks_rngc {K : PySem.W.Frag} {w : Wd} (lo c : Int) (n : Nat) : Walks K w (Itc lo c n) (fun _ => some (rangeD lo c n)) := fun w' i ys x ok e => by
  cases e
  refine ⟨fun q => by have z := List.getElem?_eq_none_iff.mp q; rw [rangeD_length] at z; exact z, fun d ed => ?_⟩
  rw [rangeD_get] at ed
  by_cases h : i < n
  · rw [if_pos h] at ed
    cases ed
    refine ⟨h, fun x' H' ⟨eH, ex⟩ => ⟨w', eH.symm, rfl, ok, .refl w', ?_⟩⟩
    rw [ex]
    exact .int _
  · rw [if_neg h] at ed
    cases ed
def inRng (i : Int) : Bool := decide (-(2 ^ 62) ≤ i ∧ i < 2 ^ 62)
def vRng1 (a : VA) : VI := fun s h => (a s h).bind fun p => match int1 p.1 with
  | some j => if inRng j = true then .ok (fun _ => some (rangeD 0 1 j.toNat), p.2) else .bad
  | none => .bad
def vRng2 (a : VA) : VI := fun s h => (a s h).bind fun p => match int2 p.1 with
  | some (i, j) => if (inRng i && inRng j) = true then .ok (fun _ => some (rangeD i 1 (j - i).toNat), p.2) else .bad
  | none => .bad
def rgcB (i j c : Int) : Bool := c != 0 && decide (c.natAbs < 1073741824) && Builtin.Range.small i j c && decide (0 ≤ Builtin.Range.rangeSize i j c)
def vRng3 (a : VA) : VI := fun s h => (a s h).bind fun p => match int3 p.1 with
  | some (i, j, c) => if rgcB i j c = true then .ok (fun _ => some (rangeD i c (Builtin.Range.rangeSize i j c).toNat), p.2) else .bad
  | none => .bad
theorem qRng1 {tg a : Expr} {p pos : Pos} {g : VA} (hm : X.mg "range" = none) (ha : PA X [a] (gA X W g)) (hg : Gl X "range" := by rfl) (hs : starEach [a] X.env = [(false, eval a X.env)] := by rfl) : PI X tg (.Call (.Name "range" p) [a] [] pos) (gI X W (vRng1 g)) :=
  PIw (pi_range1 hg hm ha hs) fun σ H R ⟨w, s, hH, ok, sl, hp⟩ => by
    subst hH
    refine gA.seq ok sl (wI w R) hp fun ds w1 vs ok1 x1 sl1 r1 hp1 => ?_
    simp only at hp1
    cases e : int1 ds with
    | none => rw [e] at hp1; exact hp1.elim
    | some j =>
      rw [e] at hp1
      simp only at hp1
      by_cases h : inRng j = true
      · rw [if_pos h] at hp1
        have h' : -(2 ^ 62) ≤ j ∧ j < 2 ^ 62 := by simpa [inRng] using h
        exact ⟨j, int1_rps r1 e, h'.1, h'.2, hp1 w1 _ ok1 rfl x1 (walks_rng 0 j.toNat)⟩
      · rw [if_neg h] at hp1
        exact hp1.elim
theorem qRng2 {tg a b : Expr} {p pos : Pos} {g : VA} (hm : X.mg "range" = none) (ha : PA X [a, b] (gA X W g)) (hg : Gl X "range" := by rfl) (hs : starEach [a, b] X.env = [(false, eval a X.env), (false, eval b X.env)] := by rfl) (hs2 : starEach [b] X.env = [(false, eval b X.env)] := by rfl) :
    PI X tg (.Call (.Name "range" p) [a, b] [] pos) (gI X W (vRng2 g)) :=
  PIw (pi_range2 hg hm ha hs hs2) fun σ H R ⟨w, s, hH, ok, sl, hp⟩ => by
    subst hH
    refine gA.seq ok sl (wI w R) hp fun ds w1 vs ok1 x1 sl1 r1 hp1 => ?_
    simp only at hp1
    cases e : int2 ds with
    | none => rw [e] at hp1; exact hp1.elim
    | some q =>
      obtain ⟨i, j⟩ := q
      rw [e] at hp1
      simp only at hp1
      by_cases h : (inRng i && inRng j) = true
      · rw [if_pos h] at hp1
        have h' : (-(2 ^ 62) ≤ i ∧ i < 2 ^ 62) ∧ -(2 ^ 62) ≤ j ∧ j < 2 ^ 62 := by simpa [inRng] using h
        exact ⟨i, j, int2_rps r1 e, ⟨h'.1.1, h'.1.2, h'.2.1, h'.2.2⟩, hp1 w1 _ ok1 rfl x1 (walks_rng i _)⟩
      · rw [if_neg h] at hp1
        exact hp1.elim
theorem qRng3 {tg a b c : Expr} {p pos : Pos} {g : VA} (hm : X.mg "range" = none) (ha : PA X [a, b, c] (gA X W g)) (h : ∀ t, PA X [a, b, c] t → PI X tg (.Call (.Name "range" p) [a, b, c] [] pos) (iRng3 t)) :
    PI X tg (.Call (.Name "range" p) [a, b, c] [] pos) (gI X W (vRng3 g)) :=
  PIw (h _ ha) fun σ H R ⟨w, s, hH, ok, sl, hp⟩ => by
    subst hH
    refine gA.seq ok sl (wI w R) hp fun ds w1 vs ok1 x1 sl1 r1 hp1 => ?_
    simp only at hp1
    cases e : int3 ds with
    | none => rw [e] at hp1; exact hp1.elim
    | some q =>
      obtain ⟨i, j, c⟩ := q
      rw [e] at hp1
      simp only at hp1
      by_cases h : rgcB i j c = true
      · rw [if_pos h] at hp1
        simp only [rgcB, Bool.and_eq_true, bne_iff_ne, decide_eq_true_eq] at h
        exact ⟨i, j, c, _, int3_rps r1 e, ⟨h.1.1.1, h.1.1.2, h.1.2, (Int.toNat_of_nonneg h.2).symm⟩, hp1 w1 _ ok1 rfl x1 (walks_rngc i c _)⟩
      · rw [if_neg h] at hp1
        exact hp1.elim

/-- numbered items -/
def enumD (l : List D) : List D := l.zipIdx.map fun p => .tup [.int (p.2 : Int), p.1]
theorem enumD_get (l : List D) (i : Nat) : (enumD l)[i]? = (l[i]?).map fun d => D.tup [.int (i : Int), d] := by
  unfold enumD
  rw [List.getElem?_map, List.getElem?_zipIdx]
  cases l[i]? <;> simp
theorem yields_pair {K : PySem.W.Frag} {w : Wd} (ok : w.Ok K) {T : Addr} {a b : D} {va vb : V} (hT : w.H T = none) (ra : Rp K w a va) (rb : Rp K w b vb) :
    ∃ w', w'.H = upd w.H T (.tup [va, vb]) ∧ w'.h = w.h ∧ w'.Ok K ∧ Wd.Ext K w w' ∧ Rp K w' (.tup [a, b]) (.ref T) :=
  ⟨w.tupAt T (.tup [va, vb]), rfl, rfl, ok.tupAt hT, Wd.ext_tupAt hT, .tup (SqT.of upd_same) (.cons ((Wd.ext_tupAt hT).rp ra) (.cons ((Wd.ext_tupAt hT).rp rb) .nil))⟩
def vEnum (a : VA) : VI := fun s h => (a s h).bind fun p => match (one p.1).bind srcOf with
  | some src => .ok (fun h => (src h).map enumD, p.2)
  | none => .bad
theorem qEnum {elts : List Expr} {e : Expr} {kk : Nat} {p pos tpos : Pos} {g : VA} (hm : X.mg "enumerate" = none) (ha : PA X [e] (gA X W g)) (hg : Gl X "enumerate" := by rfl) (hs : starEach [e] X.env = [(false, eval e X.env)] := by rfl) :
    PI X (.Tuple elts kk tpos) (.Call (.Name "enumerate" p) [e] [] pos) (gI X W (vEnum g)) :=
  PIw (pi_enumA hg hm ha hs) fun σ H R ⟨w, s, hH, ok, sl, hp⟩ => by
    subst hH
    refine gA.seq ok sl (wI w R) hp fun ds w1 vs ok1 x1 sl1 r1 hp1 => ?_
    simp only at hp1
    cases e : one ds with
    | none => rw [e] at hp1; exact hp1.elim
    | some d =>
      obtain ⟨v, _, rfl, rd⟩ := one_rps r1 e
      rw [e] at hp1
      simp only [Option.bind_some] at hp1
      cases rd with
      | @tup a vs xs hq rr =>
        refine .inr ⟨a, vs, rfl, hq, hp1 w1 _ ok1 rfl x1 fun w' i ys x ok' e' => ?_⟩
        cases e'
        have h' := x.tup _ _ hq
        rw [enumD_get]
        refine ⟨fun q => ⟨vs, h', rfl, ?_⟩, fun d ed => ?_⟩
        · rw [← RepL.length rr]
          cases z : xs[i]? with
          | none => exact List.getElem?_eq_none_iff.mp z
          | some _ => rw [z] at q; cases q
        · obtain ⟨d0, z, rfl⟩ := Option.map_eq_some_iff.mp ed
          obtain ⟨v, ev, rv⟩ := (x.rps rr).get z
          refine ⟨⟨vs, v, h', rfl, ev⟩, fun x2 H' ⟨T, y, eT, hT, eH, ey⟩ => ?_⟩
          have z2 := ey vs h'
          rw [ev] at z2
          cases z2
          subst eH eT
          exact yields_pair ok' hT (.int _) rv
      | @ref n hn =>
        have : ∃ ds, lk w1.h n = some ds := by
          unfold lk
          rw [List.getElem?_eq_getElem hn]
          cases w1.h[n] <;> exact ⟨_, rfl⟩
        obtain ⟨xs, exs⟩ := this
        obtain ⟨vs, h1, h2⟩ := lk_sq ok1 exs
        refine .inl ⟨_, vs, rfl, h1, hp1 w1 _ ok1 rfl x1 fun w' i ys x ok' e' => ?_⟩
        obtain ⟨zs, ez, rfl⟩ := Option.map_eq_some_iff.mp e'
        obtain ⟨us, g1, g2⟩ := lk_sq ok' ez
        rw [x.ι n hn] at g1
        rw [enumD_get]
        refine ⟨fun q => ⟨us, g1, ?_⟩, fun d ed => ?_⟩
        · rw [← RepL.length g2]
          cases z : zs[i]? with
          | none => exact List.getElem?_eq_none_iff.mp z
          | some _ => rw [z] at q; cases q
        · obtain ⟨d0, z, rfl⟩ := Option.map_eq_some_iff.mp ed
          obtain ⟨v, ev, rv⟩ := RepL.get g2 z
          refine ⟨⟨us, v, g1, ev⟩, fun x2 H' ⟨T, y, eT, hT, eH, ey⟩ => ?_⟩
          have z2 := ey us g1
          rw [ev] at z2
          cases z2
          subst eH eT
          exact yields_pair ok' hT (.int _) rv
      | _ => exact hp1.elim

/-- two sequences side by side -/
def zipD (l m : List D) : List D := (l.zip m).map fun p => .tup [p.1, p.2]
theorem zipD_get (l m : List D) (i : Nat) : (zipD l m)[i]? = (l[i]?).bind fun a => (m[i]?).map fun b => D.tup [a, b] := by
  unfold zipD
  rw [List.getElem?_map, List.zip_eq_zipWith, List.getElem?_zipWith]
  cases l[i]? <;> cases m[i]? <;> rfl
def zipSrc (p : D × D) : Option (VH → Option (List D)) := match p.1, p.2 with
  | .tup l, .tup m => some fun _ => some (zipD l m)
  | .ref i, .ref j => some fun h => (lk h i).bind fun l => (lk h j).map fun m => zipD l m
  | _, _ => none
def vZip (a : VA) : VI := fun s h => (a s h).bind fun p => match (two p.1).bind zipSrc with
  | some src => .ok (src, p.2)
  | none => .bad
theorem qZip {elts : List Expr} {e e2 : Expr} {kk : Nat} {p pos tpos : Pos} {g : VA} (hm : X.mg "zip" = none) (ha : PA X [e, e2] (gA X W g)) (hg : Gl X "zip" := by rfl)
    (hs : starEach [e, e2] X.env = (false, eval e X.env) :: starEach [e2] X.env := by rfl) (hpl : (backTo pos (starEach [e2] X.env)).any (·.1) = false := by rfl) :
    PI X (.Tuple elts kk tpos) (.Call (.Name "zip" p) [e, e2] [] pos) (gI X W (vZip g)) :=
  PIw (RZ.pi_zipA hg hm ha hs hpl) fun σ H R ⟨w, s, hH, ok, sl, hp⟩ => by
    subst hH
    refine gA.seq ok sl (wI w R) hp fun ds w1 vs ok1 x1 sl1 r1 hp1 => ?_
    simp only at hp1
    cases e : two ds with
    | none => rw [e] at hp1; exact hp1.elim
    | some d =>
      obtain ⟨v, u, _, rfl, rd, re⟩ := two_rps r1 e
      obtain ⟨d1, d2⟩ := d
      rw [e] at hp1
      simp only [Option.bind_some] at hp1
      simp only at rd re
      cases rd with
      | @tup a vs xs hq rr =>
        cases re with
        | @tup b us ys hq2 rr2 =>
          refine ⟨a, b, vs, us, rfl, .inr ⟨hq, hq2, hp1 w1 _ ok1 rfl x1 fun w' i zs x ok' e' => ?_⟩⟩
          cases e'
          have h' := x.tup _ _ hq
          have h2 := x.tup _ _ hq2
          rw [zipD_get]
          refine ⟨fun q => ⟨vs, us, h', h2, ?_⟩, fun d ed => ?_⟩
          · rw [← RepL.length rr, ← RepL.length rr2]
            cases z : xs[i]? with
            | none => exact .inl (List.getElem?_eq_none_iff.mp z)
            | some _ =>
              cases z2 : ys[i]? with
              | none => exact .inr (List.getElem?_eq_none_iff.mp z2)
              | some _ => rw [z, z2] at q; cases q
          · obtain ⟨d0, z, ed⟩ := Option.bind_eq_some_iff.mp ed
            obtain ⟨d3, z3, rfl⟩ := Option.map_eq_some_iff.mp ed
            obtain ⟨v, ev, rv⟩ := (x.rps rr).get z
            obtain ⟨u, eu, ru⟩ := (x.rps rr2).get z3
            refine ⟨⟨vs, us, v, u, h', h2, ev, eu⟩, fun x2 H' ⟨T, y, y2, eT, hT, eH, ey, ey2⟩ => ?_⟩
            have q1 := ey vs h'
            rw [ev] at q1
            cases q1
            have q2 := ey2 us h2
            rw [eu] at q2
            cases q2
            subst eH eT
            exact yields_pair ok' hT rv ru
        | _ => exact hp1.elim
      | @ref n hn =>
        cases re with
        | @ref m hm' =>
          have ex : ∀ n, n < w1.h.length → ∃ ds, lk w1.h n = some ds := fun n hn => by
            unfold lk
            rw [List.getElem?_eq_getElem hn]
            cases w1.h[n] <;> exact ⟨_, rfl⟩
          obtain ⟨xs, exs⟩ := ex n hn
          obtain ⟨ys, eys⟩ := ex m hm'
          obtain ⟨vs, h1, h2⟩ := lk_sq ok1 exs
          obtain ⟨us, h3, h4⟩ := lk_sq ok1 eys
          refine ⟨_, _, vs, us, rfl, .inl ⟨h1, h3, hp1 w1 _ ok1 rfl x1 fun w' i zs x ok' e' => ?_⟩⟩
          obtain ⟨ls, el, e'⟩ := Option.bind_eq_some_iff.mp e'
          obtain ⟨ms, em, rfl⟩ := Option.map_eq_some_iff.mp e'
          obtain ⟨l1, g1, g2⟩ := lk_sq ok' el
          obtain ⟨m1, g3, g4⟩ := lk_sq ok' em
          rw [x.ι n hn] at g1
          rw [x.ι m hm'] at g3
          rw [zipD_get]
          refine ⟨fun q => ⟨l1, m1, g1, g3, ?_⟩, fun d ed => ?_⟩
          · rw [← RepL.length g2, ← RepL.length g4]
            cases z : ls[i]? with
            | none => exact .inl (List.getElem?_eq_none_iff.mp z)
            | some _ =>
              cases z2 : ms[i]? with
              | none => exact .inr (List.getElem?_eq_none_iff.mp z2)
              | some _ => rw [z, z2] at q; cases q
          · obtain ⟨d0, z, ed⟩ := Option.bind_eq_some_iff.mp ed
            obtain ⟨d3, z3, rfl⟩ := Option.map_eq_some_iff.mp ed
            obtain ⟨v, ev, rv⟩ := RepL.get g2 z
            obtain ⟨u, eu, ru⟩ := RepL.get g4 z3
            refine ⟨⟨l1, m1, v, u, g1, g3, ev, eu⟩, fun x2 H' ⟨T, y, y2, eT, hT, eH, ey, ey2⟩ => ?_⟩
            have q1 := ey l1 g1
            rw [ev] at q1
            cases q1
            have q2 := ey2 m1 g3
            rw [eu] at q2
            cases q2
            subst eH eT
            exact yields_pair ok' hT rv ru
        | _ => exact hp1.elim
      | _ => cases re <;> exact hp1.elim

/-! ### list(reversed(e)) -/
def vLRev (a : VA) : VE := fun s h => (a s h).bind fun p => match (one p.1) with
  | some (.ref n) => match lk p.2 n with
    | some l => .ok (.ref p.2.length, p.2 ++ [.lst l.reverse])
    | none => .bad
  | _ => .bad
theorem qLRev {e : Expr} {g : VA} {p p2 pos pos2 : Pos} (hc : X.calm = true) (hm : X.mg "list" = none) (hm2 : X.mg "reversed" = none) (ha : PA X [e] (gA X W g)) (hg : Gl X "list" := by rfl) (hg2 : Gl X "reversed" := by rfl)
    (hs1 : starEach [Expr.Call (.Name "reversed" p2) [e] [] pos2] X.env = [(false, eval (Expr.Call (.Name "reversed" p2) [e] [] pos2) X.env)] := by rfl) (hs : starEach [e] X.env = [(false, eval e X.env)] := by rfl) :
    PE X (.Call (.Name "list" p) [.Call (.Name "reversed" p2) [e] [] pos2] [] pos) (gE X W (vLRev g)) :=
  PEw (pe_listRev hc ha hg hm hg2 hm2 hs1 hs) fun σ H Q ⟨w, s, hH, ok, sl, hp⟩ => by
    subst hH
    refine gA.seq ok sl (wE w Q) hp fun ds w1 vs ok1 x1 sl1 r1 hp1 => ?_
    simp only at hp1
    cases e : one ds with
    | none => rw [e] at hp1; exact hp1.elim
    | some d =>
      obtain ⟨v, _, rfl, rd⟩ := one_rps r1 e
      rw [e] at hp1
      cases rd with
      | @ref n hn =>
        simp only at hp1
        cases el : lk w1.h n with
        | none => rw [el] at hp1; exact hp1.elim
        | some l =>
          rw [el] at hp1
          obtain ⟨us, h1, h2⟩ := lk_sq ok1 el
          exact ⟨_, us, rfl, h1, fun q hq => hp1 (w1.newL q l.reverse us.reverse) _ (ok1.newL hq h2.reverse) rfl (x1.trans (Wd.ext_newL hq)) at_newL⟩
      | _ => exact hp1.elim
end
end Vq

/-! Part 11: built-ins, methods, stores and slices by values. -/
namespace Vq
open PySem PySem.Spec PyProof.Rows L2

/-- a built-in that hands on a value and leaves the heap -/
def pureB (f : List D → VH → Option D) : List D → VH → Option (D × VH) := fun l h => (f l h).map fun d => (d, h)
theorem cd_pure {K : PySem.W.Frag} {r : List V → Hp → VK → Prop} {f : List D → VH → Option D}
    (hr : ∀ (w : Wd) (xs : List D) (vs : List V) (d : D) (Q : VK), w.Ok K → Rps K w xs vs → f xs w.h = some d → (∀ v, Rp K w d v → Q v w.H) → r vs w.H Q) : CallD K r (pureB f) := fun w xs vs Q ok rx h => by
  unfold pureB at h
  cases e : f xs w.h with
  | none => rw [e] at h; exact h.elim
  | some d =>
    rw [e] at h
    exact hr w xs vs d Q ok rx e fun v rv => h w v ok rfl (.refl w) rv

/-! ### ints in a sequence -/
def intsOf : List D → Option (List Int)
  | [] => some []
  | d :: r => (intD d).bind fun i => (intsOf r).map fun l => i :: l
@[simp] theorem intsOf_map (ns : List Int) : intsOf (ns.map D.int) = some ns := by
  induction ns with
  | nil => rfl
  | cons n r ih => simp [intsOf, intD, ih]
theorem intsOf_rps {K : PySem.W.Frag} {w : Wd} : ∀ {ds : List D} {vs : List V} {ns : List Int}, Rps K w ds vs → intsOf ds = some ns → vs = ns.map V.int
  | _, _, _, .nil, e => by cases e; rfl
  | _, _, _, .cons h r, e => by
    obtain ⟨i, e1, e⟩ := Option.bind_eq_some_iff.mp e
    obtain ⟨l, e2, rfl⟩ := Option.map_eq_some_iff.mp e
    rw [(intD_rp h e1).2, intsOf_rps r e2]
    rfl
def boolD : D → Option Bool
  | .bl b => some b
  | _ => none
def boolsOf : List D → Option (List Bool)
  | [] => some []
  | d :: r => (boolD d).bind fun i => (boolsOf r).map fun l => i :: l
@[simp] theorem boolsOf_map (ns : List Bool) : boolsOf (ns.map D.bl) = some ns := by
  induction ns with
  | nil => rfl
  | cons n r ih => simp [boolsOf, boolD, ih]
theorem boolsOf_rps {K : PySem.W.Frag} {w : Wd} : ∀ {ds : List D} {vs : List V} {ns : List Bool}, Rps K w ds vs → boolsOf ds = some ns → vs = ns.map V.bl
  | _, _, _, .nil, e => by cases e; rfl
  | _, _, _, .cons h r, e => by
    obtain ⟨i, e1, e⟩ := Option.bind_eq_some_iff.mp e
    obtain ⟨l, e2, rfl⟩ := Option.map_eq_some_iff.mp e
    cases h with
    | bl b =>
      cases e1
      rw [boolsOf_rps r e2]
      rfl
    | _ => cases e1
/-- the ints of the one argument, a list or a tuple -/
def argInts (l : List D) (h : VH) : Option (List Int) := (one l).bind fun d => (seqOf h d).bind intsOf
theorem argInts_rps {K : PySem.W.Frag} {w : Wd} {ds : List D} {vs : List V} {ns : List Int} (ok : w.Ok K) (r : Rps K w ds vs) (e : argInts ds w.h = some ns) : ∃ a, vs = [.ref a] ∧ (SqL K w.H a (ns.map V.int) ∨ SqT K w.H a (ns.map V.int)) := by
  obtain ⟨d, e1, e⟩ := Option.bind_eq_some_iff.mp e
  obtain ⟨l, e2, e3⟩ := Option.bind_eq_some_iff.mp e
  obtain ⟨v, _, rfl, rd⟩ := one_rps r e1
  obtain ⟨a, us, rfl, hq, rr⟩ := seqOf_sq ok rd e2
  rw [intsOf_rps rr e3] at hq
  exact ⟨a, rfl, hq⟩

section
variable {X : Cx}
def rSumS (K : PySem.W.Frag) : List V → Hp → VK → Prop := fun vs H Q => ∃ (a : Addr) (ns : List Int), vs = [V.ref a] ∧ (SqL K H a (ns.map V.int) ∨ SqT K H a (ns.map V.int)) ∧ Q (.int ns.sum) H
theorem cr_sumS (hc : X.calm = true) : CallR X (.builtin "sum") (rSumS X.K) := by
  rintro pins s σ H vs us Q I r ⟨a, ns, rfl, hs, q⟩
  rcases hs with hs | hs
  · exact cr_sum hc pins s σ H _ us Q I r ⟨a, ns, rfl, hs, q⟩
  · obtain ⟨its, rv, ht, _⟩ := I.tuple hs
    rw [Vals.ref1 r]
    exact sum_tuple (I.ok.hd hc) ht rv.ints fun h' tk t' hk => ⟨.int _, H, I.kept hk, ⟨_, rfl⟩, q⟩
def bSum : List D → VH → Option (D × VH) := pureB fun l h => (argInts l h).map fun ns => .int ns.sum
theorem sum_cd (K : PySem.W.Frag) : CallD K (rSumS K) bSum := cd_pure fun w xs vs d Q ok r e q => by
  obtain ⟨ns, e1, rfl⟩ := Option.map_eq_some_iff.mp e
  obtain ⟨a, rfl, hs⟩ := argInts_rps ok r e1
  exact ⟨a, ns, rfl, hs, q _ (.int _)⟩
/-- max of two, of a sequence -/
def rMaxS (K : PySem.W.Frag) : List V → Hp → VK → Prop := fun vs H Q => (∃ i j, vs = [.int i, .int j] ∧ Q (.int (if j > i then j else i)) H) ∨ ∃ (a : Addr) (ns : List Int) (m : Int), vs = [V.ref a] ∧ (SqL K H a (ns.map V.int) ∨ SqT K H a (ns.map V.int)) ∧ ns.max? = some m ∧ Q (.int m) H
def rMinS (K : PySem.W.Frag) : List V → Hp → VK → Prop := fun vs H Q => (∃ i j, vs = [.int i, .int j] ∧ Q (.int (if j < i then j else i)) H) ∨ ∃ (a : Addr) (ns : List Int) (m : Int), vs = [V.ref a] ∧ (SqL K H a (ns.map V.int) ∨ SqT K H a (ns.map V.int)) ∧ ns.min? = some m ∧ Q (.int m) H
theorem cr_maxS (hc : X.calm = true) : CallR X (.builtin "max") (rMaxS X.K) := by
  rintro pins s σ H vs us Q I r (h | ⟨a, ns, m, rfl, hs, hm, q⟩)
  · exact call_max2 hc pins s σ H vs us Q I r h
  · obtain ⟨m1, m2⟩ := List.max?_eq_some_iff.mp hm
    have uniq : ∀ M : Int, M ∈ ns → (∀ y, y ∈ ns → y ≤ M) → M = m := fun M h1 h2 => Int.le_antisymm (m2 M h1) (h2 m m1)
    have hne : ns ≠ [] := fun z => by rw [z] at m1; cases m1
    rcases hs with hs | hs
    · refine cr_max hc pins s σ H _ us Q I r ⟨a, ns, rfl, hs, ?_, fun M h1 h2 => by rw [uniq M h1 h2]; exact q⟩
      cases ns with
      | nil => exact absurd rfl hne
      | cons _ _ => exact Nat.succ_pos _
    · obtain ⟨its, rv, ht, _⟩ := I.tuple hs
      rw [Vals.ref1 r]
      exact ext_tuple (I.ok.hd hc) ht rv.ints hne (.inl ⟨rfl, fun M h' tk t' h1 h2 hk => ⟨.int _, H, I.kept hk, ⟨_, rfl⟩, by rw [uniq M h1 h2]; exact q⟩⟩)
theorem cr_minS (hc : X.calm = true) : CallR X (.builtin "min") (rMinS X.K) := by
  rintro pins s σ H vs us Q I r (h | ⟨a, ns, m, rfl, hs, hm, q⟩)
  · exact call_min2 hc pins s σ H vs us Q I r h
  · obtain ⟨m1, m2⟩ := List.min?_eq_some_iff.mp hm
    have uniq : ∀ M : Int, M ∈ ns → (∀ y, y ∈ ns → M ≤ y) → M = m := fun M h1 h2 => Int.le_antisymm (h2 m m1) (m2 M h1)
    have hne : ns ≠ [] := fun z => by rw [z] at m1; cases m1
    rcases hs with hs | hs
    · refine cr_min hc pins s σ H _ us Q I r ⟨a, ns, rfl, hs, ?_, fun M h1 h2 => by rw [uniq M h1 h2]; exact q⟩
      cases ns with
      | nil => exact absurd rfl hne
      | cons _ _ => exact Nat.succ_pos _
    · obtain ⟨its, rv, ht, _⟩ := I.tuple hs
      rw [Vals.ref1 r]
      exact ext_tuple (I.ok.hd hc) ht rv.ints hne (.inr ⟨rfl, fun M h' tk t' h1 h2 hk => ⟨.int _, H, I.kept hk, ⟨_, rfl⟩, by rw [uniq M h1 h2]; exact q⟩⟩)
def bMax : List D → VH → Option (D × VH) := pureB fun l h => match int2 l with
  | some (i, j) => some (.int (if j > i then j else i))
  | none => (argInts l h).bind fun ns => ns.max?.map .int
def bMin : List D → VH → Option (D × VH) := pureB fun l h => match int2 l with
  | some (i, j) => some (.int (if j < i then j else i))
  | none => (argInts l h).bind fun ns => ns.min?.map .int
theorem max_cd (K : PySem.W.Frag) : CallD K (rMaxS K) bMax := cd_pure fun w xs vs d Q ok r e q => by
  cases e2 : int2 xs with
  | some p =>
    rw [e2] at e
    cases e
    exact .inl ⟨_, _, int2_rps r e2, q _ (.int _)⟩
  | none =>
    rw [e2] at e
    obtain ⟨ns, e1, e⟩ := Option.bind_eq_some_iff.mp e
    obtain ⟨m, em, rfl⟩ := Option.map_eq_some_iff.mp e
    obtain ⟨a, rfl, hs⟩ := argInts_rps ok r e1
    exact .inr ⟨a, ns, m, rfl, hs, em, q _ (.int _)⟩
theorem min_cd (K : PySem.W.Frag) : CallD K (rMinS K) bMin := cd_pure fun w xs vs d Q ok r e q => by
  cases e2 : int2 xs with
  | some p =>
    rw [e2] at e
    cases e
    exact .inl ⟨_, _, int2_rps r e2, q _ (.int _)⟩
  | none =>
    rw [e2] at e
    obtain ⟨ns, e1, e⟩ := Option.bind_eq_some_iff.mp e
    obtain ⟨m, em, rfl⟩ := Option.map_eq_some_iff.mp e
    obtain ⟨a, rfl, hs⟩ := argInts_rps ok r e1
    exact .inr ⟨a, ns, m, rfl, hs, em, q _ (.int _)⟩
/-- all, any of a list of truth values -/
def argBools (l : List D) (h : VH) : Option (List Bool) := (one l).bind fun d => match d with
  | .ref n => (lk h n).bind boolsOf
  | _ => none
theorem argBools_rps {K : PySem.W.Frag} {w : Wd} {ds : List D} {vs : List V} {ns : List Bool} (ok : w.Ok K) (r : Rps K w ds vs) (e : argBools ds w.h = some ns) : ∃ a, vs = [.ref a] ∧ SqL K w.H a (ns.map V.bl) := by
  obtain ⟨d, e1, e⟩ := Option.bind_eq_some_iff.mp e
  obtain ⟨v, _, rfl, rd⟩ := one_rps r e1
  cases rd with
  | ref hn =>
    simp only at e
    obtain ⟨l, e2, e3⟩ := Option.bind_eq_some_iff.mp e
    obtain ⟨us, h1, h2⟩ := lk_sq ok e2
    rw [boolsOf_rps h2 e3] at h1
    exact ⟨_, rfl, h1⟩
  | _ => cases e
def bAll : List D → VH → Option (D × VH) := pureB fun l h => (argBools l h).map fun bs => .bl (bs.all id)
def bAny : List D → VH → Option (D × VH) := pureB fun l h => (argBools l h).map fun bs => .bl (bs.any id)
theorem all_cd (K : PySem.W.Frag) : CallD K (rAll K) bAll := cd_pure fun w xs vs d Q ok r e q => by
  obtain ⟨bs, e1, rfl⟩ := Option.map_eq_some_iff.mp e
  obtain ⟨a, rfl, hs⟩ := argBools_rps ok r e1
  exact ⟨a, bs, rfl, hs, q _ (.bl _)⟩
theorem any_cd (K : PySem.W.Frag) : CallD K (rAny K) bAny := cd_pure fun w xs vs d Q ok r e q => by
  obtain ⟨bs, e1, rfl⟩ := Option.map_eq_some_iff.mp e
  obtain ⟨a, rfl, hs⟩ := argBools_rps ok r e1
  exact ⟨a, bs, rfl, hs, q _ (.bl _)⟩
def bAbs : List D → VH → Option (D × VH) := pureB fun l _ => (int1 l).map fun i => .int (if i < 0 then -i else i)
theorem abs_cd (K : PySem.W.Frag) : CallD K (fun xs H Q => ∃ i, xs = [.int i] ∧ Q (.int (if i < 0 then -i else i)) H) bAbs := cd_pure fun w xs vs d Q ok r e q => by
  obtain ⟨i, e1, rfl⟩ := Option.map_eq_some_iff.mp e
  exact ⟨i, int1_rps r e1, q _ (.int _)⟩
def bInt : List D → VH → Option (D × VH) := pureB fun l _ => match one l with
  | some (.int i) => some (.int i)
  | some (.bl b) => some (.int (if b then 1 else 0))
  | _ => none
theorem int_cd (K : PySem.W.Frag) : CallD K (fun xs H Q => (∃ i, xs = [.int i] ∧ Q (.int i) H) ∨ ∃ k, xs = [.bl k] ∧ Q (.int (if k then 1 else 0)) H) bInt := cd_pure fun w xs vs d Q ok r e q => by
  cases e1 : one xs with
  | none => rw [e1] at e; cases e
  | some d =>
    obtain ⟨v, _, rfl, rd⟩ := one_rps r e1
    rw [e1] at e
    cases rd with
    | int i => cases e; exact .inl ⟨i, rfl, q _ (.int _)⟩
    | bl b => cases e; exact .inr ⟨b, rfl, q _ (.int _)⟩
    | _ => cases e
def bLen : List D → VH → Option (D × VH) := pureB fun l h => (one l).bind fun d => match d with
  | .str s => if s.length ≤ sizeLine then some (.int s.length) else none
  | _ => (seqOf h d).map fun l => .int l.length
theorem len_cd (K : PySem.W.Frag) : CallD K (fun xs H Q => ∃ x n, xs = [x] ∧ LenV K x H n ∧ Q (.int n) H) bLen := cd_pure fun w xs vs d Q ok r e q => by
  obtain ⟨x, e1, e⟩ := Option.bind_eq_some_iff.mp e
  obtain ⟨v, _, rfl, rd⟩ := one_rps r e1
  have gen : ∀ l, seqOf w.h x = some l → d = .int l.length → ∃ x n, [v] = [x] ∧ LenV K x w.H n ∧ Q (.int n) w.H := by
    intro l el ed
    subst ed
    obtain ⟨a, us, rfl, hq, rr⟩ := seqOf_sq ok rd el
    refine ⟨_, l.length, rfl, ?_, q _ (.int _)⟩
    rcases hq with hq | hq
    · exact .inl ⟨us, hq, RepL.length rr⟩
    · exact .inr ⟨us, hq, RepL.length rr⟩
  cases x with
  | str s =>
    cases rd
    simp only at e
    by_cases h : s.length ≤ sizeLine
    · rw [if_pos h] at e
      cases e
      exact ⟨_, _, rfl, ⟨h, rfl⟩, q _ (.int _)⟩
    · rw [if_neg h] at e
      cases e
  | tup l => obtain ⟨l', el, rfl⟩ := Option.map_eq_some_iff.mp e; exact gen l' el rfl
  | ftup l => obtain ⟨l', el, rfl⟩ := Option.map_eq_some_iff.mp e; exact gen l' el rfl
  | ref n => obtain ⟨l', el, rfl⟩ := Option.map_eq_some_iff.mp e; exact gen l' el rfl
  | _ => cases e
/-- list(e) of a list or tuple -/
def bList : List D → VH → Option (D × VH) := fun l h => (one l).bind fun d => (seqOf h d).map fun l => (.ref h.length, h ++ [.lst l])
theorem list_cd (K : PySem.W.Frag) : CallD K (fun xs H Q => ∃ p ys, xs = [.ref p] ∧ (SqL K H p ys ∨ SqT K H p ys) ∧ ∀ l, H l = none → Q (.ref l) (upd H l (.lst ys))) bList := fun w xs vs Q ok r h => by
  unfold bList at h
  cases e1 : one xs with
  | none => rw [e1] at h; exact h.elim
  | some d =>
    obtain ⟨v, _, rfl, rd⟩ := one_rps r e1
    rw [e1] at h
    simp only [Option.bind_some] at h
    cases e2 : seqOf w.h d with
    | none => rw [e2] at h; exact h.elim
    | some l =>
      rw [e2] at h
      obtain ⟨a, us, rfl, hq, rr⟩ := seqOf_sq ok rd e2
      exact ⟨a, us, rfl, hq, fun p hp => h (w.newL p l us) _ (ok.newL hp rr) rfl (Wd.ext_newL hp) at_newL⟩
def bTup : List D → VH → Option (D × VH) := pureB fun l h => (one l).bind fun d => (seqOf h d).map .tup
theorem tup_cd (K : PySem.W.Frag) : CallD K (fun xs H Q => ∃ p ys, xs = [.ref p] ∧ ((SqL K H p ys ∧ ∀ l, H l = none → Q (.ref l) (upd H l (.tup ys))) ∨ (SqT K H p ys ∧ Q (.ref p) H))) bTup := fun w xs vs Q ok r h => by
  unfold bTup pureB at h
  cases e1 : one xs with
  | none => simp only [e1] at h; exact h.elim
  | some d =>
    obtain ⟨v, _, rfl, rd⟩ := one_rps r e1
    simp only [e1, Option.bind_some] at h
    cases e2 : seqOf w.h d with
    | none => rw [e2] at h; exact h.elim
    | some l =>
      rw [e2] at h
      obtain ⟨a, us, rfl, hq, rr⟩ := seqOf_sq ok rd e2
      refine ⟨a, us, rfl, ?_⟩
      rcases hq with hq | hq
      · exact .inl ⟨hq, fun p hp => h (w.tupAt p (.tup us)) _ (ok.tupAt hp) rfl (Wd.ext_tupAt hp) (.tup (SqT.of upd_same) ((Wd.ext_tupAt hp).rps rr))⟩
      · exact .inr ⟨hq, h w _ ok rfl (.refl w) (.tup hq rr)⟩

/-! ### repr -/
def reprOk (p : PyData) : Bool := SeqAt.shaped p && p.showable && decide (p.shown.length ≤ sizeLine)
def rRepr (K : PySem.W.Frag) : List V → Hp → VK → Prop := fun xs H Q => ∃ x d, xs = [x] ∧ Dp K H x d ∧ reprOk d = true ∧ Q (.str d.shown) H
theorem depth_of_shaped {d : PyData} (h : SeqAt.shaped d = true) : d.canLay0 = true ∧ d.depth ≤ 64 := by
  unfold SeqAt.shaped at h
  simpa using h
theorem cr_repr (hg : X.A.guards = some []) (hu : X.A.units + 70 < cLine) : CallR X (.builtin "repr") (rRepr X.K) := by
  rintro pins s σ H vs us Q I r ⟨x, d, rfl, hd, hr, q⟩
  unfold reprOk at hr
  simp only [Bool.and_eq_true, decide_eq_true_eq] at hr
  obtain ⟨⟨h1, h2⟩, h3⟩ := hr
  obtain ⟨hlay, hdep⟩ := depth_of_shaped h1
  cases r with
  | cons rv rr =>
    cases rr
    obtain ⟨as, rds⟩ := Dp.reads I d x _ hd rv
    cases hd with
    | non =>
      cases rv
      exact P.repr_of_none ⟨.str _, H, I.tok _, ⟨_, rfl⟩, q⟩
    | bl b =>
      cases rv
      exact P.repr_of_bool ⟨.str _, H, I.tok _, ⟨_, rfl⟩, by
        cases b <;> exact q⟩
    | int i =>
      obtain ⟨t, rfl⟩ := rv
      exact P.repr_of_int (by simpa [PyData.showable] using h2) ⟨.str _, H, I.tok _, ⟨_, rfl⟩, q⟩
    | str z =>
      obtain ⟨t, rfl⟩ := rv
      exact P.repr_of_str ⟨.str _, H, I.tok _, ⟨_, rfl⟩, q⟩ h3
    | lst _ _ =>
      cases rv
      exact repr_of_reads' rds h2 (PyData.noDict_hsm (PyData.hasDict_of_canLay _ hlay)) hg (by omega) (fun b o e => e) (fun h' u tk hk => ⟨.str _, H, I.kept hk, ⟨_, rfl⟩, q⟩) h3
    | tup _ _ =>
      cases rv
      exact repr_of_reads' rds h2 (PyData.noDict_hsm (PyData.hasDict_of_canLay _ hlay)) hg (by omega) (fun b o e => e) (fun h' u tk hk => ⟨.str _, H, I.kept hk, ⟨_, rfl⟩, q⟩) h3
def bRepr : List D → VH → Option (D × VH) := pureB fun l h => (one l).bind fun d => (py h d).bind fun p => if reprOk p = true then some (.str p.shown) else none
theorem repr_cd (K : PySem.W.Frag) : CallD K (rRepr K) bRepr := cd_pure fun w xs vs d Q ok r e q => by
  obtain ⟨x, e1, e⟩ := Option.bind_eq_some_iff.mp e
  obtain ⟨v, _, rfl, rd⟩ := one_rps r e1
  obtain ⟨p, ep, e⟩ := Option.bind_eq_some_iff.mp e
  by_cases h : reprOk p = true
  · rw [if_pos h] at e
    cases e
    exact ⟨v, p, rfl, py_dp ok rd ep, h, q _ (.str _)⟩
  · rw [if_neg h] at e
    cases e
end
end Vq

/-! Part 12: in, is, products, methods, stores, slices. -/
namespace Vq
open PySem PySem.Spec PyProof.Rows L2

/-! ### in, not in: flat values -/
/-- == of flat values -/
def eqF : D → D → Bool
  | .non, .non => true
  | .bl a, .bl b => a == b
  | .bl a, .int b => (if a then 1 else 0) == b
  | .int a, .bl b => a == (if b then 1 else 0)
  | .int a, .int b => a == b
  | .str a, .str b => a == b
  | _, _ => false
theorem flat_rp {K : PySem.W.Frag} {w : Wd} {d : D} {v : V} (r : Rp K w d v) (h : flatD d = true) : flatV v = true := by
  cases r <;> first | rfl | cases h
theorem eqF_rp {K : PySem.W.Frag} {w : Wd} {d e : D} {v u : V} (r : Rp K w d v) (q : Rp K w e u) (h : flatD d = true) (g : flatD e = true) : eqV v u = eqF d e := by
  cases r <;> cases q <;> first | rfl | cases h | cases g
theorem all_flat {K : PySem.W.Frag} {w : Wd} : ∀ {ds : List D} {vs : List V}, Rps K w ds vs → ds.all flatD = true → vs.all flatV = true
  | _, _, .nil, _ => rfl
  | _, _, .cons h r, e => by
    simp only [List.all_cons, Bool.and_eq_true] at e ⊢
    exact ⟨flat_rp h e.1, all_flat r e.2⟩
theorem inV_rp {K : PySem.W.Frag} {w : Wd} {x : D} {vx : V} (rx : Rp K w x vx) (hx : flatD x = true) : ∀ {ds : List D} {vs : List V}, Rps K w ds vs → ds.all flatD = true → inV vx vs = ds.any fun y => eqF y x
  | _, _, .nil, _ => rfl
  | _, _, .cons h r, e => by
    simp only [List.all_cons, Bool.and_eq_true] at e
    show ((eqV _ vx) || inV vx _) = _
    rw [eqF_rp h rx e.1 hx, inV_rp rx hx r e.2]
    rfl
def inW (neg : Bool) (x y : D) (h : VH) : Option (D × VH) := (seqOf h y).bind fun l => if (flatD x && l.all flatD) = true then some (.bl (if neg then !(l.any fun y => eqF y x) else l.any fun y => eqF y x), h) else none
def dIn (x y : D) (h : VH) : Option (D × VH) := inW false x y h
def dNin (x y : D) (h : VH) : Option (D × VH) := inW true x y h
theorem inW_opd (K : PySem.W.Frag) (neg : Bool) : OpD K (rIn K neg) (inW neg) := fun w x y vx vy Q ok rx ry h => by
  unfold inW at h
  cases e : seqOf w.h y with
  | none => rw [e] at h; exact h.elim
  | some l =>
    rw [e] at h
    simp only [Option.bind_some] at h
    by_cases hf : (flatD x && l.all flatD) = true
    · rw [if_pos hf] at h
      rw [Bool.and_eq_true] at hf
      obtain ⟨a, us, rfl, hq, rr⟩ := seqOf_sq ok ry e
      refine ⟨a, us, rfl, hq, flat_rp rx hf.1, all_flat rr hf.2, ?_⟩
      rw [inV_rp rx hf.1 rr hf.2]
      exact h w _ ok rfl (.refl w) (.bl _)
    · rw [if_neg hf] at h
      exact h.elim
theorem in_opd (K : PySem.W.Frag) : OpD K (rIn K false) dIn := inW_opd K false
theorem nin_opd (K : PySem.W.Frag) : OpD K (rIn K true) dNin := inW_opd K true

/-! ### is None -/
def isNon : D → Bool
  | .non => true
  | _ => false
theorem isNon_rp {K : PySem.W.Frag} {w : Wd} {d : D} {v : V} (r : Rp K w d v) : decide (v = .non) = isNon d := by
  cases r <;> simp [isNon]
def dIsN (x y : D) (h : VH) : Option (D × VH) := if isNon y = true then some (.bl (isNon x), h) else none
def dNotN (x y : D) (h : VH) : Option (D × VH) := if isNon y = true then some (.bl (!isNon x), h) else none
theorem isN_opd (K : PySem.W.Frag) : OpD K (fun x y H Q => y = .non ∧ Q (.bl (decide (x = .non))) H) dIsN := fun w x y vx vy Q ok rx ry h => by
  unfold dIsN at h
  by_cases hn : isNon y = true
  · rw [if_pos hn] at h
    refine ⟨of_decide_eq_true ((isNon_rp ry).trans hn), ?_⟩
    rw [isNon_rp rx]
    exact h w _ ok rfl (.refl w) (.bl _)
  · rw [if_neg hn] at h
    exact h.elim
theorem notN_opd (K : PySem.W.Frag) : OpD K (fun x y H Q => y = .non ∧ Q (.bl (!decide (x = .non))) H) dNotN := fun w x y vx vy Q ok rx ry h => by
  unfold dNotN at h
  by_cases hn : isNon y = true
  · rw [if_pos hn] at h
    refine ⟨of_decide_eq_true ((isNon_rp ry).trans hn), ?_⟩
    rw [isNon_rp rx]
    exact h w _ ok rfl (.refl w) (.bl _)
  · rw [if_neg hn] at h
    exact h.elim

/-! ### products -/
theorem tuple_mul1 (l : Addr) (items : Array Value) (n : Nat) (dd : Option Addr) (sl : Array (Option Value)) (x : Int) (u : Tok)
    (c0 : (decide (x < -(2 ^ 63)) || decide (x ≥ 2 ^ 63)) = false) (c1 : (items.isEmpty || x == 1) = true) :
    Meets (Builtin.«tuple.__mul__» ⟨[.ref l, .int x u], []⟩) (fun _ R s => s.heap.get? l = some { cls := .type "tuple", dict := dd, data := .seq items n, slots := sl } ∧ R (.ok (.ret (Value.ref l))) s) := by
  refine .of_wp fun prog w A R s h => ?_
  obtain ⟨hp, g, d, tk, os⟩ := s
  obtain ⟨hl, h⟩ := h
  have f1 := AutoSeq1.idx_int
  wp_walk using wpAny_loadPart' hl
  repeat (first
    | (refine wpAny_ite_false (decide_eq_false (by rw [c0]; exact fun z => nomatch z)) ?_; wp_walk using wpAny_loadPart' hl)
    | (refine wpAny_ite_true (decide_eq_true c1) ?_; wp_walk using wpAny_loadPart' hl))
  exact ⟨_, rfl, h⟩
/-- t * 1, () * k: the tuple itself -/
def rRep1 (K : PySem.W.Frag) : R2 := fun x y H Q => ∃ l k xs, x = .ref l ∧ y = .int k ∧ SqT K H l xs ∧ -(2 ^ 63) ≤ k ∧ k < 2 ^ 63 ∧ (xs = [] ∨ k = 1) ∧ Q (.ref l) H
theorem op_rep1 {X : Cx} : OpR X (binaryOp .Mult) (rRep1 X.K) := by
  rintro pins s σ H x y v u Q I rx ry ⟨l, k, xs, rfl, rfl, hT, k1, k2, hk, q⟩
  cases rx
  obtain ⟨t, rfl⟩ := ry
  obtain ⟨its, r, ⟨⟨cls, dd, data, sl⟩, ho, hc, n, hd⟩, hs⟩ := I.tuple hT
  simp only at hc hd
  subst hc hd
  have c0 : (decide (k < -(2 ^ 63)) || decide (k ≥ 2 ^ 63)) = false := by
    rw [decide_eq_false (by omega), decide_eq_false (by omega)]
    rfl
  have c1 : (its.toArray.isEmpty || k == 1) = true := by
    rcases hk with h | h
    · subst h
      cases r
      rfl
    · subst h
      simp
  refine wpAny_binaryOp_repeat_ref (T := "tuple") (U := "int") (by decide) ⟨_, ho, rfl⟩ (fun s' => typeIs_int s' k t) noFill_tuple_mul F.fills_int_mul F.slot_int_rmul repeat_tuple F.slot_int_index.lookup ?_
  refine call_meets F.slot_int_rmul (typeIs_int s k t) F.entry_int_rmul (F.args_int_rmul_2 _ _) (int_rmul_tuple k t l its.toArray n dd sl) ⟨ho, rfl, ⟨_, ho, rfl⟩, ?_⟩
  exact call_meets F.slot_tuple_mul ⟨_, ho, rfl⟩ F.entry_tuple_mul (F.args_tuple_mul_2 _ _) (tuple_mul1 l its.toArray n dd sl k t c0 c1) ⟨ho, ⟨.ref l, H, I, rfl, q⟩⟩
def repD (k : Nat) (l : List D) : List D := (List.replicate k l).flatten
theorem reps_rep {K : PySem.W.Frag} {w : Wd} {ds : List D} {vs : List V} (r : Rps K w ds vs) : ∀ k : Nat, Rps K w (repD k ds) (List.replicate k vs).flatten
  | 0 => .nil
  | k + 1 => by
    show RepL K w.ι w.h.length w.H (List.replicate (k + 1) ds).flatten (List.replicate (k + 1) vs).flatten
    rw [List.replicate_succ, List.replicate_succ, List.flatten_cons, List.flatten_cons]
    exact r.append (reps_rep r k)
def tMulT : D → D → VH → Option (D × VH) := fun x y h => match x, y with
  | .tup l, .int k => if k = 1 then some (.tup l, h) else if 2 ≤ k ∧ k ≤ 1000 ∧ l ≠ [] ∧ l.length ≤ 1000 then some (.tup (repD k.toNat l), h) else none
  | _, _ => none
theorem mulT_opd (K : PySem.W.Frag) : OpD K (orR (rRep1 K) (rRepT K)) tMulT := fun w x y vx vy Q ok rx ry h => by
  cases rx with
  | @tup a vs ds hx rx =>
    cases ry with
    | int k =>
      unfold tMulT at h
      simp only at h
      by_cases h1 : k = 1
      · rw [if_pos h1] at h
        exact .inl ⟨a, k, vs, rfl, rfl, hx, by omega, by omega, .inr h1, h w _ ok rfl (.refl w) (.tup hx rx)⟩
      · rw [if_neg h1] at h
        by_cases h2 : 2 ≤ k ∧ k ≤ 1000 ∧ ds ≠ [] ∧ ds.length ≤ 1000
        · rw [if_pos h2] at h
          refine .inr ⟨a, k, vs, rfl, rfl, hx, fun z => h2.2.2.1 ?_, h2.1, h2.2.1, by rw [← rx.length]; exact h2.2.2.2, fun p hp => ?_⟩
          · subst z
            cases rx
            rfl
          · exact h (w.tupAt p (.tup _)) _ (ok.tupAt hp) rfl (Wd.ext_tupAt hp) (.tup (SqT.of upd_same) ((Wd.ext_tupAt hp).rps (reps_rep rx k.toNat)))
        · rw [if_neg h2] at h
          exact h.elim
    | _ => exact h.elim
  | _ => cases ry <;> exact h.elim
def tMulL : D → D → VH → Option (D × VH) := fun x y h => match x, y with
  | .ref m, .int k => match h[m]? with
    | some (.lst l) => if -(2 ^ 63) ≤ k ∧ k < 2 ^ 63 ∧ l.length * k.toNat ≤ sizeLine then some (.ref h.length, h ++ [.lst (repD k.toNat l)]) else none
    | _ => none
  | _, _ => none
theorem mulL_opd (K : PySem.W.Frag) : OpD K rRep tMulL := fun w x y vx vy Q ok rx ry h => by
  cases rx with
  | @ref m hm =>
    cases ry with
    | int k =>
      unfold tMulL at h
      simp only at h
      cases e1 : w.h[m]? with
      | none => simp only [e1] at h; exact h.elim
      | some c =>
        cases c with
        | ro _ => simp only [e1] at h; exact h.elim
        | lst l =>
          simp only [e1] at h
          by_cases h2 : -(2 ^ 63) ≤ k ∧ k < 2 ^ 63 ∧ l.length * k.toNat ≤ sizeLine
          · rw [if_pos h2] at h
            obtain ⟨us, g1, g2⟩ := ok.cell m _ e1
            exact ⟨_, k, us, rfl, rfl, g1, h2.1, h2.2.1, by rw [← g2.length]; exact h2.2.2, fun p hp => h (w.newL p _ _) _ (ok.newL hp (reps_rep g2 k.toNat)) rfl (Wd.ext_newL hp) at_newL⟩
          · rw [if_neg h2] at h
            exact h.elim
    | _ => exact h.elim
  | _ => cases ry <;> exact h.elim
def dMul : D → D → VH → Option (D × VH) := orD aMul (orD tMulT tMulL)
def rMulA (K : PySem.W.Frag) : R2 := orR (orR (rI CMul fun i j => .int (i * j)) (rI CMulW fun i j => .int (i * j))) (orR (orR (rRep1 K) (rRepT K)) rRep)
theorem mul_opd (K : PySem.W.Frag) : OpD K (rMulA K) dMul := opd_orD (mul_ii K) (opd_orD (mulT_opd K) (mulL_opd K))
theorem mul_opr {X : Cx} : OpR X (binaryOp .Mult) (rMulA X.K) := OpR.or (OpR.or op_mul op_mulW) (OpR.or (OpR.or op_rep1 op_repT) op_rep)
theorem fdv_opr {X : Cx} : OpR X (binaryOp .FloorDiv) (fun x y H Q => rI CDivN (fun i j => .int (i.fdiv j)) x y H Q ∨ rI CDivW (fun i j => .int (i / j)) x y H Q) := OpR.or op_fdivN op_fdivW

/-! ### stores -/
def sLst (o i d : D) (h : VH) : Option VH := match o, i with
  | .ref n, .int k => match h[n]? with
    | some (.lst l) => (ixN l.length k).map fun j => h.set n (.lst (l.set j d))
    | _ => none
  | _, _ => none
theorem lst_setd (K : PySem.W.Frag) : SetD K rSetL sLst := fun w o i d vo vi vd Q ok ro ri rd h => by
  cases ro with
  | @ref n hn =>
    cases ri with
    | int k =>
      unfold sLst at h
      simp only at h
      cases e1 : w.h[n]? with
      | none => simp only [e1] at h
      | some c =>
        cases c with
        | ro _ => simp only [e1] at h
        | lst l =>
          simp only [e1] at h
          cases ej : ixN l.length k with
          | none => simp only [ej] at h; exact h.elim
          | some j =>
            simp only [ej] at h
            obtain ⟨us, g1, g2⟩ := ok.cell n _ e1
            obtain ⟨ok', x'⟩ := ok.putL (ds := l.set j d) (vs := us.set j vd) e1 (g2.set rd j)
            exact ⟨_, us, k, j, rfl, rfl, g1, by rw [← g2.length]; exact ej, h (w.putL n _ _) ok' rfl x'⟩
    | _ => exact h.elim
  | _ => cases ri <;> exact h.elim

/-! ### methods -/
def MtD (K : PySem.W.Frag) (r : V → List V → Hp → VK → Prop) (f : D → List D → VH → Option (D × VH)) : Prop :=
  ∀ (w : Wd) (x : D) (xs : List D) (vx : V) (vs : List V) (Q : VK), w.Ok K → Rp K w x vx → Rps K w xs vs → PstO K w (f x xs w.h) Q → r vx vs w.H Q
def tyD (T : String) (d : D) (h : VH) : Bool := match d with
  | .ref n => T == "list" && (lk h n).isSome
  | .str _ => T == "str"
  | .int _ => T == "int"
  | _ => false
theorem tyD_tyV {K : PySem.W.Frag} {w : Wd} {T : String} {d : D} {v : V} (ok : w.Ok K) (r : Rp K w d v) (h : tyD T d w.h = true) : tyV K T v w.H := by
  cases r with
  | @ref n hn =>
    simp only [tyD, Bool.and_eq_true, beq_iff_eq] at h
    obtain ⟨ds, e⟩ := Option.isSome_iff_exists.mp h.2
    obtain ⟨vs, h1, h2⟩ := lk_sq ok e
    exact .inl ⟨h.1, vs, h1⟩
  | str s =>
    show T = "str"
    simpa [tyD] using h
  | int i =>
    show T = "int"
    simpa [tyD] using h
  | _ => cases h
def vMt (T : String) (f : D → List D → VH → Option (D × VH)) (o : VE) (a : VA) : VE := fun s h => (o s h).bind fun p => if tyD T p.1 p.2 = true then (a s p.2).bind fun q => lift (f p.1 q.1 q.2) else .bad
section
variable {X : Cx} {W : WX} {o e : Expr} {es : List Expr} {fo : VE} {g : VA} {name : Str} {apos cpos : Pos} {T id : String} {r : V → List V → Hp → VK → Prop} {f : D → List D → VH → Option (D × VH)}
theorem qMt0 (pa : PlainAttrs T) (slot : Slot T name id) (hty : typeOf (.builtin id) = pure (.type "method_descriptor")) (hm : MtR X id r) (hf : MtD X.K r f) (ho : PE X o (gE X W fo))
    (hbase : attributeBase o name X.env (eval o X.env) = eval o X.env := by rfl) (hline : (apos.endLine == cpos.line) = true := by rfl) : PE X (.Call (.Attribute o name apos) [] [] cpos) (gE X W (vMt T f fo vNil)) :=
  PEw (pe_bm0 pa slot hty hm ho hbase hline) fun σ H Q ⟨w, s, hH, ok, sl, hp⟩ => by
    subst hH
    refine gE.seq ok sl (wE w Q) hp fun d w1 v ok1 x1 sl1 r1 hp1 => ?_
    simp only at hp1
    by_cases ht : tyD T d w1.h = true
    · rw [if_pos ht] at hp1
      exact ⟨tyD_tyV ok1 r1 ht, hf w1 d [] v [] Q ok1 r1 .nil ((PstE.lift hp1).mono x1)⟩
    · rw [if_neg ht] at hp1
      exact hp1.elim
theorem qMt (pa : PlainAttrs T) (slot : Slot T name id) (hty : typeOf (.builtin id) = pure (.type "method_descriptor")) (hm : MtR X id r) (hf : MtD X.K r f) (ho : PE X o (gE X W fo)) (ha : PA X (e :: es) (gA X W g))
    (hbase : attributeBase o name X.env (eval o X.env) = eval o X.env := by rfl)
    (hfew : ((backTo cpos (starEach (e :: es) X.env)).all (fun x => !x.1) && (backToKw cpos (keywordEach [] X.env)).all (fun x => x.1.isSome)
      && decide ((e :: es).length + ([] : List Keyword).length + (if ([] : List Keyword).isEmpty then 0 else 1) < 30)) = true := by rfl)
    (hline : (apos.endLine == cpos.line) = true := by rfl) (hs : starEach (e :: es) X.env = (false, eval e X.env) :: starEach es X.env := by rfl) (hplain : (backTo cpos (starEach es X.env)).any (·.1) = false := by rfl) :
    PE X (.Call (.Attribute o name apos) (e :: es) [] cpos) (gE X W (vMt T f fo g)) :=
  PEw (pe_bm pa slot hty hm ho ha hbase hfew hline hs hplain) fun σ H Q ⟨w, s, hH, ok, sl, hp⟩ => by
    subst hH
    refine gE.seq ok sl (wE w Q) hp fun d w1 v ok1 x1 sl1 r1 hp1 => ?_
    simp only at hp1
    by_cases ht : tyD T d w1.h = true
    · rw [if_pos ht] at hp1
      refine ⟨tyD_tyV ok1 r1 ht, ?_⟩
      refine gA.seq ok1 sl1 ((wE w Q).mono x1) hp1 fun ds w2 vs ok2 x2 sl2 r2 hp2 => ?_
      exact hf w2 d ds v vs Q ok2 (x2.rp r1) r2 ((PstE.lift hp2).mono (x1.trans x2))
    · rw [if_neg ht] at hp1
      exact hp1.elim
end
/-- the list at a reference -/
def lstAt (h : VH) : D → Option (Nat × List D)
  | .ref n => match h[n]? with
    | some (.lst l) => some (n, l)
    | _ => none
  | _ => none
theorem lstAt_rp {K : PySem.W.Frag} {w : Wd} {d : D} {v : V} {n : Nat} {l : List D} (ok : w.Ok K) (r : Rp K w d v) (e : lstAt w.h d = some (n, l)) : d = .ref n ∧ w.h[n]? = some (.lst l) ∧ v = .ref (w.ι n) ∧ ∃ us, w.H (w.ι n) = some (.lst us) ∧ Rps K w l us := by
  cases r with
  | @ref m hm =>
    unfold lstAt at e
    simp only at e
    cases e1 : w.h[m]? with
    | none => simp only [e1] at e; cases e
    | some c =>
      cases c with
      | ro _ => simp only [e1] at e; cases e
      | lst l' =>
        simp only [e1] at e
        cases e
        exact ⟨rfl, e1, rfl, ok.cell _ _ e1⟩
  | _ => cases e
def mAppend (x : D) (xs : List D) (h : VH) : Option (D × VH) := (lstAt h x).bind fun p => (one xs).bind fun d => if p.2.length < sizeLine then some (.non, h.set p.1 (.lst (p.2 ++ [d]))) else none
theorem append_mtd (K : PySem.W.Frag) : MtD K rAppend mAppend := fun w x xs vx vs Q ok rx rs h => by
  unfold mAppend at h
  cases e1 : lstAt w.h x with
  | none => rw [e1] at h; exact h.elim
  | some p =>
    obtain ⟨n, l⟩ := p
    obtain ⟨rfl, en, rfl, us, g1, g2⟩ := lstAt_rp ok rx e1
    rw [e1] at h
    simp only [Option.bind_some] at h
    cases e2 : one xs with
    | none => rw [e2] at h; exact h.elim
    | some d =>
      obtain ⟨v, _, rfl, rd⟩ := one_rps rs e2
      rw [e2] at h
      simp only [Option.bind_some] at h
      by_cases hl : l.length < sizeLine
      · rw [if_pos hl] at h
        obtain ⟨ok', x'⟩ := ok.putL (ds := l ++ [d]) (vs := us ++ [v]) en (g2.append (.cons rd .nil))
        exact ⟨_, us, v, rfl, rfl, g1, by rw [← RepL.length g2]; exact hl, h (w.putL n _ _) _ ok' rfl x' .non⟩
      · rw [if_neg hl] at h
        exact h.elim
def mPop (x : D) (xs : List D) (h : VH) : Option (D × VH) := (lstAt h x).bind fun p => if xs.isEmpty = true then (p.2[p.2.length - 1]?).map fun d => (d, h.set p.1 (.lst p.2.dropLast)) else none
theorem RepL.dropLast {K : PySem.W.Frag} {w : Wd} {ds : List D} {vs : List V} (r : Rps K w ds vs) : Rps K w ds.dropLast vs.dropLast := by
  rw [List.dropLast_eq_take, List.dropLast_eq_take, ← RepL.length r]
  exact RepL.take _ r
theorem pop_mtd (K : PySem.W.Frag) : MtD K rPop mPop := fun w x xs vx vs Q ok rx rs h => by
  unfold mPop at h
  cases e1 : lstAt w.h x with
  | none => rw [e1] at h; exact h.elim
  | some p =>
    obtain ⟨n, l⟩ := p
    obtain ⟨rfl, en, rfl, us, g1, g2⟩ := lstAt_rp ok rx e1
    rw [e1] at h
    simp only [Option.bind_some] at h
    cases rs with
    | cons _ _ => exact h.elim
    | nil =>
      simp only [List.isEmpty_nil, if_true] at h
      cases e2 : l[l.length - 1]? with
      | none => rw [e2] at h; exact h.elim
      | some d =>
        rw [e2] at h
        obtain ⟨v, ev, rv⟩ := RepL.get g2 e2
        obtain ⟨ok', x'⟩ := ok.putL (ds := l.dropLast) (vs := us.dropLast) en (RepL.dropLast g2)
        exact ⟨_, us, v, rfl, rfl, g1, by rw [← RepL.length g2]; exact ev, h (w.putL n _ _) v ok' rfl x' (x'.rp rv)⟩
def mExtend (x : D) (xs : List D) (h : VH) : Option (D × VH) := (lstAt h x).bind fun p => ((one xs).bind (lstAt h)).bind fun q => if p.2.length + q.2.length ≤ sizeLine then some (.non, h.set p.1 (.lst (p.2 ++ q.2))) else none
theorem extend_mtd (K : PySem.W.Frag) : MtD K rExtend mExtend := fun w x xs vx vs Q ok rx rs h => by
  unfold mExtend at h
  cases e1 : lstAt w.h x with
  | none => rw [e1] at h; exact h.elim
  | some p =>
    obtain ⟨n, l⟩ := p
    obtain ⟨rfl, en, rfl, us, g1, g2⟩ := lstAt_rp ok rx e1
    rw [e1] at h
    simp only [Option.bind_some] at h
    cases e2 : one xs with
    | none => rw [e2] at h; exact h.elim
    | some d =>
      obtain ⟨v, _, rfl, rd⟩ := one_rps rs e2
      rw [e2] at h
      simp only [Option.bind_some] at h
      cases e3 : lstAt w.h d with
      | none => rw [e3] at h; exact h.elim
      | some q =>
        obtain ⟨m, k⟩ := q
        obtain ⟨rfl, em, rfl, zs, g3, g4⟩ := lstAt_rp ok rd e3
        rw [e3] at h
        simp only [Option.bind_some] at h
        by_cases hl : l.length + k.length ≤ sizeLine
        · rw [if_pos hl] at h
          obtain ⟨ok', x'⟩ := ok.putL (ds := l ++ k) (vs := us ++ zs) en (g2.append g4)
          exact ⟨_, _, us, zs, rfl, rfl, g1, g3, by rw [← RepL.length g2, ← RepL.length g4]; exact hl, h (w.putL n _ _) _ ok' rfl x' .non⟩
        · rw [if_neg hl] at h
          exact h.elim

/-! ### slices -/
abbrev VO := VS → VH → Res (Option Int × VH)
def oNone : VO := fun _ h => .ok (none, h)
def oSome (f : VE) : VO := fun s h => (f s h).bind fun p => match intD p.1 with
  | some i => .ok (some i, p.2)
  | none => .bad
def PstI' (X : Cx) (W : WX) (w : Wd) (r : Res (Option Int × VH)) (Q : Option Int → Hp → Prop) : Prop :=
  match r with
  | .ok p => ∀ w', w'.Ok X.K → w'.h = p.2 → Wd.Ext X.K w w' → Q p.1 w'.H
  | .ex x s h => PstX X W w x s h
  | .bad => False
def gO (X : Cx) (W : WX) (f : VO) : TO := fun σ H Q => ∃ w s, w.H = H ∧ w.Ok X.K ∧ Slots X.K w s σ ∧ PstI' X W w (f s w.h) Q
/-- a slice's items -/
def cutD (l : List D) (lo hi : Option Int) : List D := (l.drop (HT.sIx l.length 0 lo)).take (HT.sIx l.length l.length hi - HT.sIx l.length 0 lo)
def slD (x : D) (lo hi : Option Int) (h : VH) : Option (D × VH) := match x with
  | .tup l => some (.tup (cutD l lo hi), h)
  | .ref n => (lk h n).map fun l => (.ref h.length, h ++ [.lst (cutD l lo hi)])
  | _ => none
def vSl (x : VE) (lo hi : VO) : VE := fun s h => (x s h).bind fun p => (lo s p.2).bind fun q => (hi s q.2).bind fun r => lift (slD p.1 q.1 r.1 r.2)
section
variable {X : Cx} {W : WX} {e : Expr} {f : VE} {lo hi : Option Expr} {fl fh : VO} {pos p2 : Pos}
theorem POw {o : Option Expr} {t t' : TO} (h : PO X o t) (i : ∀ σ H Q, t' σ H Q → t σ H Q) : PO X o t' := ⟨fun pins s σ H Q I q => h.run pins s σ H Q I (i σ H Q q)⟩
theorem qo0 : PO X none (gO X W oNone) := POw po_none fun σ H Q ⟨w, s, hH, ok, sl, hp⟩ => by
  subst hH
  exact hp w ok rfl (.refl w)
theorem wO (w : Wd) (Q : Option Int → Hp → Prop) : Wants X W w (fun r => PstI' X W w r Q) := ⟨id, fun _ _ _ h => h⟩
theorem qo (h : PE X e (gE X W f)) : PO X (some e) (gO X W (oSome f)) := POw (po_some h) fun σ H Q ⟨w, s, hH, ok, sl, hp⟩ => by
  subst hH
  refine gE.seq ok sl (wO w Q) hp fun d w1 v ok1 x1 sl1 r1 hp1 => ?_
  simp only at hp1
  cases e1 : intD d with
  | none => rw [e1] at hp1; exact hp1.elim
  | some i =>
    rw [e1] at hp1
    exact ⟨i, (intD_rp r1 e1).2, hp1 w1 ok1 rfl x1⟩
theorem gO.seq {f : VO} {β : Type} {k : Option Int × VH → Res β} {P : Res β → Prop} {w : Wd} {s : VS} {σ : L2.St} {Q : Option Int → Hp → Prop} (ok : w.Ok X.K) (sl : Slots X.K w s σ) (hP : Wants X W w P) (hp : P ((f s w.h).bind k))
    (hq : ∀ d w1, w1.Ok X.K → Wd.Ext X.K w w1 → Slots X.K w1 s σ → P (k (d, w1.h)) → Q d w1.H) : gO X W f σ w.H Q := by
  refine ⟨w, s, rfl, ok, sl, ?_⟩
  cases e : f s w.h with
  | ok p =>
    rw [e] at hp
    obtain ⟨p1, p2⟩ := p
    intro w' ok' q x
    refine hq p1 w' ok' x (sl.ext x) ?_
    rw [show w'.h = p2 from q]
    exact hp
  | ex x s h => rw [e] at hp; exact hP.ex _ _ _ hp
  | bad => rw [e] at hp; exact (hP.bad hp).elim
theorem cut_rps {K : PySem.W.Frag} {w : Wd} {ds : List D} {vs : List V} (r : Rps K w ds vs) (lo hi : Option Int) : Rps K w (cutD ds lo hi) (cutV vs lo hi) := by
  unfold cutD cutV
  rw [← RepL.length r]
  exact (RepL.drop _ r).take _
theorem qSl (he : PE X e (gE X W f)) (hl : PO X lo (gO X W fl)) (hu : PO X hi (gO X W fh)) : PE X (.Subscript e (.Slice lo hi none p2) pos) (gE X W (vSl f fl fh)) :=
  PEw (pe_slice (SlR.or sl_list sl_tupA) he hl hu) fun σ H Q ⟨w, s, hH, ok, sl, hp⟩ => by
    subst hH
    refine gE.seq ok sl (wE w Q) hp fun d w1 v ok1 x1 sl1 r1 hp1 => ?_
    refine gO.seq ok1 sl1 ((wE w Q).mono x1) hp1 fun i w2 ok2 x2 sl2 hp2 => ?_
    refine gO.seq ok2 sl2 ((wE w Q).mono (x1.trans x2)) hp2 fun j w3 ok3 x3 sl3 hp3 => ?_
    have r3 := (x2.trans x3).rp r1
    have hp3 := (PstE.lift hp3).mono ((x1.trans x2).trans x3)
    unfold slD at hp3
    cases r3 with
    | @tup a vs ds hq rr =>
      simp only at hp3
      refine .inr ⟨a, vs, rfl, hq, fun z => ?_, fun z p hn => ?_⟩
      · have e : cutD ds i j = ds := by
          unfold cutD
          rw [RepL.length rr, z.1, z.2]
          simp [← RepL.length rr]
        rw [e] at hp3
        exact hp3 w3 _ ok3 rfl (.refl w3) (.tup hq rr)
      · exact hp3 (w3.tupAt p (.tup _)) _ (ok3.tupAt hn) rfl (Wd.ext_tupAt hn) (.tup (SqT.of upd_same) ((Wd.ext_tupAt hn).rps (cut_rps rr i j)))
    | @ref n hn =>
      simp only at hp3
      cases el : lk w3.h n with
      | none => rw [el] at hp3; exact hp3.elim
      | some l =>
        rw [el] at hp3
        obtain ⟨us, h1, h2⟩ := lk_sq ok3 el
        exact .inl ⟨_, us, rfl, h1, fun p hq => hp3 (w3.newL p _ _) _ (ok3.newL hq (cut_rps h2 i j)) rfl (Wd.ext_newL hq) at_newL⟩
    | _ => exact hp3.elim
end

/-! ### chains of two comparisons -/
def vChain (f g : D → D → VH → Option (D × VH)) (a b c : VE) : VE := fun s h => (a s h).bind fun p => (b s p.2).bind fun q => (lift (f p.1 q.1 q.2)).bind fun r => match boolD r.1 with
  | some true => (c s r.2).bind fun u => lift (g q.1 u.1 u.2)
  | some false => .ok (.bl false, r.2)
  | none => .bad
section
variable {X : Cx} {W : WX} {a b c : Expr} {fa fb fc : VE} {pos : Pos}
theorem chain_red {r r' : R2} {f g : D → D → VH → Option (D × VH)} (hf : OpD X.K r f) (hg : OpD X.K r' g) {σ : L2.St} {H : Hp} {Q : VK} (h : gE X W (vChain f g fa fb fc) σ H Q) : tChain r r' (gE X W fa) (gE X W fb) (gE X W fc) σ H Q := by
  obtain ⟨w, s, hH, ok, sl, hp⟩ := h
  subst hH
  refine gE.seq ok sl (wE w Q) hp fun d w1 v ok1 x1 sl1 r1 hp1 => ?_
  refine gE.seq ok1 sl1 ((wE w Q).mono x1) hp1 fun d2 w2 v2 ok2 x2 sl2 r2 hp2 => ?_
  refine hf w2 d d2 v v2 _ ok2 (x2.rp r1) r2 ?_
  simp only at hp2
  cases e : f d d2 w2.h with
  | none => rw [e] at hp2; exact hp2.elim
  | some p =>
    obtain ⟨z, h3⟩ := p
    rw [e] at hp2
    simp only [lift_some, Res.ok_bind] at hp2
    intro w3 vz ok3 e3 x3 rz
    have e3 : w3.h = h3 := e3
    subst e3
    cases rz with
    | bl k =>
      refine ⟨k, rfl, ?_⟩
      cases k with
      | false =>
        simp only [boolD, Bool.false_eq_true, if_false] at hp2 ⊢
        exact hp2 w3 _ ok3 rfl ((x1.trans x2).trans x3) (.bl _)
      | true =>
        simp only [boolD, if_true] at hp2 ⊢
        refine gE.seq ok3 (sl2.ext x3) ((wE w Q).mono ((x1.trans x2).trans x3)) hp2 fun d4 w4 v4 ok4 x4 sl4 r4 hp4 => ?_
        exact hg w4 d2 d4 v2 v4 Q ok4 ((x3.trans x4).rp r2) r4 ((PstE.lift hp4).mono (((x1.trans x2).trans x3).trans x4))
    | _ => exact hp2.elim
theorem qChain {op op' : CmpOp} {r r' : R2} {f g : D → D → VH → Option (D × VH)} (ho : OpR X (compareOp op) r) (hf : OpD X.K r f) (ho' : OpR X (compareOp op') r') (hg : OpD X.K r' g) (ha : PE X a (gE X W fa)) (hb : PE X b (gE X W fb)) (hc : PE X c (gE X W fc))
    (hm : lastMarks [op, op'] [b, c] = false := by with_unfolding_all rfl) : PE X (.Compare a [op, op'] [b, c] pos) (gE X W (vChain f g fa fb fc)) := PEw (pe_chain ho ho' ha hb hc hm) fun _ _ _ h => chain_red hf hg h
end

/-! ### a, b = x, y; a, b, c = x, y, z -/
def vPar3 (i j l : Nat) (a : VA) : VSt := fun s h => (a s h).bind fun p => match p.1 with
  | [x, y, z] => .ok (.nx, ((s.set i (some x)).set j (some y)).set l (some z), p.2)
  | _ => .bad
section
variable {X : Cx} {W : WX} {i j l : Nat} {x y z : Str} {a b c : Expr} {f : VA} {px py pz pt pos : Pos} {kt : Nat} {k2 : Nat} {pt2 : Pos}
theorem qPar2 (hc : X.calm = true) (hN : X.N.Nodup) (ha : PA X [a, b] (gA X W f)) (hi : X.N[i]? = some x := by rfl) (hj : X.N[j]? = some y := by rfl) (hij : i ≠ j := by decide)
    (hx : X.env.scope.names.lookup x = some .local := by rfl) (hy : X.env.scope.names.lookup y = some .local := by rfl)
    (hw : swappedStores [.Tuple [.Name x px, .Name y py] kt pt] (.Tuple [a, b] k2 pt2) X.env = pure (some [x, y]) := by rfl)
    (hs : swapsWithSole [.Tuple [.Name x px, .Name y py] kt pt] (.Tuple [a, b] k2 pt2) pos.line X.env = pure false := by rfl) :
    PS X (.Assign [.Tuple [.Name x px, .Name y py] kt pt] (.Tuple [a, b] k2 pt2) pos) (gS X W (vPar i j f)) :=
  qPar hc hN hi hj hij ha fun t h => ps_par hc hN hi hj hij hx hy h hw hs
theorem qPar3 (hc : X.calm = true) (hN : X.N.Nodup) (ha : PA X [a, b, c] (gA X W f)) (hi : X.N[i]? = some x := by rfl) (hj : X.N[j]? = some y := by rfl) (hl : X.N[l]? = some z := by rfl) (hij : i ≠ j := by decide) (hil : i ≠ l := by decide) (hjl : j ≠ l := by decide)
    (hx : X.env.scope.names.lookup x = some .local := by rfl) (hy : X.env.scope.names.lookup y = some .local := by rfl) (hz : X.env.scope.names.lookup z = some .local := by rfl)
    (hw : swappedStores [.Tuple [.Name x px, .Name y py, .Name z pz] kt pt] (.Tuple [a, b, c] k2 pt2) X.env = pure (some [x, y, z]) := by rfl)
    (hs : swapsWithSole [.Tuple [.Name x px, .Name y py, .Name z pz] kt pt] (.Tuple [a, b, c] k2 pt2) pos.line X.env = pure false := by rfl) :
    PS X (.Assign [.Tuple [.Name x px, .Name y py, .Name z pz] kt pt] (.Tuple [a, b, c] k2 pt2) pos) (gS X W (vPar3 i j l f)) :=
  PSw (ps_par3 hc hN hi hj hl hij hil hjl hx hy hz ha hw hs) fun D σ H ⟨w, s, hH, ok, sl, hp⟩ => by
    subst hH
    refine gA.seq ok sl (wS w D) hp fun d w1 v ok1 x1 sl1 r1 hp1 => ?_
    cases r1 with
    | nil => exact hp1.elim
    | cons r1 rr =>
      cases rr with
      | nil => exact hp1.elim
      | cons r2 rr =>
        cases rr with
        | nil => exact hp1.elim
        | cons r3 rr =>
          cases rr with
          | cons _ _ => exact hp1.elim
          | nil => exact ⟨_, _, _, rfl, hp1 w1 _ ok1 rfl x1 (((sl1.set i r1).set j r2).set l r3)⟩
end
end Vq

/-! Part 13: what the printed derivations use. -/
namespace Vq
open PySem PySem.Spec PyProof.Rows L2

theorem At.blk {X : Cx} {W : WX} {k : Nat} (a : At X W k) {s : Shared} {H : Hp} {scope : Scope} {cenv : Env} {fp : List Addr} : At (X.blk s H scope cenv fp) W0 k :=
  ⟨a.room, a.gd, fun u s' ⟨_, _, _, _, _, _, _, _, _, _, _, _, _, _, _, _, z⟩ => z.elim, PassesOwn.never⟩
theorem At.rp {X : Cx} {W : WX} {k : Nat} (a : At X W k) : X.A.units + 70 < cLine := by
  have := a.room.un
  omega
theorem At.hu {X : Cx} {W : WX} {k : Nat} (a : At X W k) : X.A.units + 64 < cLine := a.room.units

theorem bindP_of {K : PySem.W.Frag} {x qual : Str} {st : Stmt} {f : Addr} {fd : FuncData} {ps : List Str} (F : Fun K x qual st f fd)
    (h : ∀ (kV doc pm : Value) (an : Option Addr) (cdv ct : Value) (us : List Value), us.length = ps.length → bindArgs (PySem.W.fnOf x qual (defArgs st) (defBody st) (defScope st) .none kV doc pm an cdv ct) ⟨us, []⟩ = pure (ps.zip us)) : BindP K fd ps := by
  obtain ⟨oc, od, kV, doc, pm, an, cdv, ct, osl, rfl, _, _⟩ := F.ex
  exact fun us hl => h kV doc pm an cdv ct us hl

/-- the values in the parameters' order -/
def permL (ix : List Nat) {α : Type} (us ws : List α) : List α := ix.filterMap fun i => (us ++ ws)[i]?
theorem get_reps {K : PySem.W.Frag} {w : Wd} {ds : List D} {vs : List V} (r : Rps K w ds vs) : ∀ ix : List Nat, Rps K w (ix.filterMap fun i => ds[i]?) (ix.filterMap fun i => vs[i]?)
  | [] => .nil
  | i :: ix => by
    have ih := get_reps r ix
    cases e : ds[i]? with
    | none =>
      have e2 : vs[i]? = none := List.getElem?_eq_none (by rw [← RepL.length r]; exact List.getElem?_eq_none_iff.mp e)
      simp only [List.filterMap_cons, e, e2]
      exact ih
    | some d =>
      obtain ⟨v, e2, rv⟩ := RepL.get r e
      simp only [List.filterMap_cons, e, e2]
      exact .cons rv ih
theorem get_vals {vs : List V} {us : List Value} (r : Vals vs us) : ∀ ix : List Nat, Vals (ix.filterMap fun i => vs[i]?) (ix.filterMap fun i => us[i]?)
  | [] => .nil
  | i :: ix => by
    have ih := get_vals r ix
    cases e : vs[i]? with
    | none =>
      simp only [List.filterMap_cons, e, r.none_of e]
      exact ih
    | some v =>
      obtain ⟨u, e2, ru⟩ := r.get e
      simp only [List.filterMap_cons, e, e2]
      exact .cons ru ih
theorem bindK_of {K : PySem.W.Frag} {x qual : Str} {st : Stmt} {f : Addr} {fd : FuncData} {ps : List Str} (F : Fun K x qual st f fd) (ks : List Str) (n : Nat) (ix : List Nat)
    (h : ∀ (kV doc pm : Value) (an : Option Addr) (cdv ct : Value) (us ws : List Value), us.length = n → ws.length = ks.length →
      bindArgs (PySem.W.fnOf x qual (defArgs st) (defBody st) (defScope st) .none kV doc pm an cdv ct) ⟨us, ks.zip ws⟩ = pure (ps.zip (permL ix us ws))) : BindK fd ps ks n (permL ix) := by
  obtain ⟨oc, od, kV, doc, pm, an, cdv, ct, osl, rfl, _, _⟩ := F.ex
  exact ⟨fun us ws h1 h2 => h kV doc pm an cdv ct us ws h1 h2, fun K w ds es vs zs r1 r2 => get_reps (r1.append r2) ix, fun vs zs us ws r1 r2 => get_vals (r1.append r2) ix⟩
/-- the keywords' order as it stands in the printed text -/
def kwP (n m np : Nat) (ix : List Nat) : List D → List D → List D := fun a b => if a.length = n ∧ b.length = m then permL ix a b else List.replicate (np + 1) .non
end Vq

/-! Part 14: reckoning with denotations. -/
namespace Vq
open PySem

section
variable (s : VS) (h : VH)
@[simp] theorem vVar_ap (i : Nat) : vVar i s h = match s[i]? with
  | some (some d) => .ok (d, h)
  | _ => .bad := rfl
@[simp] theorem vC_ap (d : D) : vC d s h = .ok (d, h) := rfl
@[simp] theorem vNil_ap : vNil s h = .ok ([], h) := rfl
@[simp] theorem vCons_ap (f : VE) (g : VA) : vCons f g s h = (f s h).bind fun p => (g s p.2).bind fun q => .ok (p.1 :: q.1, q.2) := rfl
@[simp] theorem vTup_ap (g : VA) : vTup g s h = (g s h).bind fun p => if p.1.length ≤ sizeLine then .ok (.tup p.1, p.2) else .bad := rfl
@[simp] theorem vLst_ap (g : VA) : vLst g s h = (g s h).bind fun p => if p.1.length ≤ sizeLine then .ok (.ref p.2.length, p.2 ++ [.lst p.1]) else .bad := rfl
@[simp] theorem vOp_ap (f : D → D → VH → Option (D × VH)) (a b : VE) : vOp f a b s h = (a s h).bind fun p => (b s p.2).bind fun q => lift (f p.1 q.1 q.2) := rfl
@[simp] theorem vTr_ap (f : VE) : vTr f s h = (f s h).bind fun p => match p.1 with
  | .bl b => .ok (b, p.2)
  | _ => .bad := rfl
@[simp] theorem vNotT_ap (f : VT) : vNotT f s h = (f s h).bind fun p => .ok (!p.1, p.2) := rfl
@[simp] theorem vAndT_ap (f g : VT) : vAndT f g s h = (f s h).bind fun p => if p.1 = true then g s p.2 else .ok (false, p.2) := rfl
@[simp] theorem vOrT_ap (f g : VT) : vOrT f g s h = (f s h).bind fun p => if p.1 = true then .ok (true, p.2) else g s p.2 := rfl
@[simp] theorem vAnd_ap (f g : VE) : vAnd f g s h = (f s h).bind fun p => match p.1 with
  | .bl true => g s p.2
  | .bl false => .ok (.bl false, p.2)
  | _ => .bad := rfl
@[simp] theorem vOr_ap (f g : VE) : vOr f g s h = (f s h).bind fun p => match p.1 with
  | .bl true => .ok (.bl true, p.2)
  | .bl false => g s p.2
  | _ => .bad := rfl
@[simp] theorem vNot_ap (f : VE) : vNot f s h = (f s h).bind fun p => match p.1 with
  | .bl b => .ok (.bl (!b), p.2)
  | _ => .bad := rfl
@[simp] theorem vIf_ap (c : VT) (f g : VE) : vIf c f g s h = (c s h).bind fun p => if p.1 = true then f s p.2 else g s p.2 := rfl
@[simp] theorem vUn_ap (f : D → VH → Option (D × VH)) (a : VE) : vUn f a s h = (a s h).bind fun p => lift (f p.1 p.2) := rfl
@[simp] theorem vBl_ap (f : List D → VH → Option (D × VH)) (a : VA) : vBl f a s h = (a s h).bind fun p => lift (f p.1 p.2) := rfl
@[simp] theorem vSeq_ap (f g : VSt) : vSeq f g s h = (f s h).bind fun p => match p with
  | (.nx, s', h') => g s' h'
  | q => .ok q := rfl
@[simp] theorem vPass_ap : vPass s h = .ok (.nx, s, h) := rfl
@[simp] theorem vBreak_ap : vBreak s h = .ok (.bk, s, h) := rfl
@[simp] theorem vCont_ap : vCont s h = .ok (.ct, s, h) := rfl
@[simp] theorem vRet_ap (f : VE) : vRet f s h = (f s h).bind fun p => .ok (.rt p.1, s, p.2) := rfl
@[simp] theorem vRetN_ap : vRetN s h = .ok (.rt .non, s, h) := rfl
@[simp] theorem vDrop_ap (f : VE) : vDrop f s h = (f s h).bind fun p => .ok (.nx, s, p.2) := rfl
@[simp] theorem vIfS_ap (c : VT) (f g : VSt) : vIfS c f g s h = (c s h).bind fun p => if p.1 = true then f s p.2 else g s p.2 := rfl
@[simp] theorem vAsg_ap (f : VE) (g : VG) : vAsg f g s h = (f s h).bind fun p => (g p.1 s p.2).bind fun q => .ok (.nx, q.1, q.2) := rfl
@[simp] theorem gName_ap (i : Nat) (d : D) : gName i d s h = .ok (s.set i (some d), h) := rfl
@[simp] theorem gsNil_ap : gsNil [] s h = .ok (s, h) := rfl
@[simp] theorem gsCons_ap (g : VG) (k : VGs) (d : D) (r : List D) : gsCons g k (d :: r) s h = (g d s h).bind fun p => k r p.1 p.2 := rfl
@[simp] theorem gTupl_ap (n : Nat) (k : VGs) (l : List D) : gTupl n k (.tup l) s h = if l.length = n then k l s h else .bad := rfl
@[simp] theorem gSubs_ap (f : D → D → D → VH → Option VH) (o i : VE) (d : D) : gSubs f o i d s h = (o s h).bind fun p => (i s p.2).bind fun q => (lift (f p.1 q.1 d q.2)).bind fun h' => .ok (s, h') := rfl
@[simp] theorem vPar_ap (i j : Nat) (a : VA) : vPar i j a s h = (a s h).bind fun p => match p.1 with
  | [x, y] => .ok (.nx, (s.set i (some x)).set j (some y), p.2)
  | _ => .bad := rfl
@[simp] theorem vPar3_ap (i j l : Nat) (a : VA) : vPar3 i j l a s h = (a s h).bind fun p => match p.1 with
  | [x, y, z] => .ok (.nx, ((s.set i (some x)).set j (some y)).set l (some z), p.2)
  | _ => .bad := rfl
@[simp] theorem vIt_ap (f : VE) : vIt f s h = (f s h).bind fun p => match srcOf p.1 with
  | some src => .ok (src, p.2)
  | none => .bad := rfl
@[simp] theorem vMt_ap (T : String) (f : D → List D → VH → Option (D × VH)) (o : VE) (a : VA) : vMt T f o a s h = (o s h).bind fun p => if tyD T p.1 p.2 = true then (a s p.2).bind fun q => lift (f p.1 q.1 q.2) else .bad := rfl
@[simp] theorem vSl_ap (x : VE) (lo hi : VO) : vSl x lo hi s h = (x s h).bind fun p => (lo s p.2).bind fun q => (hi s q.2).bind fun r => lift (slD p.1 q.1 r.1 r.2) := rfl
@[simp] theorem oNone_ap : oNone s h = .ok (none, h) := rfl
@[simp] theorem oSome_ap (f : VE) : oSome f s h = (f s h).bind fun p => match intD p.1 with
  | some i => .ok (some i, p.2)
  | none => .bad := rfl
@[simp] theorem vChain_ap (f g : D → D → VH → Option (D × VH)) (a b c : VE) : vChain f g a b c s h = (a s h).bind fun p => (b s p.2).bind fun q => (lift (f p.1 q.1 q.2)).bind fun r => match boolD r.1 with
  | some true => (c s r.2).bind fun u => lift (g q.1 u.1 u.2)
  | some false => .ok (.bl false, r.2)
  | none => .bad := rfl
@[simp] theorem vCall_ap (n : Nat) (F : Fn) (a : VA) : vCall n F a s h = (a s h).bind fun p => if p.1.length = n then callR s (F p.1 p.2) else .bad := rfl
@[simp] theorem vCallK_ap (n : Nat) (F : Fn) (pl : List D → List D → List D) (a k : VA) : vCallK n F pl a k s h = (a s h).bind fun p => (k s p.2).bind fun q => if (pl p.1 q.1).length = n then callR s (F (pl p.1 q.1) q.2) else .bad := rfl
@[simp] theorem vYes_ap : vYes s h = .ok (true, h) := rfl
@[simp] theorem vLRev_ap (a : VA) : vLRev a s h = (a s h).bind fun p => match (one p.1) with
  | some (.ref n) => match lk p.2 n with
    | some l => .ok (.ref p.2.length, p.2 ++ [.lst l.reverse])
    | none => .bad
  | _ => .bad := rfl
end

/-! ### values -/
@[simp] theorem intD_i (i : Int) : intD (.int i) = some i := rfl
@[simp] theorem one_1 (d : D) : one [d] = some d := rfl
@[simp] theorem two_2 (d e : D) : two [d, e] = some (d, e) := rfl
@[simp] theorem int1_1 (i : Int) : int1 [.int i] = some i := rfl
@[simp] theorem int2_2 (i j : Int) : int2 [.int i, .int j] = some (i, j) := rfl
@[simp] theorem int2_1 (d : D) : int2 [d] = none := rfl
@[simp] theorem boolD_b (b : Bool) : boolD (.bl b) = some b := rfl
@[simp] theorem srcOf_t (l : List D) : srcOf (.tup l) = some fun _ => some l := rfl
@[simp] theorem srcOf_r (n : Nat) : srcOf (.ref n) = some fun h => lk h n := rfl
@[simp] theorem seqOf_t (h : VH) (l : List D) : seqOf h (.tup l) = some l := rfl
@[simp] theorem seqOf_r (h : VH) (n : Nat) : seqOf h (.ref n) = lk h n := rfl
@[simp] theorem aAdd_i (i j : Int) (h : VH) : aAdd (.int i) (.int j) h = some (.int (i + j), h) := rfl
@[simp] theorem aSub_i (i j : Int) (h : VH) : aSub (.int i) (.int j) h = some (.int (i - j), h) := rfl
@[simp] theorem dAdd_i (i j : Int) (h : VH) : dAdd (.int i) (.int j) h = some (.int (i + j), h) := rfl
@[simp] theorem dAdd_t (a b : List D) (h : VH) : dAdd (.tup a) (.tup b) h = if a.length + b.length ≤ sizeLine then some (.tup (a ++ b), h) else none := by
  unfold dAdd orD aAdd ii tAddT tAddL tAddS
  by_cases c : a.length + b.length ≤ sizeLine <;> simp [c]
@[simp] theorem aLt_i (i j : Int) (h : VH) : aLt (.int i) (.int j) h = some (.bl (decide (i < j)), h) := rfl
@[simp] theorem aLe_i (i j : Int) (h : VH) : aLe (.int i) (.int j) h = some (.bl (decide (i ≤ j)), h) := rfl
@[simp] theorem aGt_i (i j : Int) (h : VH) : aGt (.int i) (.int j) h = some (.bl (decide (j < i)), h) := rfl
@[simp] theorem aGe_i (i j : Int) (h : VH) : aGe (.int i) (.int j) h = some (.bl (decide (j ≤ i)), h) := rfl
@[simp] theorem uNeg_i (i : Int) (h : VH) : uNeg (.int i) h = some (.int (-i), h) := rfl
theorem aMod_i {i j : Int} {h : VH} (hj : j ≠ 0) : aMod (.int i) (.int j) h = some (.int (i.fmod j), h) := by
  simp [aMod, ii, hj]
theorem aFdv_i {i j : Int} {h : VH} (hj : divOk j = true) : aFdv (.int i) (.int j) h = some (.int (i.fdiv j), h) := by
  simp [aFdv, ii, hj]
theorem dMul_i {i j : Int} {h : VH} (hj : mulOk i j = true) : dMul (.int i) (.int j) h = some (.int (i * j), h) := by
  simp [dMul, orD, aMul, ii, hj]
theorem aPow_i {i j : Int} {h : VH} (hj : powOk i j = true) : aPow (.int i) (.int j) h = some (.int (i ^ j.toNat), h) := by
  simp [aPow, ii, hj]
@[simp] theorem dIx_i (x : D) (i : Int) (h : VH) : dIx x (.int i) h = (seqOf h x).bind fun l => (L2.atI l i).map fun d => (d, h) := rfl
@[simp] theorem bInt_i (i : Int) (h : VH) : bInt [.int i] h = some (.int i, h) := rfl
@[simp] theorem bInt_b (b : Bool) (h : VH) : bInt [.bl b] h = some (.int (if b = true then 1 else 0), h) := rfl
@[simp] theorem bAbs_i (i : Int) (h : VH) : bAbs [.int i] h = some (.int (if i < 0 then -i else i), h) := rfl
@[simp] theorem bTup_s (d : D) (h : VH) : bTup [d] h = ((seqOf h d).map .tup).map fun d => (d, h) := rfl
@[simp] theorem bList_s (d : D) (h : VH) : bList [d] h = (seqOf h d).map fun l => (.ref h.length, h ++ [.lst l]) := rfl
@[simp] theorem bLen_t (l : List D) (h : VH) : bLen [.tup l] h = some (.int l.length, h) := rfl
@[simp] theorem bLen_r (n : Nat) (h : VH) : bLen [.ref n] h = (lk h n).map fun l => (.int l.length, h) := by
  unfold bLen pureB
  simp [one]
  rfl
@[simp] theorem dIsN_n (x : D) (h : VH) : dIsN x .non h = some (.bl (isNon x), h) := rfl
@[simp] theorem dNotN_n (x : D) (h : VH) : dNotN x .non h = some (.bl (!isNon x), h) := rfl
@[simp] theorem isNon_n : isNon .non = true := rfl
@[simp] theorem isNon_t (l : List D) : isNon (.tup l) = false := rfl
@[simp] theorem isNon_i (i : Int) : isNon (.int i) = false := rfl
@[simp] theorem permL_ap (ix : List Nat) {α : Type} (us ws : List α) : permL ix us ws = ix.filterMap fun i => (us ++ ws)[i]? := rfl
@[simp] theorem kwP_ap (n m np : Nat) (ix : List Nat) (a b : List D) : kwP n m np ix a b = if a.length = n ∧ b.length = m then permL ix a b else List.replicate (np + 1) .non := rfl

section
variable {s : VS} {h h1 : VH} {a : VA}
theorem vRng1_of {j : Int} (e : a s h = .ok ([.int j], h1)) (hj : inRng j = true) : vRng1 a s h = .ok (fun _ => some (rangeD 0 1 j.toNat), h1) := by
  unfold vRng1
  rw [e]
  simp only [Res.ok_bind, int1_1, hj, if_true]
theorem vRng2_of {i j : Int} (e : a s h = .ok ([.int i, .int j], h1)) (hi : inRng i = true) (hj : inRng j = true) : vRng2 a s h = .ok (fun _ => some (rangeD i 1 (j - i).toNat), h1) := by
  unfold vRng2
  rw [e]
  simp only [Res.ok_bind, int2_2, hi, hj, Bool.and_self, if_true]
theorem vEnum_of {d : D} {src : VH → Option (List D)} (e : a s h = .ok ([d], h1)) (es : srcOf d = some src) : vEnum a s h = .ok (fun h => (src h).map enumD, h1) := by
  unfold vEnum
  rw [e]
  simp only [Res.ok_bind, one_1, Option.bind_some, es]
theorem vZip_of {d e : D} {src : VH → Option (List D)} (e1 : a s h = .ok ([d, e], h1)) (es : zipSrc (d, e) = some src) : vZip a s h = .ok (src, h1) := by
  unfold vZip
  rw [e1]
  simp only [Res.ok_bind, two_2, Option.bind_some, es]
end

/-! ### heaps that grow at their end -/
@[simp] theorem lk_at (h : VH) (l : List D) (r : VH) : lk (h ++ .lst l :: r) h.length = some l := by simp [lk]
@[simp] theorem lk_at1 (h : VH) (c : Cell) (l : List D) (r : VH) : lk (h ++ c :: .lst l :: r) (h.length + 1) = some l := by
  unfold lk
  rw [List.getElem?_append_right (by omega)]
  simp
@[simp] theorem lk_at2 (h : VH) (c c2 : Cell) (l : List D) (r : VH) : lk (h ++ c :: c2 :: .lst l :: r) (h.length + 2) = some l := by
  unfold lk
  rw [List.getElem?_append_right (by omega)]
  simp
theorem lk_app {h : VH} {n : Nat} {l : List D} (e : lk h n = some l) (g : VH) : lk (h ++ g) n = some l := by
  unfold lk at e ⊢
  have : n < h.length := by
    by_cases q : n < h.length
    · exact q
    · rw [List.getElem?_eq_none (by omega)] at e
      cases e
  rw [List.getElem?_append_left this]
  exact e
@[simp] theorem set_at (h : VH) (c d : Cell) (r : VH) : (h ++ c :: r).set h.length d = h ++ d :: r := by
  rw [List.set_append_right _ _ (Nat.le_refl _)]
  simp
@[simp] theorem set_at1 (h : VH) (b c d : Cell) (r : VH) : (h ++ b :: c :: r).set (h.length + 1) d = h ++ b :: d :: r := by
  rw [List.set_append_right _ _ (by omega)]
  simp

/-! ### loops -/
/-- one turn -/
def turn (g : VG) (body : VSt) (d : D) (s : VS) (h : VH) : Res (Out × VS × VH) := (g d s h).bind fun q => body q.1 q.2
/-- a turn that goes on to the next -/
def Goes (r : Res (Out × VS × VH)) (s : VS) (h : VH) : Prop := r = .ok (.nx, s, h) ∨ r = .ok (.ct, s, h)
/-- a for whose turns keep I, or hand something back -/
theorem loop_run {src : VH → Option (List D)} {g : VG} {body : VSt} {xs : List D} (I : Nat → VS → VH → Prop) (R : D → VS → VH → Prop)
    (hsrc : ∀ i s h, I i s h → src h = some xs)
    (step : ∀ i d s h, xs[i]? = some d → I i s h → (∃ s' h', Goes (turn g body d s h) s' h' ∧ I (i + 1) s' h') ∨ ∃ d' s' h', turn g body d s h = .ok (.rt d', s', h') ∧ R d' s' h') :
    ∀ (n i : Nat) (s : VS) (h : VH), i + n = xs.length → I i s h →
      (∃ s' h', loopF src g body n i s h = .ok (.nx, s', h') ∧ I xs.length s' h') ∨ ∃ d' s' h', loopF src g body n i s h = .ok (.rt d', s', h') ∧ R d' s' h'
  | 0, i, s, h, e, hi => by
    have e' : i = xs.length := by omega
    subst e'
    refine .inl ⟨s, h, ?_, hi⟩
    unfold loopF
    rw [hsrc _ _ _ hi]
    simp
  | n + 1, i, s, h, e, hi => by
    have hlt : i < xs.length := by omega
    have ei : xs[i]? = some xs[i] := List.getElem?_eq_getElem hlt
    unfold loopF
    simp only [hsrc _ _ _ hi, ei]
    rcases step i _ s h ei hi with ⟨s', h', go, hi'⟩ | ⟨d', s', h', er, hr⟩
    · have ih := loop_run I R hsrc step n (i + 1) s' h' (by omega) hi'
      unfold turn at go
      cases eg : g xs[i] s h with
      | bad => rw [eg] at go; rcases go with go | go <;> cases go
      | ex _ _ _ => rw [eg] at go; rcases go with go | go <;> cases go
      | ok q =>
        rw [eg] at go
        simp only [Res.ok_bind] at go ⊢
        rcases go with go | go <;> (rw [go]; exact ih)
    · refine .inr ⟨d', s', h', ?_, hr⟩
      unfold turn at er
      cases eg : g xs[i] s h with
      | bad => rw [eg] at er; cases er
      | ex _ _ _ => rw [eg] at er; cases er
      | ok q =>
        rw [eg] at er
        simp only [Res.ok_bind] at er ⊢
        rw [er]
        rfl
theorem for_run {it : VI} {g : VG} {body : VSt} {s : VS} {h h1 : VH} {src : VH → Option (List D)} {xs : List D} (I : Nat → VS → VH → Prop) (R : D → VS → VH → Prop)
    (hit : it s h = .ok (src, h1)) (hsrc : ∀ i s h, I i s h → src h = some xs) (h0 : I 0 s h1)
    (step : ∀ i d s h, xs[i]? = some d → I i s h → (∃ s' h', Goes (turn g body d s h) s' h' ∧ I (i + 1) s' h') ∨ ∃ d' s' h', turn g body d s h = .ok (.rt d', s', h') ∧ R d' s' h') :
    (∃ s' h', vFor it g body s h = .ok (.nx, s', h') ∧ I xs.length s' h') ∨ ∃ d' s' h', vFor it g body s h = .ok (.rt d', s', h') ∧ R d' s' h' := by
  have z := loop_run I R hsrc step xs.length 0 s h1 (by omega) h0
  unfold vFor
  simp only [hit, Res.ok_bind, hsrc _ _ _ h0]
  exact z
/-- .. that hands nothing back -/
theorem for_all {it : VI} {g : VG} {body : VSt} {s : VS} {h h1 : VH} {src : VH → Option (List D)} {xs : List D} (I : Nat → VS → VH → Prop)
    (hit : it s h = .ok (src, h1)) (hsrc : ∀ i s h, I i s h → src h = some xs) (h0 : I 0 s h1)
    (step : ∀ i d s h, xs[i]? = some d → I i s h → ∃ s' h', Goes (turn g body d s h) s' h' ∧ I (i + 1) s' h') :
    ∃ s' h', vFor it g body s h = .ok (.nx, s', h') ∧ I xs.length s' h' := by
  rcases for_run I (fun _ _ _ => False) hit hsrc h0 (fun i d s h e hi => .inl (step i d s h e hi)) with z | ⟨_, _, _, _, z⟩
  · exact z
  · exact z.elim

/-! ### comprehensions -/
/-- a fold that maps -/
def mapS {S α β : Type} (f : S → α → β × S) : List α → S → List β × S
  | [], s => ([], s)
  | a :: r, s => let p := f s a; let q := mapS f r p.2; (p.1 :: q.1, q.2)
theorem mapS_length {S α β : Type} (f : S → α → β × S) : ∀ (l : List α) (s : S), (mapS f l s).1.length = l.length
  | [], _ => rfl
  | a :: r, s => by simp [mapS, mapS_length f r]
/-- a comprehension without a test whose element turns a state; the heap by the state -/
theorem lc_st {S α : Type} {it : VI} {vs : List Nat} {g : VP} {e : VE} {s : VS} {h : VH} {src : VH → Option (List D)} {ys : List α} {c : α → D} (hp : S → VH) (f : S → α → D × S) (st : S)
    (hit : it s h = .ok (src, hp st)) (hlen : ∀ st', (hp st').length = (hp st).length) (hsrc : ∀ st' acc, src (hp st' ++ [.lst acc]) = some (ys.map c)) (hz : ys.length ≤ sizeLine)
    (step : ∀ y ∈ ys, ∀ st' acc, ∃ s', g (c y) (vwipe s vs) = some s' ∧ e s' (hp st' ++ [.lst acc]) = .ok ((f st' y).1, hp (f st' y).2 ++ [.lst acc])) :
    vLc it vs g vYes e s h = .ok (.ref (hp st).length, hp (mapS f ys st).2 ++ [.lst (mapS f ys st).1]) := by
  have gen : ∀ (k i : Nat) (st' : S) (acc : List D), i + k = ys.length → acc.length = i →
      lcF src vs g vYes e (hp st).length s k i (hp st' ++ [.lst acc]) = .ok (hp (mapS f (ys.drop i) st').2 ++ [.lst (acc ++ (mapS f (ys.drop i) st').1)]) := by
    intro k
    induction k with
    | zero =>
      intro i st' acc e1 e2
      unfold lcF
      rw [hsrc]
      simp only
      rw [if_pos (by rw [List.length_map]; omega), List.drop_eq_nil_of_le (by omega)]
      simp [mapS]
    | succ k ih =>
      intro i st' acc e1 e2
      have hlt : i < ys.length := by omega
      obtain ⟨s', eg, ee⟩ := step ys[i] (List.getElem_mem hlt) st' acc
      unfold lcF
      rw [hsrc]
      simp only [List.getElem?_map, List.getElem?_eq_getElem hlt, Option.map_some, eg, vYes_ap, noex_ok, Res.ok_bind, if_true, ee]
      have pa : putAt (hp st).length (f st' ys[i]).1 (hp (f st' ys[i]).2 ++ [.lst acc]) = .ok (hp (f st' ys[i]).2 ++ [.lst (acc ++ [(f st' ys[i]).1])]) := by
        unfold putAt
        rw [← hlen (f st' ys[i]).2]
        simp only [List.getElem?_concat_length]
        rw [if_pos (by omega)]
        rw [set_at]
      rw [pa]
      simp only [Res.ok_bind]
      rw [ih (i + 1) _ _ (by omega) (by simp [e2])]
      rw [List.drop_eq_getElem_cons hlt]
      simp [mapS]
  unfold vLc
  simp only [hit, Res.ok_bind, hsrc]
  rw [show (ys.map c).length = ys.length from List.length_map ..]
  rw [gen ys.length 0 st [] (by omega) rfl]
  simp
/-- .. whose element leaves the heap, with a test -/
theorem lc_pure {α : Type} {it : VI} {vs : List Nat} {g : VP} {t : VT} {e : VE} {s : VS} {h h1 : VH} {src : VH → Option (List D)} {ys : List α} {c : α → D} (p : α → Bool) (f : α → D)
    (hit : it s h = .ok (src, h1)) (hsrc : ∀ acc, src (h1 ++ [.lst acc]) = some (ys.map c)) (hz : ys.length ≤ sizeLine)
    (step : ∀ y ∈ ys, ∀ acc, ∃ s', g (c y) (vwipe s vs) = some s' ∧ t s' (h1 ++ [.lst acc]) = .ok (p y, h1 ++ [.lst acc]) ∧ (p y = true → e s' (h1 ++ [.lst acc]) = .ok (f y, h1 ++ [.lst acc]))) :
    vLc it vs g t e s h = .ok (.ref h1.length, h1 ++ [.lst ((ys.filter p).map f)]) := by
  have gen : ∀ (k i : Nat) (acc : List D), i + k = ys.length → acc.length ≤ i →
      lcF src vs g t e h1.length s k i (h1 ++ [.lst acc]) = .ok (h1 ++ [.lst (acc ++ ((ys.drop i).filter p).map f)]) := by
    intro k
    induction k with
    | zero =>
      intro i acc e1 e2
      unfold lcF
      rw [hsrc]
      simp only
      rw [if_pos (by rw [List.length_map]; omega), List.drop_eq_nil_of_le (by omega)]
      simp
    | succ k ih =>
      intro i acc e1 e2
      have hlt : i < ys.length := by omega
      obtain ⟨s', eg, et, ee⟩ := step ys[i] (List.getElem_mem hlt) acc
      unfold lcF
      rw [hsrc]
      simp only [List.getElem?_map, List.getElem?_eq_getElem hlt, Option.map_some, eg, et, noex_ok, Res.ok_bind]
      rw [List.drop_eq_getElem_cons hlt, List.filter_cons]
      cases hp : p ys[i] with
      | false =>
        simp only [Bool.false_eq_true, if_false]
        exact ih (i + 1) acc (by omega) (by omega)
      | true =>
        simp only [if_true, ee hp, noex_ok, Res.ok_bind]
        have pa : putAt h1.length (f ys[i]) (h1 ++ [.lst acc]) = .ok (h1 ++ [.lst (acc ++ [f ys[i]])]) := by
          unfold putAt
          simp only [List.getElem?_concat_length]
          rw [if_pos (by omega), set_at]
        rw [pa]
        simp only [Res.ok_bind]
        rw [ih (i + 1) _ (by omega) (by simp; omega)]
        simp
  unfold vLc
  simp only [hit, Res.ok_bind, hsrc]
  rw [show (ys.map c).length = ys.length from List.length_map ..]
  rw [gen ys.length 0 [] (by omega) (Nat.le_refl _)]
  simp

theorem le_line {n : Nat} (h : n ≤ 16777216) : n ≤ sizeLine := by
  rw [sizeLine_eq]
  exact h
theorem lt_line {n : Nat} (h : n < 16777216) : n < sizeLine := by
  rw [sizeLine_eq]
  exact h
@[simp] theorem rangeD_one (lo : Int) (n : Nat) : rangeD lo 1 n = (List.range n).map fun (k : Nat) => D.int (lo + (k : Int)) := by
  unfold rangeD
  simp only [Int.mul_one]
/-- over range(n), no test -/
theorem lc_rng1 {a : VA} {vs : List Nat} {g : VP} {e : VE} {s : VS} {h h1 : VH} {n : Int} (f : Nat → D) (ha : a s h = .ok ([.int n], h1)) (h0 : -1000000 ≤ n) (h2 : n ≤ 1000000)
    (step : ∀ k : Nat, (k : Int) < n → ∀ acc, ∃ s', g (.int (k : Int)) (vwipe s vs) = some s' ∧ e s' (h1 ++ [.lst acc]) = .ok (f k, h1 ++ [.lst acc])) :
    vLc (vRng1 a) vs g vYes e s h = .ok (.ref h1.length, h1 ++ [.lst ((List.range n.toNat).map f)]) := by
  have z := lc_pure (it := vRng1 a) (vs := vs) (g := g) (t := vYes) (e := e) (s := s) (h := h) (h1 := h1) (src := fun _ => some (rangeD 0 1 n.toNat)) (ys := List.range n.toNat) (c := fun (k : Nat) => D.int ((0 : Int) + (k : Int))) (fun _ => true) f
    (vRng1_of ha (by unfold inRng; exact decide_eq_true (by omega))) (fun acc => by rw [rangeD_one]) (by rw [List.length_range]; exact le_line (by omega)) (fun k hk acc => by
      have hk' : (k : Int) < n := by
        have := List.mem_range.mp hk
        omega
      obtain ⟨s', e1, e2⟩ := step k hk' acc
      exact ⟨s', by rw [Int.zero_add]; exact e1, rfl, fun _ => e2⟩)
  rw [z, List.filter_eq_self.mpr (fun _ _ => rfl)]
/-- over range(i, j) with a test -/
theorem lc_rng2 {a : VA} {vs : List Nat} {g : VP} {t : VT} {e : VE} {s : VS} {h h1 : VH} {i j : Int} (p : Nat → Bool) (f : Nat → D) (ha : a s h = .ok ([.int i, .int j], h1)) (h0 : -1000000 ≤ i) (h2 : i ≤ 1000000) (h3 : -1000000 ≤ j) (h4 : j ≤ 1000000)
    (step : ∀ k : Nat, i + (k : Int) < j → ∀ acc, ∃ s', g (.int (i + (k : Int))) (vwipe s vs) = some s' ∧ t s' (h1 ++ [.lst acc]) = .ok (p k, h1 ++ [.lst acc]) ∧ (p k = true → e s' (h1 ++ [.lst acc]) = .ok (f k, h1 ++ [.lst acc]))) :
    vLc (vRng2 a) vs g t e s h = .ok (.ref h1.length, h1 ++ [.lst (((List.range (j - i).toNat).filter p).map f)]) :=
  lc_pure (src := fun _ => some (rangeD i 1 (j - i).toNat)) p f
    (vRng2_of ha (by unfold inRng; exact decide_eq_true (by omega)) (by unfold inRng; exact decide_eq_true (by omega))) (fun acc => by rw [rangeD_one]) (by rw [List.length_range]; exact le_line (by omega)) (fun k hk acc => by
      have hk' : i + (k : Int) < j := by
        have := List.mem_range.mp hk
        omega
      exact step k hk' acc)
/-- over a tuple -/
theorem lc_tup {α : Type} {a : VE} {vs : List Nat} {g : VP} {t : VT} {e : VE} {s : VS} {h h1 : VH} {ys : List α} {c : α → D} (p : α → Bool) (f : α → D) (ha : a s h = .ok (.tup (ys.map c), h1)) (hz : ys.length ≤ 16777216)
    (step : ∀ y ∈ ys, ∀ acc, ∃ s', g (c y) (vwipe s vs) = some s' ∧ t s' (h1 ++ [.lst acc]) = .ok (p y, h1 ++ [.lst acc]) ∧ (p y = true → e s' (h1 ++ [.lst acc]) = .ok (f y, h1 ++ [.lst acc]))) :
    vLc (vIt a) vs g t e s h = .ok (.ref h1.length, h1 ++ [.lst ((ys.filter p).map f)]) :=
  lc_pure (src := fun _ => some (ys.map c)) p f (by simp [ha]) (fun _ => rfl) (le_line hz) step
/-- over a list that stands -/
theorem lc_lst {α : Type} {a : VE} {vs : List Nat} {g : VP} {t : VT} {e : VE} {s : VS} {h h1 : VH} {n : Nat} {ys : List α} {c : α → D} (p : α → Bool) (f : α → D) (ha : a s h = .ok (.ref n, h1)) (hn : lk h1 n = some (ys.map c)) (hz : ys.length ≤ 16777216)
    (step : ∀ y ∈ ys, ∀ acc, ∃ s', g (c y) (vwipe s vs) = some s' ∧ t s' (h1 ++ [.lst acc]) = .ok (p y, h1 ++ [.lst acc]) ∧ (p y = true → e s' (h1 ++ [.lst acc]) = .ok (f y, h1 ++ [.lst acc]))) :
    vLc (vIt a) vs g t e s h = .ok (.ref h1.length, h1 ++ [.lst ((ys.filter p).map f)]) :=
  lc_pure (src := fun h => lk h n) p f (by simp [ha]) (fun acc => lk_app hn _) (le_line hz) step
/-- over enumerate of a tuple -/
theorem lc_enum {α : Type} {a : VA} {vs : List Nat} {g : VP} {t : VT} {e : VE} {s : VS} {h h1 : VH} {ys : List α} {c : α → D} (p : α × Nat → Bool) (f : α × Nat → D) (ha : a s h = .ok ([.tup (ys.map c)], h1)) (hz : ys.length ≤ 16777216)
    (step : ∀ y ∈ ys.zipIdx, ∀ acc, ∃ s', g (.tup [.int (y.2 : Int), c y.1]) (vwipe s vs) = some s' ∧ t s' (h1 ++ [.lst acc]) = .ok (p y, h1 ++ [.lst acc]) ∧ (p y = true → e s' (h1 ++ [.lst acc]) = .ok (f y, h1 ++ [.lst acc]))) :
    vLc (vEnum a) vs g t e s h = .ok (.ref h1.length, h1 ++ [.lst ((ys.zipIdx.filter p).map f)]) :=
  lc_pure (src := fun _ => some (enumD (ys.map c))) (c := fun (y : α × Nat) => D.tup [.int (y.2 : Int), c y.1]) p f (vEnum_of ha rfl) (fun _ => by
    unfold enumD
    congr 1
    rw [List.zipIdx_map, List.map_map]
    rfl) (by rw [List.length_zipIdx]; exact le_line hz) step
/-- over zip of two tuples -/
theorem lc_zip {α β : Type} {a : VA} {vs : List Nat} {g : VP} {t : VT} {e : VE} {s : VS} {h h1 : VH} {ys : List α} {zs : List β} {c : α → D} {d : β → D} (p : α × β → Bool) (f : α × β → D) (ha : a s h = .ok ([.tup (ys.map c), .tup (zs.map d)], h1)) (hz : ys.length ≤ 16777216)
    (step : ∀ y ∈ ys.zip zs, ∀ acc, ∃ s', g (.tup [c y.1, d y.2]) (vwipe s vs) = some s' ∧ t s' (h1 ++ [.lst acc]) = .ok (p y, h1 ++ [.lst acc]) ∧ (p y = true → e s' (h1 ++ [.lst acc]) = .ok (f y, h1 ++ [.lst acc]))) :
    vLc (vZip a) vs g t e s h = .ok (.ref h1.length, h1 ++ [.lst (((ys.zip zs).filter p).map f)]) :=
  lc_pure (src := fun _ => some (zipD (ys.map c) (zs.map d))) (c := fun (y : α × β) => D.tup [c y.1, d y.2]) p f (vZip_of ha rfl) (fun _ => by
    unfold zipD
    congr 1
    rw [List.zip_map, List.map_map]
    rfl) (by rw [List.length_zip]; exact le_line (by omega)) step

/-! ### saying it plainly -/
/-- no address within -/
def D.flat (d : D) : Bool := D.lt 0 d
mutual
theorem lt_mono {m n : Nat} (h : m ≤ n) : ∀ d : D, D.lt m d = true → D.lt n d = true
  | .tup l, e => by simp only [D.lt] at e ⊢; exact ltAll_mono h l e
  | .ftup l, e => by simp only [D.lt] at e ⊢; exact ltAll_mono h l e
  | .dic _ l, e => by simp only [D.lt] at e ⊢; exact ltAll_mono h l e
  | .ref k, e => by simp only [D.lt, decide_eq_true_eq] at e ⊢; omega
  | .non, _ => by simp [D.lt]
  | .bl _, _ => by simp [D.lt]
  | .int _, _ => by simp [D.lt]
  | .str _, _ => by simp [D.lt]
theorem ltAll_mono {m n : Nat} (h : m ≤ n) : ∀ d : List D, D.ltAll m d = true → D.ltAll n d = true
  | [], _ => rfl
  | d :: r, e => by
    simp only [D.ltAll, Bool.and_eq_true] at e ⊢
    exact ⟨lt_mono h d e.1, ltAll_mono h r e.2⟩
end
def pureFn (f : List D → Option D) : Fn := fun ds h => match f ds with
  | some d => .ok (d, h)
  | none => .bad
theorem says_pure {f : List D → Option D} {F : Fn} (hp : ∀ ds d, f ds = some d → D.flat d = true) (hF : ∀ ds d h, closed h → f ds = some d → ∃ g, F ds h = .ok (d, h ++ g)) : Says (pureFn f) F := fun ds h hc hl => by
  unfold pureFn
  cases e : f ds with
  | none => trivial
  | some d => exact ⟨hF ds d h hc e, Nat.le_refl _, hc, lt_mono (Nat.zero_le _) d (hp ds d e)⟩
theorem mF_rt {N : Nat} {f : VSt} {ds : List D} {h h' : VH} {d : D} {s' : VS} (e : f (ds.map some ++ List.replicate (N - ds.length) none) h = .ok (.rt d, s', h')) : mF N f ds h = .ok (d, h') := by
  unfold mF
  rw [e]
theorem mF_nx {N : Nat} {f : VSt} {ds : List D} {h h' : VH} {s' : VS} (e : f (ds.map some ++ List.replicate (N - ds.length) none) h = .ok (.nx, s', h')) : mF N f ds h = .ok (.non, h') := by
  unfold mF
  rw [e]
end Vq

/-! Part 15: plain data: ints, truth values, tuples of such; == and repr of them. -/
namespace Vq
open PySem

@[simp] theorem pyD_i (f : Nat → Option PyData) (i : Int) : pyD f (.int i) = some (.int i) := by simp only [pyD]
@[simp] theorem pyD_b (f : Nat → Option PyData) (i : Bool) : pyD f (.bl i) = some (.bool i) := by simp only [pyD]
@[simp] theorem pyD_n (f : Nat → Option PyData) : pyD f .non = some .none := by simp only [pyD]
@[simp] theorem pyD_s (f : Nat → Option PyData) (i : Str) : pyD f (.str i) = some (.str i) := by simp only [pyD]
@[simp] theorem pyL_nil (f : Nat → Option PyData) : pyL f [] = some [] := by simp only [pyL]

/-- plain data of one kind -/
class Pl (α : Type) [DecidableEq α] where
  d : α → D
  p : α → PyData
  dep : Nat
  hp : ∀ f a, pyD f (d a) = some (p a)
  lay : ∀ a, (p a).canLay0 = true
  depth : ∀ a, (p a).depth ≤ dep
  fl : ∀ n a, D.lt n (d a) = true
  eq : ∀ a b, PyData.eqv (p a) (p b) = decide (a = b)
instance : Pl Int where
  d := .int
  p := .int
  dep := 0
  hp := fun f a => pyD_i f a
  lay := fun a => by simp only [PyData.canLay0]
  depth := fun a => by simp only [PyData.depth, Nat.le_refl]
  fl := fun n a => by simp only [D.lt]
  eq := fun a b => by simp only [PyData.eqv]; rfl
instance : Pl Bool where
  d := .bl
  p := .bool
  dep := 0
  hp := fun f a => pyD_b f a
  lay := fun a => by simp only [PyData.canLay0]
  depth := fun a => by simp only [PyData.depth, Nat.le_refl]
  fl := fun n a => by simp only [D.lt]
  eq := fun a b => by simp only [PyData.eqv]; cases a <;> cases b <;> rfl
section
variable {α : Type} [DecidableEq α] [Pl α]
theorem pl_pyL (f : Nat → Option PyData) : ∀ l : List α, pyL f (l.map Pl.d) = some (l.map Pl.p)
  | [] => by simp only [List.map_nil, pyL]
  | a :: r => by
    simp only [List.map_cons, pyL, Pl.hp, pl_pyL f r]
    rfl
theorem pl_lay : ∀ l : List α, PyData.canLayAll0 (l.map Pl.p) = true
  | [] => by simp only [List.map_nil, PyData.canLayAll0]
  | a :: r => by simp only [List.map_cons, PyData.canLayAll0, Pl.lay, pl_lay r, Bool.and_self]
theorem pl_depth : ∀ l : List α, PyData.depthAll (l.map Pl.p) ≤ Pl.dep α
  | [] => by simp only [List.map_nil, PyData.depthAll, Nat.zero_le]
  | a :: r => by
    simp only [List.map_cons, PyData.depthAll]
    exact Nat.max_le.mpr ⟨Pl.depth a, pl_depth r⟩
theorem pl_fl (n : Nat) : ∀ l : List α, D.ltAll n (l.map Pl.d) = true
  | [] => by simp only [List.map_nil, D.ltAll]
  | a :: r => by simp only [List.map_cons, D.ltAll, Pl.fl, pl_fl n r, Bool.and_self]
theorem pl_eq : ∀ l m : List α, PyData.eqvAll (l.map Pl.p) (m.map Pl.p) = decide (l = m)
  | [], [] => by simp [PyData.eqvAll]
  | [], _ :: _ => by simp [PyData.eqvAll]
  | _ :: _, [] => by simp [PyData.eqvAll]
  | a :: r, b :: s => by
    simp only [List.map_cons, PyData.eqvAll, Pl.eq, pl_eq r s, List.cons.injEq, Bool.decide_and]
end
instance {α : Type} [DecidableEq α] [Pl α] : Pl (List α) where
  d := fun l => .tup (l.map Pl.d)
  p := fun l => .tuple (l.map Pl.p)
  dep := Pl.dep α + 1
  hp := fun f l => by simp only [pyD, pl_pyL]; rfl
  lay := fun l => by simp only [PyData.canLay0, pl_lay]
  depth := fun l => by simp only [PyData.depth]; exact Nat.succ_le_succ (pl_depth l)
  fl := fun n l => by simp only [D.lt, pl_fl]
  eq := fun l m => by simp only [PyData.eqv, pl_eq]
instance {α β : Type} [DecidableEq α] [DecidableEq β] [Pl α] [Pl β] : Pl (α × β) where
  d := fun a => .tup [Pl.d a.1, Pl.d a.2]
  p := fun a => .tuple [Pl.p a.1, Pl.p a.2]
  dep := max (Pl.dep α) (Pl.dep β) + 1
  hp := fun f a => by simp only [pyD, pyL, Pl.hp]; rfl
  lay := fun a => by simp only [PyData.canLay0, PyData.canLayAll0, Pl.lay, Bool.and_self]
  depth := fun a => by
    simp only [PyData.depth, PyData.depthAll]
    have := Pl.depth a.1
    have := Pl.depth a.2
    omega
  fl := fun n a => by simp only [D.lt, D.ltAll, Pl.fl, Bool.and_self]
  eq := fun a b => by
    simp only [PyData.eqv, PyData.eqvAll, Pl.eq, Bool.and_true]
    obtain ⟨a1, a2⟩ := a
    obtain ⟨b1, b2⟩ := b
    simp only [Prod.mk.injEq, Bool.decide_and]
section
variable {α : Type} [DecidableEq α] [Pl α]
theorem pl_shaped (hd : Pl.dep α ≤ 64) (a : α) : SeqAt.shaped (Pl.p a) = true := by
  unfold SeqAt.shaped
  rw [Pl.lay, decide_eq_true (Nat.le_trans (Pl.depth a) hd)]
  rfl
theorem pl_py (h : VH) (a : α) : py h (Pl.d a) = some (Pl.p a) := Pl.hp _ a
theorem pl_eqW (neg : Bool) (h : VH) (hd : Pl.dep α ≤ 64) (a b : α) : eqWith neg (Pl.d a) (Pl.d b) h = some (.bl (if neg then !decide (a = b) else decide (a = b)), h) := by
  unfold eqWith
  simp only [pl_py, pl_shaped hd, Bool.and_self, if_true, Pl.eq]
end
@[simp] theorem eqWith_ii (neg : Bool) (h : VH) (a b : Int) : eqWith neg (.int a) (.int b) h = some (.bl (if neg then !decide (a = b) else decide (a = b)), h) := pl_eqW (α := Int) neg h (Nat.zero_le _) a b
@[simp] theorem dEq_i (h : VH) (a b : Int) : dEq (.int a) (.int b) h = some (.bl (decide (a = b)), h) := eqWith_ii false h a b
@[simp] theorem dNe_i (h : VH) (a b : Int) : dNe (.int a) (.int b) h = some (.bl (!decide (a = b)), h) := eqWith_ii true h a b
@[simp] theorem dEq_b (h : VH) (a b : Bool) : dEq (.bl a) (.bl b) h = some (.bl (decide (a = b)), h) := pl_eqW (α := Bool) false h (Nat.zero_le _) a b
@[simp] theorem dNe_b (h : VH) (a b : Bool) : dNe (.bl a) (.bl b) h = some (.bl (!decide (a = b)), h) := pl_eqW (α := Bool) true h (Nat.zero_le _) a b
@[simp] theorem dEq_s (h : VH) (a b : Str) : dEq (.str a) (.str b) h = some (.bl (decide (a = b)), h) := rfl
@[simp] theorem dNe_s (h : VH) (a b : Str) : dNe (.str a) (.str b) h = some (.bl (!decide (a = b)), h) := rfl
@[simp] theorem dEq_I (h : VH) (a b : List Int) : dEq (.tup (a.map .int)) (.tup (b.map .int)) h = some (.bl (decide (a = b)), h) := pl_eqW (α := List Int) false h (by decide) a b
@[simp] theorem dNe_I (h : VH) (a b : List Int) : dNe (.tup (a.map .int)) (.tup (b.map .int)) h = some (.bl (!decide (a = b)), h) := pl_eqW (α := List Int) true h (by decide) a b
@[simp] theorem dEq_In (h : VH) (a : List Int) : dEq (.tup (a.map .int)) (.tup []) h = some (.bl (decide (a = [])), h) := dEq_I h a []
@[simp] theorem dNe_In (h : VH) (a : List Int) : dNe (.tup (a.map .int)) (.tup []) h = some (.bl (!decide (a = [])), h) := dNe_I h a []
/-- lists of ints -/
theorem py_ref {h : VH} {n : Nat} {l : List D} {ps : List PyData} (e : lk h n = some l) (hp : ∀ f, pyL f l = some ps) : py h (.ref n) = some (.list ps) := by
  unfold py
  simp only [pyD, refPy, e, Option.bind_some, hp, Option.map_some]
theorem eqL (neg : Bool) {h : VH} {n m : Nat} {a b : List Int} (e1 : lk h n = some (a.map .int)) (e2 : lk h m = some (b.map .int)) : eqWith neg (.ref n) (.ref m) h = some (.bl (if neg then !decide (a = b) else decide (a = b)), h) := by
  have p1 := py_ref (ps := a.map .int) e1 fun f => pl_pyL (α := Int) f a
  have p2 := py_ref (ps := b.map .int) e2 fun f => pl_pyL (α := Int) f b
  have s1 : ∀ a : List Int, SeqAt.shaped (.list (a.map .int)) = true := fun a => by
    unfold SeqAt.shaped
    have h1 : PyData.canLay0 (.list (a.map .int)) = true := by
      simp only [PyData.canLay0]
      exact pl_lay (α := Int) a
    have h2 : PyData.depth (.list (a.map .int)) ≤ 64 := by
      simp only [PyData.depth]
      have : PyData.depthAll (a.map .int) ≤ 0 := pl_depth (α := Int) a
      omega
    rw [h1, decide_eq_true h2]
    rfl
  have e : PyData.eqv (.list (a.map .int)) (.list (b.map .int)) = decide (a = b) := by
    simp only [PyData.eqv]
    exact pl_eq (α := Int) a b
  unfold eqWith
  simp only [p1, p2, s1, Bool.and_self, if_true, e]
theorem dEq_L {h : VH} {n m : Nat} {a b : List Int} (e1 : lk h n = some (a.map .int)) (e2 : lk h m = some (b.map .int)) : dEq (.ref n) (.ref m) h = some (.bl (decide (a = b)), h) := eqL false e1 e2
theorem dNe_L {h : VH} {n m : Nat} {a b : List Int} (e1 : lk h n = some (a.map .int)) (e2 : lk h m = some (b.map .int)) : dNe (.ref n) (.ref m) h = some (.bl (!decide (a = b)), h) := eqL true e1 e2

/-! ### repr -/
mutual
/-- how large a thing is -/
def size : PyData → Nat
  | .none => 1
  | .bool _ => 1
  | .int _ => 1
  | .str x => x.length + 1
  | .list l => sizes l + 1
  | .tuple l => sizes l + 1
  | .dict _ => 0
def sizes : List PyData → Nat
  | [] => 0
  | x :: r => size x + sizes r
end
def noDict : PyData → Bool := fun d => d.canLay0
theorem strLen_app (a b : Str) : (a ++ b).length = a.length + b.length := strLen_append a b
mutual
theorem shown_len : ∀ d : PyData, d.canLay0 = true → d.showable = true → d.shown.length + 2 ≤ 2000 * size d
  | .none, _, _ => by simp only [PyData.shown, size]; decide
  | .bool b, _, _ => by
    simp only [PyData.shown, size]
    cases b <;> decide
  | .int i, _, h => by
    simp only [PyData.showable, decide_eq_true_eq] at h
    have h1 := int_text_length_le (a := i) (k := 1920) (by decide) h
    have h2 : (Str.ofString (toString i)).length = (toString i).length := ofString_length _
    simp only [PyData.shown, size]
    rw [h2]
    omega
  | .str x, h, _ => by
    simp only [PyData.shown, size]
    have h1 : (reprText x).length ≤ 10 * x.length + 2 := StrLaws.reprText_len x fun c hc => by
      simp only [PyData.canLay0, PyData.strOk] at h
      have h' := (Array.all_eq_true'.mp h) c (by simpa using hc)
      have h' : c < 0x110000 := by simpa using h'
      exact Nat.lt_trans h' (by decide)
    omega
  | .list l, h, g => by
    simp only [PyData.canLay0] at h
    simp only [PyData.showable] at g
    simp only [PyData.shown, size]
    have ih := shown_lens l h g
    cases l with
    | nil =>
      simp only [PyData.shownAll, sizes]
      decide
    | cons a r =>
      unfold listText
      rw [strLen_app]
      have z := textFrom_length_pos (PyData.shownAll (a :: r)) 1 "[" (by decide)
      have q : (textFrom 0 "[" (PyData.shownAll (a :: r))).length + 2 = (textFrom 1 "[" (PyData.shownAll (a :: r))).length := by
        simp only [PyData.shownAll, textFrom]
        rw [textFrom_length_pos _ 1 _ (by decide), textFrom_length_pos _ 2 _ (by decide)]
        simp only [strLen_app]
        have e1 : (Str.ofString (if 0 > 0 then ", " else "")).length = 0 := by decide
        have e2 : (Str.ofString (if 1 > 0 then ", " else "")).length = 2 := by decide
        omega
      have e3 : (Str.ofString "]").length = 1 := by decide
      have e4 : (Str.ofString "[").length = 1 := by decide
      omega
  | .tuple l, h, g => by
    simp only [PyData.canLay0] at h
    simp only [PyData.showable] at g
    simp only [PyData.shown, size]
    have ih := shown_lens l h g
    unfold tupleText
    simp only [strLen_app]
    have e4 : (Str.ofString "(").length = 1 := by decide
    have e5 : (Str.ofString (if ((PyData.shownAll l).length == 1) = true then ",)" else ")")).length ≤ 2 := by
      split <;> decide
    cases l with
    | nil =>
      simp only [PyData.shownAll, sizes] at *
      have : (Str.join ", " []).length = 0 := by decide
      omega
    | cons a r =>
      have z := join_length_add (PyData.shownAll (a :: r)) (by simp [PyData.shownAll])
      omega
  | .dict _, h, _ => by simp only [PyData.canLay0] at h; cases h
theorem shown_lens : ∀ l : List PyData, PyData.canLayAll0 l = true → PyData.showableAll l = true → piled (PyData.shownAll l) ≤ 2000 * sizes l
  | [], _, _ => by simp only [PyData.shownAll, sizes]; decide
  | a :: r, h, g => by
    simp only [PyData.canLayAll0, Bool.and_eq_true] at h
    simp only [PyData.showableAll, Bool.and_eq_true] at g
    simp only [PyData.shownAll, sizes, piled_cons]
    have h1 := shown_len a h.1 g.1
    have h2 := shown_lens r h.2 g.2
    omega
end
theorem reprOk_of {p : PyData} (h1 : SeqAt.shaped p = true) (h2 : p.showable = true) (h3 : size p ≤ 8000) : reprOk p = true := by
  unfold reprOk
  have z := shown_len p (depth_of_shaped h1).1 h2
  have q : p.shown.length ≤ sizeLine := le_line (by omega)
  rw [h1, h2, decide_eq_true q]
  rfl
theorem bRepr_of {h : VH} {d : D} {p : PyData} (e : py h d = some p) (hr : reprOk p = true) : bRepr [d] h = some (.str p.shown, h) := by
  unfold bRepr pureB
  simp only [one_1, Option.bind_some, e, hr, if_true, Option.map_some]
end Vq

/-! Part 16: a law's bag of cells: [cells still to come, what is left of the present one, a mixed number]. -/
namespace Vq
open PySem

/-- rc: the cells still to come, the next one first -/
structure Bag where
  rc : List Int
  m : Int
  x : Int
  hl : rc.length ≤ 63
def Bag.cells (B : Bag) : Cell := .lst (B.rc.reverse.map .int)
def Bag.top (B : Bag) (c : Nat) : Cell := .lst [.ref c, .int B.m, .int B.x]
structure IsBag (h : VH) (b c : Nat) (B : Bag) : Prop where
  hb : h[b]? = some (B.top c)
  hc : h[c]? = some B.cells
  ne : b ≠ c
def putBag (h : VH) (b c : Nat) (B : Bag) : VH := (h.set c B.cells).set b (B.top c)
section
variable {h g : VH} {b c : Nat} {B B' : Bag}
theorem lt_of_get {h : VH} {n : Nat} {d : Cell} (e : h[n]? = some d) : n < h.length := (List.getElem?_eq_some_iff.mp e).1
theorem IsBag.lb (q : IsBag h b c B) : b < h.length := lt_of_get q.hb
theorem IsBag.lc (q : IsBag h b c B) : c < h.length := lt_of_get q.hc
theorem IsBag.lkb (q : IsBag h b c B) : lk h b = some [.ref c, .int B.m, .int B.x] := by unfold lk; rw [q.hb]; rfl
theorem IsBag.lkc (q : IsBag h b c B) : lk h c = some (B.rc.reverse.map .int) := by unfold lk; rw [q.hc]; rfl
theorem put_length : (putBag h b c B).length = h.length := by simp [putBag]
theorem IsBag.put (q : IsBag h b c B) (B' : Bag) : IsBag (putBag h b c B') b c B' := by
  refine ⟨?_, ?_, q.ne⟩
  · unfold putBag
    rw [List.getElem?_set_self (by rw [List.length_set]; exact q.lb)]
  · unfold putBag
    rw [List.getElem?_set_ne q.ne, List.getElem?_set_self q.lc]
theorem put_put (hne : b ≠ c) : putBag (putBag h b c B) b c B' = putBag h b c B' := by
  unfold putBag
  rw [List.set_comm _ _ hne, List.set_set, List.set_set]
theorem IsBag.self (q : IsBag h b c B) : putBag h b c B = h := by
  unfold putBag
  have e1 : h.set c B.cells = h := by
    apply List.ext_getElem?
    intro i
    by_cases e : c = i
    · subst e
      rw [List.getElem?_set_self q.lc, q.hc]
    · rw [List.getElem?_set_ne e]
  rw [e1]
  apply List.ext_getElem?
  intro i
  by_cases e : b = i
  · subst e
    rw [List.getElem?_set_self q.lb, q.hb]
  · rw [List.getElem?_set_ne e]
theorem IsBag.app (q : IsBag h b c B) (g : VH) : IsBag (h ++ g) b c B :=
  ⟨by rw [List.getElem?_append_left q.lb]; exact q.hb, by rw [List.getElem?_append_left q.lc]; exact q.hc, q.ne⟩
theorem IsBag.put_app (q : IsBag h b c B) (g : VH) (B' : Bag) : putBag (h ++ g) b c B' = putBag h b c B' ++ g := by
  unfold putBag
  rw [List.set_append_left _ _ q.lc, List.set_append_left _ _ (by rw [List.length_set]; exact q.lb)]
theorem IsBag.lk_put (q : IsBag h b c B) {n : Nat} (h1 : n ≠ b) (h2 : n ≠ c) : lk (putBag h b c B') n = lk h n := by
  unfold lk putBag
  rw [List.getElem?_set_ne (Ne.symm h1), List.getElem?_set_ne (Ne.symm h2)]
theorem ints_lt (n : Nat) : ∀ l : List Int, D.ltAll n (l.map .int) = true
  | [] => by simp only [List.map_nil, D.ltAll]
  | a :: r => by simp only [List.map_cons, D.ltAll, D.lt, ints_lt n r, Bool.and_self]
theorem IsBag.closed (q : IsBag h b c B) (hc : Vq.closed h) (B' : Bag) : Vq.closed (putBag h b c B') := fun d hd => by
  rw [put_length]
  unfold putBag at hd
  rcases List.mem_or_eq_of_mem_set hd with hd | rfl
  · rcases List.mem_or_eq_of_mem_set hd with hd | rfl
    · exact hc d hd
    · simp only [Bag.cells, Cell.lt, ints_lt]
  · simp only [Bag.top, Cell.lt, D.ltAll, D.lt, Bool.and_true, decide_eq_true_eq]
    exact q.lc
end

def bagOf (h : VH) (b : Nat) : Option (Nat × Bag) := match h[b]? with
  | some (.lst [.ref c, .int m, .int x]) => match h[c]? with
    | some (.lst l) => if b = c then none else (intsOf l).bind fun cells => if hl : cells.length ≤ 63 then some (c, ⟨cells.reverse, m, x, by rw [List.length_reverse]; exact hl⟩) else none
    | _ => none
  | _ => none
theorem intsOf_inv : ∀ {l : List D} {ns : List Int}, intsOf l = some ns → l = ns.map .int
  | [], _, e => by cases e; rfl
  | d :: r, ns, e => by
    obtain ⟨i, e1, e⟩ := Option.bind_eq_some_iff.mp e
    obtain ⟨l, e2, rfl⟩ := Option.map_eq_some_iff.mp e
    cases d with
    | int j => cases e1; rw [intsOf_inv e2]; rfl
    | _ => cases e1
theorem bagOf_is {h : VH} {b c : Nat} {B : Bag} (e : bagOf h b = some (c, B)) : IsBag h b c B := by
  unfold bagOf at e
  split at e
  · rename_i c' m x e1
    split at e
    · rename_i l e2
      split at e
      · cases e
      · rename_i hne
        obtain ⟨ns, e3, e4⟩ := Option.bind_eq_some_iff.mp e
        by_cases hl : ns.length ≤ 63
        · rw [dif_pos hl] at e4
          cases e4
          refine ⟨e1, ?_, hne⟩
          rw [e2, intsOf_inv e3]
          simp [Bag.cells]
        · rw [dif_neg hl] at e4
          cases e4
    · cases e
  · cases e
theorem IsBag.of {h : VH} {b c : Nat} {B : Bag} (q : IsBag h b c B) : bagOf h b = some (c, B) := by
  unfold bagOf
  rw [q.hb]
  simp only [Bag.top, q.hc, Bag.cells, if_neg q.ne, intsOf_map, Option.bind_some, List.length_reverse, B.hl, dite_true, List.reverse_reverse]
theorem lstAt_of {h : VH} {n : Nat} {l : List D} (e : h[n]? = some (.lst l)) : lstAt h (.ref n) = some (n, l) := by
  show (match h[n]? with
    | some (.lst l) => some (n, l)
    | _ => none) = _
  rw [e]
theorem sLst_of {h : VH} {n : Nat} {l : List D} {k : Int} {j : Nat} (d : D) (e : h[n]? = some (.lst l)) (hj : L2.ixN l.length k = some j) : sLst (.ref n) (.int k) d h = some (h.set n (.lst (l.set j d))) := by
  show (match h[n]? with
    | some (.lst l) => (L2.ixN l.length k).map fun j => h.set n (.lst (l.set j d))
    | _ => none) = _
  rw [e]
  simp only [hj, Option.map_some]
section
variable {h : VH} {b c : Nat} {B : Bag}
theorem IsBag.setc (q : IsBag h b c B) (B' : Bag) (e : B'.rc = B.rc) : putBag h b c B' = h.set b (B'.top c) := by
  unfold putBag
  congr 1
  apply List.ext_getElem?
  intro i
  by_cases z : c = i
  · subst z
    rw [List.getElem?_set_self q.lc, q.hc]
    simp only [Bag.cells, e]
  · rw [List.getElem?_set_ne z]
theorem IsBag.set1 (q : IsBag h b c B) (v : Int) : sLst (.ref b) (.int 1) (.int v) h = some (putBag h b c ⟨B.rc, v, B.x, B.hl⟩) := by
  rw [sLst_of (j := 1) (.int v) q.hb rfl, q.setc ⟨B.rc, v, B.x, B.hl⟩ rfl]
  rfl
theorem IsBag.set2 (q : IsBag h b c B) (v : Int) : sLst (.ref b) (.int 2) (.int v) h = some (putBag h b c ⟨B.rc, B.m, v, B.hl⟩) := by
  rw [sLst_of (j := 2) (.int v) q.hb rfl, q.setc ⟨B.rc, B.m, v, B.hl⟩ rfl]
  rfl
theorem IsBag.pop {a : Int} {r : List Int} (q : IsBag h b c B) (e : B.rc = a :: r) (hl : r.length ≤ 63) : mPop (.ref c) [] h = some (.int a, putBag h b c ⟨r, B.m, B.x, hl⟩) := by
  unfold mPop
  rw [lstAt_of q.hc]
  have e1 : B.rc.reverse.map D.int = r.reverse.map D.int ++ [.int a] := by rw [e]; simp
  simp only [Option.bind_some, e1, List.isEmpty_nil, if_true, List.length_append, List.length_singleton, Nat.add_sub_cancel, List.getElem?_concat_length, Option.map_some, List.dropLast_concat]
  have e2 : putBag h b c ⟨r, B.m, B.x, hl⟩ = h.set c (.lst (r.reverse.map D.int)) := by
    unfold putBag
    apply List.ext_getElem?
    intro i
    by_cases z : b = i
    · subst z
      rw [List.getElem?_set_self (by rw [List.length_set]; exact q.lb), List.getElem?_set_ne (Ne.symm q.ne), q.hb]
      rfl
    · rw [List.getElem?_set_ne z]
      rfl
  rw [e2]
theorem IsBag.tyc (q : IsBag h b c B) : tyD "list" (.ref c) h = true := by simp [tyD, q.lkc]
end
/-- a def whose first argument is the bag, the others plain -/
def bagFn (f : List D → Bag → Option (D × Bag)) : Fn := fun ds h => match ds with
  | .ref b :: r => match bagOf h b with
    | some (c, B) => match f r B with
      | some (d, B') => .ok (d, putBag h b c B')
      | none => .bad
    | none => .bad
  | _ => .bad
theorem bagFn_of {f : List D → Bag → Option (D × Bag)} {h : VH} {b c : Nat} {B B' : Bag} {r : List D} {d : D} (q : IsBag h b c B) (e : f r B = some (d, B')) : bagFn f (.ref b :: r) h = .ok (d, putBag h b c B') := by
  unfold bagFn
  simp only [q.of, e]
theorem says_bag {f : List D → Bag → Option (D × Bag)} {F : Fn} (hp : ∀ r B d B', f r B = some (d, B') → D.flat d = true)
    (hF : ∀ h b c B r d B', closed h → IsBag h b c B → f r B = some (d, B') → ∃ g, F (.ref b :: r) h = .ok (d, putBag h b c B' ++ g)) : Says (bagFn f) F := fun ds h hc hl => by
  unfold bagFn
  split
  · rename_i d h' e
    split at e
    · rename_i b r
      cases e1 : bagOf h b with
      | none => rw [e1] at e; cases e
      | some p =>
        obtain ⟨c, B⟩ := p
        have q := bagOf_is e1
        rw [e1] at e
        simp only at e
        cases e2 : f r B with
        | none => rw [e2] at e; cases e
        | some p =>
          obtain ⟨d', B'⟩ := p
          rw [e2] at e
          cases e
          exact ⟨hF h b c B r d B' hc q e2, Nat.le_of_eq put_length.symm, q.closed hc B', lt_mono (Nat.zero_le _) d (hp r B d B' e2)⟩
    · cases e
  · rename_i x s h' e
    split at e
    · rename_i b r
      cases e1 : bagOf h b with
      | none => rw [e1] at e; cases e
      | some p =>
        rw [e1] at e
        simp only at e
        split at e <;> cases e
    · cases e
  · trivial
def offBag (b c : Nat) : D → Bool
  | .ref n => n != b && n != c
  | _ => true
/-- one whose second argument is a list or tuple of anything, of which it hands one item back: f tells which, by how many there are -/
def pickFn (f : Int → Bag → Int × Bag) : Fn := fun ds h => match ds with
  | [.ref b, s] => match bagOf h b with
    | some (c, B) => match seqOf h s with
      | some l => if offBag b c s = true ∧ l ≠ [] ∧ l.length ≤ 1000000 then (match l[(f l.length B).1.toNat]? with
        | some d => .ok (d, putBag h b c (f l.length B).2)
        | none => .bad) else .bad
      | none => .bad
    | none => .bad
  | _ => .bad
theorem pickFn_of {f : Int → Bag → Int × Bag} {h : VH} {b c : Nat} {B : Bag} {s : D} {l : List D} {d : D} (q : IsBag h b c B) (e : seqOf h s = some l) (o : offBag b c s = true) (hn : l ≠ []) (hz : l.length ≤ 1000000)
    (ed : l[(f l.length B).1.toNat]? = some d) : pickFn f [.ref b, s] h = .ok (d, putBag h b c (f l.length B).2) := by
  unfold pickFn
  simp only [q.of, e]
  rw [if_pos ⟨o, hn, hz⟩, ed]
theorem ltAll_get {n : Nat} : ∀ {l : List D} {i : Nat} {d : D}, D.ltAll n l = true → l[i]? = some d → D.lt n d = true
  | [], i, d, _, e => by simp at e
  | a :: r, 0, d, h, e => by
    simp only [D.ltAll, Bool.and_eq_true] at h
    simp at e
    rw [← e]
    exact h.1
  | a :: r, i + 1, d, h, e => by
    simp only [D.ltAll, Bool.and_eq_true] at h
    simp at e
    exact ltAll_get h.2 e
theorem seqOf_lt {h : VH} {s : D} {l : List D} (hc : closed h) (hs : D.lt h.length s = true) (e : seqOf h s = some l) : D.ltAll h.length l = true := by
  cases s with
  | tup m => cases e; simpa only [D.lt] using hs
  | ftup m => cases e; simpa only [D.lt] using hs
  | ref n =>
    have e : lk h n = some l := e
    unfold lk at e
    cases q : h[n]? with
    | none => rw [q] at e; cases e
    | some c =>
      have z := hc c (List.mem_of_getElem? q)
      rw [q] at e
      cases c <;> (cases e; exact z)
  | _ => cases e
theorem says_pick {f : Int → Bag → Int × Bag} {F : Fn}
    (hF : ∀ h b c B s l d, closed h → IsBag h b c B → seqOf h s = some l → offBag b c s = true → l ≠ [] → l.length ≤ 1000000 → l[(f l.length B).1.toNat]? = some d → ∃ g, F [.ref b, s] h = .ok (d, putBag h b c (f l.length B).2 ++ g)) : Says (pickFn f) F := fun ds h hc hl => by
  unfold pickFn
  split
  · rename_i d h' e
    split at e
    · rename_i b s
      cases e1 : bagOf h b with
      | none => rw [e1] at e; cases e
      | some p =>
        obtain ⟨c, B⟩ := p
        have q := bagOf_is e1
        rw [e1] at e
        simp only at e
        cases e2 : seqOf h s with
        | none => rw [e2] at e; cases e
        | some l =>
          rw [e2] at e
          simp only at e
          split at e
          · rename_i hcond
            obtain ⟨o, hn, hz⟩ := hcond
            cases e3 : l[(f l.length B).1.toNat]? with
            | none => rw [e3] at e; cases e
            | some d' =>
              rw [e3] at e
              cases e
              simp only [D.ltAll, Bool.and_true, Bool.and_eq_true] at hl
              exact ⟨hF h b c B s l d hc q e2 o hn hz e3, Nat.le_of_eq put_length.symm, q.closed hc _, by rw [put_length]; exact ltAll_get (seqOf_lt hc hl.2 e2) e3⟩
          · cases e
    · cases e
  · rename_i x s h' e
    split at e
    · split at e
      · split at e
        · split at e
          · split at e <;> cases e
          · cases e
        · cases e
      · cases e
    · cases e
  · trivial
end Vq

/-! Part 17: what a bag may have become; loops and comprehensions by what holds throughout. -/
namespace Vq
open PySem

@[simp] theorem le_lineS {n : Nat} (h : n ≤ 16777216) : n ≤ sizeLine := le_line h
@[simp] theorem lt_lineS {n : Nat} (h : n < 16777216) : n < sizeLine := lt_line h

/-- a bag lies here -/
def Hb (b c : Nat) (h : VH) : Prop := ∃ B, IsBag h b c B
/-- from h to h': all but the bag as it was -/
structure Keep (b c : Nat) (h h' : VH) : Prop where
  le : h.length ≤ h'.length
  bag : Hb b c h'
  get : ∀ i, i < h.length → i ≠ b → i ≠ c → h'[i]? = h[i]?
theorem Keep.refl {b c : Nat} {h : VH} (q : Hb b c h) : Keep b c h h := ⟨Nat.le_refl _, q, fun _ _ _ _ => rfl⟩
theorem Keep.trans {b c : Nat} {h h1 h2 : VH} (x : Keep b c h h1) (y : Keep b c h1 h2) : Keep b c h h2 :=
  ⟨Nat.le_trans x.le y.le, y.bag, fun i hi hb hc => (y.get i (Nat.lt_of_lt_of_le hi x.le) hb hc).trans (x.get i hi hb hc)⟩
theorem Hb.app {b c : Nat} {h : VH} (q : Hb b c h) (g : VH) : Hb b c (h ++ g) := q.elim fun B q => ⟨B, q.app g⟩
theorem Keep.app {b c : Nat} {h h1 : VH} (x : Keep b c h h1) (g : VH) : Keep b c h (h1 ++ g) :=
  x.trans ⟨by simp, x.bag.app g, fun i hi _ _ => List.getElem?_append_left hi⟩
theorem Hb.keep {b c : Nat} {h : VH} (q : Hb b c h) (g : VH) : Keep b c h (h ++ g) := (Keep.refl q).app g
theorem Hb.b_lt {b c : Nat} {h : VH} (q : Hb b c h) : b < h.length := q.elim fun _ q => q.lb
theorem Hb.c_lt {b c : Nat} {h : VH} (q : Hb b c h) : c < h.length := q.elim fun _ q => q.lc
theorem Keep.put {b c : Nat} {h : VH} {B : Bag} (q : IsBag h b c B) (B' : Bag) (g : VH) : Keep b c h (putBag h b c B' ++ g) :=
  Keep.app ⟨Nat.le_of_eq put_length.symm, ⟨B', q.put B'⟩, fun i _ hb hc => by unfold putBag; rw [List.getElem?_set_ne (Ne.symm hb), List.getElem?_set_ne (Ne.symm hc)]⟩ g
theorem lk_lt {h : VH} {n : Nat} {l : List D} (e : lk h n = some l) : n < h.length := by
  by_cases q : n < h.length
  · exact q
  · unfold lk at e
    rw [List.getElem?_eq_none (by omega)] at e
    cases e
theorem Keep.cells {b c : Nat} {h h' : VH} (x : Keep b c h h') {i : Nat} {l : List D} (hb : i ≠ b) (hc : i ≠ c) (e : lk h i = some l) : lk h' i = some l := by
  have z := x.get i (lk_lt e) hb hc
  unfold lk at e ⊢
  rw [z]
  exact e
/-- a cell that came later than the bag -/
theorem lk_new {b c n : Nat} {h0 h h' : VH} {l : List D} (q : Hb b c h0) (hn : h0.length ≤ n) (k : Keep b c h h') (e : lk h n = some l) : lk h' n = some l :=
  k.cells (by have := q.b_lt; omega) (by have := q.c_lt; omega) e
/-- a list of its own is set anew -/
theorem Keep.set {b c n : Nat} {h h' : VH} {l' : List D} (x : Keep b c h h') (hn : h.length ≤ n) (hb : n ≠ b) (hc : n ≠ c) : Keep b c h (h'.set n (.lst l')) := by
  refine ⟨by rw [List.length_set]; exact x.le, ?_, fun i l hb hc => ?_⟩
  · obtain ⟨B, q⟩ := x.bag
    refine ⟨B, ?_, ?_, q.ne⟩
    · rw [List.getElem?_set_ne hb]
      exact q.hb
    · rw [List.getElem?_set_ne hc]
      exact q.hc
  · rw [List.getElem?_set_ne (by omega)]
    exact x.get i l hb hc
theorem lk_set {h : VH} {n : Nat} {l l' : List D} (e : lk h n = some l) : lk (h.set n (.lst l')) n = some l' := by
  unfold lk
  rw [List.getElem?_set_self (lk_lt e)]
theorem lk_set_ne {h : VH} {m n : Nat} {l' : List D} (e : n ≠ m) : lk (h.set n (.lst l')) m = lk h m := by
  unfold lk
  rw [List.getElem?_set_ne e]

theorem atI_nn {α : Type} {l : List α} {i : Int} (h0 : 0 ≤ i) (h1 : i.toNat < l.length) : L2.atI l i = some l[i.toNat] := by
  unfold L2.atI L2.ixN
  rw [if_pos h0, if_pos (by omega)]
  simp [h1]
theorem atI_nat {α : Type} {l : List α} {i : Nat} (h1 : i < l.length) : L2.atI l (i : Int) = some l[i] := atI_nn (l := l) (i := (i : Int)) (by omega) (by omega)
theorem atI_end {α : Type} {l : List α} (h1 : l ≠ []) : L2.atI l (-1) = some (l.getLast h1) := by
  have : 0 < l.length := List.length_pos_iff.mpr h1
  unfold L2.atI L2.ixN
  rw [if_neg (by omega), if_pos (by omega)]
  have : (-1 + (l.length : Int)).toNat = l.length - 1 := by omega
  simp only [Option.bind_some, this]
  rw [List.getLast_eq_getElem, List.getElem?_eq_getElem]

theorem ixN_nn {n : Nat} {i : Int} (h0 : 0 ≤ i) (h1 : i.toNat < n) : L2.ixN n i = some i.toNat := by
  unfold L2.ixN
  rw [if_pos h0, if_pos (by omega)]
theorem ixN_end {n : Nat} (h1 : 0 < n) : L2.ixN n (-1) = some (n - 1) := by
  unfold L2.ixN
  rw [if_neg (by omega), if_pos (by omega)]
  congr 1
  omega
/-- stores in a list of ints -/
theorem sLst_I {h : VH} {n : Nat} {l : List Int} {i : Int} (e : h[n]? = some (.lst (l.map .int))) (h0 : 0 ≤ i) (h1 : i.toNat < l.length) (v : Int) : sLst (.ref n) (.int i) (.int v) h = some (h.set n (.lst ((l.set i.toNat v).map .int))) := by
  rw [sLst_of (.int v) e (ixN_nn h0 (by simpa using h1)), List.map_set]
theorem sLst_Ie {h : VH} {n : Nat} {l : List Int} (e : h[n]? = some (.lst (l.map .int))) (h1 : 0 < l.length) (v : Int) : sLst (.ref n) (.int (-1)) (.int v) h = some (h.set n (.lst ((l.set (l.length - 1) v).map .int))) := by
  rw [sLst_of (.int v) e (ixN_end (by simpa using h1)), List.length_map, List.map_set]
theorem lk_of {h : VH} {n : Nat} {l : List D} (e : h[n]? = some (.lst l)) : lk h n = some l := by
  unfold lk
  rw [e]
theorem set_get {h : VH} {n : Nat} {l l' : List D} (e : h[n]? = some (.lst l)) : (h.set n (.lst l'))[n]? = some (.lst l') := List.getElem?_set_self (lt_of_get e)
theorem ints_of {P : Int → Prop} : ∀ {l : List D}, (∀ d ∈ l, ∃ x, d = .int x ∧ P x) → ∃ r : List Int, l = r.map .int ∧ ∀ x ∈ r, P x
  | [], _ => ⟨[], rfl, by simp⟩
  | d :: l, h => by
    obtain ⟨x, rfl, hx⟩ := h d (List.mem_cons_self ..)
    obtain ⟨r, e, hr⟩ := ints_of (l := l) fun d hd => h d (List.mem_cons_of_mem _ hd)
    refine ⟨x :: r, by rw [e]; rfl, fun y hy => ?_⟩
    rcases List.mem_cons.mp hy with rfl | hy
    · exact hx
    · exact hr y hy
theorem Keep.cell {b c : Nat} {h0 h h' : VH} (q : Hb b c h0) {n : Nat} {cl : Cell} (hn : h0.length ≤ n) (k : Keep b c h h') (e : h[n]? = some cl) : h'[n]? = some cl := by
  have := q.b_lt
  have := q.c_lt
  rw [k.get n (lt_of_get e) (by omega) (by omega)]
  exact e
/-- only new cells -/
def Grow (h h' : VH) : Prop := ∃ g, h' = h ++ g
theorem Grow.refl (h : VH) : Grow h h := ⟨[], by simp⟩
theorem Grow.trans {h h1 h2 : VH} : Grow h h1 → Grow h1 h2 → Grow h h2
  | ⟨g, e⟩, ⟨g', e'⟩ => ⟨g ++ g', by rw [e', e, List.append_assoc]⟩
theorem Grow.app {h h1 : VH} (x : Grow h h1) (g : VH) : Grow h (h1 ++ g) := x.trans ⟨g, rfl⟩
theorem Grow.new (h g : VH) : Grow h (h ++ g) := ⟨g, rfl⟩
theorem Grow.lk {h h' : VH} (x : Grow h h') {n : Nat} {l : List D} (e : lk h n = some l) : Vq.lk h' n = some l := by
  obtain ⟨g, rfl⟩ := x
  exact lk_app e g
theorem Hb.grow {b c : Nat} {h h' : VH} (q : Hb b c h) (x : Grow h h') : Keep b c h h' := by
  obtain ⟨g, rfl⟩ := x
  exact q.keep g
/-! ### statements one after another -/
theorem turn_of {g : VG} {body : VSt} {d : D} {s s' : VS} {h h' : VH} (e : g d s h = .ok (s', h')) : turn g body d s h = body s' h' := by
  unfold turn
  rw [e]
  rfl
theorem turn_N (i : Nat) (body : VSt) (d : D) (s : VS) (h : VH) : turn (gP (pN i)) body d s h = body (s.set i (some d)) h := turn_of rfl
section
variable {f g : VSt} {s s' : VS} {h h' : VH} {d : D}
theorem seq_nx (e : f s h = .ok (.nx, s', h')) : vSeq f g s h = g s' h' := by simp [e]
theorem seq_rt (e : f s h = .ok (.rt d, s', h')) : vSeq f g s h = .ok (.rt d, s', h') := by simp [e]
end

/-! ### comprehensions, by what holds throughout -/
theorem lc_run {it : VI} {vs : List Nat} {g : VP} {t : VT} {e : VE} {s : VS} {h h1 : VH} {src : VH → Option (List D)} {ys : List D} (I : Nat → VH → List D → Prop)
    (hit : it s h = .ok (src, h1)) (hsrc : ∀ i h acc, I i h acc → src h = some ys) (hz : ys.length ≤ 16777216) (h0 : I 0 (h1 ++ [.lst []]) [])
    (hl : ∀ i h acc, I i h acc → h[h1.length]? = some (.lst acc))
    (step : ∀ i d h acc, ys[i]? = some d → I i h acc → acc.length ≤ i → ∃ s' b h2, g d (vwipe s vs) = some s' ∧ t s' h = .ok (b, h2) ∧
      if b = true then ∃ d' h3, e s' h2 = .ok (d', h3) ∧ h3[h1.length]? = some (.lst acc) ∧ I (i + 1) (h3.set h1.length (.lst (acc ++ [d']))) (acc ++ [d']) else I (i + 1) h2 acc) :
    ∃ h' acc, vLc it vs g t e s h = .ok (.ref h1.length, h') ∧ I ys.length h' acc := by
  have gen : ∀ (k i : Nat) (h : VH) (acc : List D), i + k = ys.length → acc.length ≤ i → I i h acc → ∃ h' acc', lcF src vs g t e h1.length s k i h = .ok h' ∧ I ys.length h' acc' := by
    intro k
    induction k with
    | zero =>
      intro i h acc e1 e2 hi
      have : i = ys.length := by omega
      subst this
      refine ⟨h, acc, ?_, hi⟩
      unfold lcF
      simp [hsrc _ _ _ hi]
    | succ k ih =>
      intro i h acc e1 e2 hi
      have hlt : i < ys.length := by omega
      have ei : ys[i]? = some ys[i] := List.getElem?_eq_getElem hlt
      obtain ⟨s', b, h2, eg, et, hb⟩ := step i _ h acc ei hi e2
      unfold lcF
      simp only [hsrc _ _ _ hi, ei, eg, et, noex_ok, Res.ok_bind]
      cases b with
      | false =>
        simp only [Bool.false_eq_true, if_false] at hb ⊢
        exact ih (i + 1) h2 acc (by omega) (by omega) hb
      | true =>
        simp only [if_true] at hb ⊢
        obtain ⟨d', h3, ee, e3, hi3⟩ := hb
        have pa : putAt h1.length d' h3 = .ok (h3.set h1.length (.lst (acc ++ [d']))) := by
          unfold putAt
          rw [e3]
          simp only
          rw [if_pos (lt_line (by omega))]
        simp only [ee, noex_ok, Res.ok_bind, pa]
        exact ih (i + 1) _ _ (by omega) (by simp; omega) hi3
  obtain ⟨h', acc, eq, hi⟩ := gen ys.length 0 _ [] (by omega) (Nat.zero_le _) h0
  refine ⟨h', acc, ?_, hi⟩
  unfold vLc
  simp only [hit, Res.ok_bind, hsrc _ _ _ h0, eq]
/-- each element a draw's worth: the bag may turn, the rest stands -/
theorem lc_bag {it : VI} {vs : List Nat} {g : VP} {e : VE} {s : VS} {h h1 : VH} {src : VH → Option (List D)} {ys : List D} {b c : Nat} (R : D → Prop) (q : Hb b c h1)
    (hit : it s h = .ok (src, h1)) (hsrc : ∀ h, src h = some ys) (hz : ys.length ≤ 16777216)
    (step : ∀ d h, d ∈ ys → Keep b c h1 h → ∃ s' d' h3, g d (vwipe s vs) = some s' ∧ e s' h = .ok (d', h3) ∧ R d' ∧ Keep b c h h3) :
    ∃ h' acc, vLc it vs g vYes e s h = .ok (.ref h1.length, h') ∧ h'[h1.length]? = some (.lst acc) ∧ acc.length = ys.length ∧ (∀ d ∈ acc, R d) ∧ Keep b c h1 h' := by
  have hb := q.b_lt
  have hc := q.c_lt
  obtain ⟨h', acc, e1, e2, e3, e4, e5⟩ := lc_run (t := vYes) (e := e) (vs := vs) (g := g) (fun i h acc => h[h1.length]? = some (.lst acc) ∧ acc.length = i ∧ (∀ d ∈ acc, R d) ∧ Keep b c h1 h) hit (fun _ h _ _ => hsrc h) hz
    ⟨by simp, rfl, by simp, q.keep _⟩ (fun _ _ _ i => i.1) (fun i d h acc ed hi _ => by
      obtain ⟨i1, i2, i3, i4⟩ := hi
      obtain ⟨s', d', h3, eg, ee, hr, hk⟩ := step d h (List.mem_of_getElem? ed) i4
      have lt : h1.length < h.length := lt_of_get i1
      have l3' : h3[h1.length]? = some (.lst acc) := (hk.get _ lt (by omega) (by omega)).trans i1
      refine ⟨s', true, h, eg, rfl, ?_⟩
      rw [if_pos rfl]
      refine ⟨d', h3, ee, l3', ?_, by simp [i2], ?_, ?_⟩
      · rw [List.getElem?_set_self (lt_of_get l3')]
      · intro d hd
        rcases List.mem_append.mp hd with hd | hd
        · exact i3 d hd
        · rw [List.mem_singleton.mp hd]
          exact hr
      · exact (i4.trans hk).set (Nat.le_refl _) (by omega) (by omega))
  exact ⟨h', acc, e1, e2, e3, e4, e5⟩
/-- a comprehension over range(n) that may draw -/
theorem lc_bagR {a : VA} {vs : List Nat} {g : VP} {e : VE} {s : VS} {h h1 : VH} {n : Int} {b c : Nat} (R : D → Prop) (q : Hb b c h1) (ha : a s h = .ok ([.int n], h1)) (hn : n ≤ 1000000) (h0 : -1000000 ≤ n)
    (step : ∀ (k : Nat) h, (k : Int) < n → Keep b c h1 h → ∃ s' d' h3, g (.int (k : Int)) (vwipe s vs) = some s' ∧ e s' h = .ok (d', h3) ∧ R d' ∧ Keep b c h h3) :
    ∃ h' acc, vLc (vRng1 a) vs g vYes e s h = .ok (.ref h1.length, h') ∧ h'[h1.length]? = some (.lst acc) ∧ acc.length = n.toNat ∧ (∀ d ∈ acc, R d) ∧ Keep b c h1 h' := by
  have z := lc_bag (it := vRng1 a) (vs := vs) (g := g) (e := e) (s := s) (h := h) (h1 := h1) (src := fun _ => some (rangeD 0 1 n.toNat)) (ys := rangeD 0 1 n.toNat) R q
    (vRng1_of ha (by unfold inRng; exact decide_eq_true (by omega))) (fun _ => rfl) (by simp; omega) (fun d h hd k => by
      rw [rangeD_one] at hd
      obtain ⟨i, hi, rfl⟩ := List.mem_map.mp hd
      have := List.mem_range.mp hi
      rw [Int.zero_add]
      exact step i h (by omega) k)
  rwa [show (rangeD 0 1 n.toNat).length = n.toNat by simp] at z
end Vq

/-! Part 18: list(range(..)), sorted, more methods, bits. -/
namespace Vq
open PySem PySem.Spec PyProof.Rows L2

/-! ### list(range(..)) -/
theorem reps_rng (K : PySem.W.Frag) (w : Wd) (a b : Int) : Rps K w (rangeD a 1 (b - a).toNat) (rgV a b) := by
  have gen : ∀ l : List Nat, Rps K w (l.map fun (k : Nat) => D.int (a + (k : Int) * 1)) (l.map fun i => V.int (a + (i : Nat))) := by
    intro l
    induction l with
    | nil => exact .nil
    | cons x r ih =>
      have e : a + (x : Int) * 1 = a + (x : Nat) := by omega
      refine .cons (show Rp K w (D.int (a + (x : Int) * 1)) (V.int (a + (x : Nat))) from ?_) ih
      rw [e]
      exact .int _
  exact gen _
def rgB (a b : Int) : Bool := inRng a && inRng b && decide (b - a ≤ 16777216)
theorem rgB_ok {a b : Int} (h : rgB a b = true) : RgOk a b := by
  unfold rgB inRng at h
  simp only [Bool.and_eq_true, decide_eq_true_eq] at h
  unfold RgOk
  omega
def vLR1 (f : VE) : VE := fun s h => (f s h).bind fun p => match intD p.1 with
  | some b => if rgB 0 b = true then .ok (.ref p.2.length, p.2 ++ [.lst (rangeD 0 1 (b - 0).toNat)]) else .bad
  | none => .bad
def vLR2 (f g : VE) : VE := fun s h => (f s h).bind fun p => (g s p.2).bind fun q => match intD p.1, intD q.1 with
  | some a, some b => if rgB a b = true then .ok (.ref q.2.length, q.2 ++ [.lst (rangeD a 1 (b - a).toNat)]) else .bad
  | _, _ => .bad
section
variable {X : Cx} {W : WX} {a b : Expr} {fa fb : VE} {p p2 pos pos2 : Pos}
theorem qLR1 (hc : X.calm = true) (hm : X.mg "list" = none) (hm2 : X.mg "range" = none) (ha : PE X a (gE X W fa)) (hg : Gl X "list" := by rfl) (hg2 : Gl X "range" := by rfl)
    (na : starEach [a] X.env = (false, eval a X.env) :: starEach [] X.env := by rfl)
    (nb : starEach [Expr.Call (.Name "range" p2) [a] [] pos2] X.env = (false, eval (Expr.Call (.Name "range" p2) [a] [] pos2) X.env) :: starEach [] X.env := by rfl) :
    PE X (.Call (.Name "list" p) [.Call (.Name "range" p2) [a] [] pos2] [] pos) (gE X W (vLR1 fa)) :=
  PEw (pe_listRg hc hg hm (prg_1 hg2 hm2 ha na) nb) fun σ H Q ⟨w, s, hH, ok, sl, hp⟩ => by
    subst hH
    refine gE.seq ok sl (wE w Q) hp fun d w1 v ok1 x1 sl1 r1 hp1 => ?_
    simp only at hp1
    cases e : intD d with
    | none => rw [e] at hp1; exact hp1.elim
    | some n =>
      obtain ⟨rfl, rfl⟩ := intD_rp r1 e
      rw [e] at hp1
      simp only at hp1
      by_cases h : rgB 0 n = true
      · rw [if_pos h] at hp1
        exact ⟨n, rfl, rgB_ok h, fun q hq => hp1 (w1.newL q _ _) _ (ok1.newL hq (reps_rng X.K w1 0 n)) rfl (x1.trans (Wd.ext_newL hq)) at_newL⟩
      · rw [if_neg h] at hp1
        exact hp1.elim
theorem qLR2 (hc : X.calm = true) (hm : X.mg "list" = none) (hm2 : X.mg "range" = none) (ha : PE X a (gE X W fa)) (hb : PE X b (gE X W fb)) (hg : Gl X "list" := by rfl) (hg2 : Gl X "range" := by rfl)
    (na : starEach [a, b] X.env = (false, eval a X.env) :: starEach [b] X.env := by rfl) (nb : starEach [b] X.env = (false, eval b X.env) :: starEach [] X.env := by rfl) (hp : (backTo pos2 (starEach [b] X.env)).any (·.1) = false := by rfl)
    (nc : starEach [Expr.Call (.Name "range" p2) [a, b] [] pos2] X.env = (false, eval (Expr.Call (.Name "range" p2) [a, b] [] pos2) X.env) :: starEach [] X.env := by rfl) :
    PE X (.Call (.Name "list" p) [.Call (.Name "range" p2) [a, b] [] pos2] [] pos) (gE X W (vLR2 fa fb)) :=
  PEw (pe_listRg hc hg hm (prg_2 hg2 hm2 ha hb na nb hp) nc) fun σ H Q ⟨w, s, hH, ok, sl, hp⟩ => by
    subst hH
    refine gE.seq ok sl (wE w Q) hp fun d w1 v ok1 x1 sl1 r1 hp1 => ?_
    simp only at hp1
    refine gE.seq ok1 sl1 ((wE w Q).mono x1) hp1 fun d2 w2 v2 ok2 x2 sl2 r2 hp2 => ?_
    simp only at hp2
    cases e : intD d with
    | none => rw [e] at hp2; exact hp2.elim
    | some i =>
      obtain ⟨rfl, rfl⟩ := intD_rp r1 e
      cases e2 : intD d2 with
      | none => rw [e, e2] at hp2; exact hp2.elim
      | some j =>
        obtain ⟨rfl, rfl⟩ := intD_rp r2 e2
        rw [e, e2] at hp2
        simp only at hp2
        by_cases h : rgB i j = true
        · rw [if_pos h] at hp2
          exact ⟨i, j, rfl, rfl, rgB_ok h, fun q hq => hp2 (w2.newL q _ _) _ (ok2.newL hq (reps_rng X.K w2 i j)) rfl ((x1.trans x2).trans (Wd.ext_newL hq)) at_newL⟩
        · rw [if_neg h] at hp2
          exact hp2.elim
end

/-! ### sorted: ints, pairs of ints -/
def leP (x y : Int × Int) : Bool := decide (x.1 < y.1) || (decide (x.1 = y.1) && decide (x.2 ≤ y.2))
def srtI (l : List Int) : List Int := l.mergeSort fun x y => decide (x ≤ y)
def srtP (l : List (Int × Int)) : List (Int × Int) := l.mergeSort leP
theorem srtI_perm (l : List Int) : (srtI l).Perm l := List.mergeSort_perm ..
theorem srtP_perm (l : List (Int × Int)) : (srtP l).Perm l := List.mergeSort_perm ..
theorem srtI_sorted (l : List Int) : (srtI l).Pairwise (· ≤ ·) := by
  have z := List.pairwise_mergeSort (le := fun (x y : Int) => decide (x ≤ y)) (fun a b c h1 h2 => by simp at *; omega) (fun a b => by simp; omega) l
  exact z.imp fun h => by simpa using h
theorem leP_trans (a b c : Int × Int) (h1 : leP a b = true) (h2 : leP b c = true) : leP a c = true := by
  unfold leP at *
  simp at *
  omega
theorem leP_total (a b : Int × Int) : (leP a b || leP b a) = true := by
  unfold leP
  simp
  omega
theorem srtP_sorted (l : List (Int × Int)) : (srtP l).Pairwise fun x y => leP x y = true := List.pairwise_mergeSort leP_trans leP_total l
theorem sortedI_uniq {l m : List Int} (p : l.Perm m) (h1 : l.Pairwise (· ≤ ·)) (h2 : m.Pairwise (· ≤ ·)) : l = m :=
  p.eq_of_pairwise (fun a b _ _ h g => Int.le_antisymm h g) h1 h2
theorem leP_anti {a b : Int × Int} (h : leP a b = true) (g : leP b a = true) : a = b := by
  unfold leP at *
  obtain ⟨a1, a2⟩ := a
  obtain ⟨b1, b2⟩ := b
  simp at *
  omega
theorem sortedP_uniq {l m : List (Int × Int)} (p : l.Perm m) (h1 : l.Pairwise fun x y => leP x y = true) (h2 : m.Pairwise fun x y => leP x y = true) : l = m :=
  p.eq_of_pairwise (fun a b _ _ h g => leP_anti h g) h1 h2
end Vq
namespace Vq
open PySem PySem.Spec PyProof.Rows L2
def rSortedPT (K : PySem.W.Frag) : List V → Hp → VK → Prop := fun vs H Q => ∃ (a : Addr) (xs : List V) (k : V → Int × Int), vs = [V.ref a] ∧ SqL K H a xs ∧ (∀ x ∈ xs, ∃ t, x = V.ref t ∧ SqT K H t [.int (k x).1, .int (k x).2]) ∧
  ∀ ys p, SrtO.Srtd (ltP k) ys → SrtO.Stb (ltP k) ys xs → H p = none → Q (.ref p) (upd H p (.lst ys))
section
variable {X : Cx}
theorem cr_sortedPT : CallR X (.builtin "sorted") (rSortedPT X.K) := by
  intro pins s σ H vs us Q I r h
  obtain ⟨a, xs, k, rfl, hs, hx, q⟩ := h
  obtain ⟨its, rv, hl, hz⟩ := I.list hs
  obtain ⟨u, rfl, ru⟩ := vals1 r
  obtain rfl : u = Value.ref a := ru
  obtain ⟨e1, e2⟩ := refs_back rv fun x m => by
    obtain ⟨t, e, _⟩ := hx x m
    exact ⟨t, e⟩
  refine SrtO.sorted_pairsO (k := fun u => k (backV u)) hl.isList (by rw [← rv.length]; exact hz) (fun v hv => ?_) fun h' d out h1 h2 kp hd hn => ?_
  · obtain ⟨t, rfl⟩ := e2 v hv
    have hm : V.ref t ∈ xs := by rw [e1]; exact List.mem_map.mpr ⟨_, hv, rfl⟩
    obtain ⟨t', e, ht⟩ := hx _ hm
    cases e
    obtain ⟨its2, r2, ⟨o, ho, hc, n, hd⟩, _⟩ := I.tuple ht
    obtain ⟨u1, u2, e3, ri, rj⟩ := vals2 r2
    obtain ⟨t1, rfl⟩ := ri
    obtain ⟨t2, rfl⟩ := rj
    subst e3
    exact ⟨t, o, t1, t2, n, rfl, ho, hc, hd⟩
  · have h3 : ∀ u ∈ out, ∃ a, u = Value.ref a := fun u hu => e2 u (h2.perm.mem_iff.mp hu)
    obtain ⟨n, hn⟩ := hn
    have hb : SrtO.Stb (ltP k) (out.map backV) xs := by
      rw [e1]
      exact SrtO.Stb.map (ltP_swo k) backV h2
    refine ⟨.ref d, upd H d (.lst (out.map backV)), I.laid (t' := s.toks) kp hd ⟨?_, out, n, vals_back h3, hn⟩, rfl, q _ d (SrtO.srtd_map h1) hb (I.hok.fresh hd)⟩
    rw [hb.len]
    exact hz
/-- pairs of ints, at their addresses -/
inductive PairAt (K : PySem.W.Frag) (H : Hp) : List V → List (Int × Int) → Prop where
  | nil : PairAt K H [] []
  | cons {t : Addr} {p : Int × Int} {xs : List V} {ps : List (Int × Int)} (h : SqT K H t [.int p.1, .int p.2]) (r : PairAt K H xs ps) : PairAt K H (V.ref t :: xs) (p :: ps)
open Classical in
noncomputable def keyOf (K : PySem.W.Frag) (H : Hp) (x : V) : Int × Int := if h : ∃ p : Int × Int, ∃ t, x = V.ref t ∧ SqT K H t [.int p.1, .int p.2] then choose h else (0, 0)
theorem keyOf_is {pins : List (Addr × Obj)} {s : Shared} {σ : L2.St} {H : Hp} (I : Inv X pins σ H s) {t : Addr} {p : Int × Int} (h : SqT X.K H t [.int p.1, .int p.2]) : keyOf X.K H (V.ref t) = p := by
  have hex : ∃ p : Int × Int, ∃ t', V.ref t = V.ref t' ∧ SqT X.K H t' [.int p.1, .int p.2] := ⟨p, t, rfl, h⟩
  unfold keyOf
  rw [dif_pos hex]
  obtain ⟨t', e, q⟩ := Classical.choose_spec hex
  cases e
  have := I.tuple_inj q h
  simp only [List.cons.injEq, V.int.injEq, and_true] at this
  exact Prod.ext this.1 this.2
theorem keys_of {pins : List (Addr × Obj)} {s : Shared} {σ : L2.St} {H : Hp} (I : Inv X pins σ H s) : ∀ {xs : List V} {ps : List (Int × Int)}, PairAt X.K H xs ps →
    xs.map (keyOf X.K H) = ps ∧ ∀ x ∈ xs, ∃ t, x = V.ref t ∧ SqT X.K H t [.int (keyOf X.K H x).1, .int (keyOf X.K H x).2]
  | _, _, .nil => ⟨rfl, by simp⟩
  | _, _, .cons (t := t) (p := p) h r => by
    obtain ⟨e, hx⟩ := keys_of I r
    have k := keyOf_is I h
    refine ⟨by rw [List.map_cons, k, e], fun x hm => ?_⟩
    rcases List.mem_cons.mp hm with rfl | hm
    · exact ⟨t, rfl, by rw [k]; exact h⟩
    · exact hx x hm
def rSorted2 (K : PySem.W.Frag) : List V → Hp → VK → Prop := fun vs H Q => L2.rSortedI K vs H Q ∨ ∃ (a : Addr) (xs : List V) (ps : List (Int × Int)), vs = [V.ref a] ∧ SqL K H a xs ∧ PairAt K H xs ps ∧
  ∀ (k : V → Int × Int) ys p, xs.map k = ps → SrtO.Srtd (ltP k) ys → ys.Perm xs → H p = none → Q (.ref p) (upd H p (.lst ys))
theorem cr_sorted2 : CallR X (.builtin "sorted") (rSorted2 X.K) := by
  rintro pins s σ H vs us Q I r (h | ⟨a, xs, ps, rfl, h1, h2, q⟩)
  · exact cr_sortedI pins s σ H vs us Q I r h
  · obtain ⟨e, hx⟩ := keys_of I h2
    exact cr_sortedPT pins s σ H _ us Q I r ⟨a, xs, _, rfl, h1, hx, fun ys p so st hp => q _ ys p e so st.perm hp⟩
end
def pD (p : Int × Int) : D := .tup [.int p.1, .int p.2]
def pairD : D → Option (Int × Int)
  | .tup [.int i, .int j] => some (i, j)
  | _ => none
theorem pairD_inv {d : D} {p : Int × Int} (e : pairD d = some p) : d = pD p := by
  unfold pairD at e
  split at e
  · cases e; rfl
  · cases e
def pairsOf : List D → Option (List (Int × Int))
  | [] => some []
  | d :: r => (pairD d).bind fun i => (pairsOf r).map fun l => i :: l
theorem pairsOf_inv : ∀ {l : List D} {ps : List (Int × Int)}, pairsOf l = some ps → l = ps.map pD
  | [], ps, e => by cases e; rfl
  | d :: r, ps, e => by
    obtain ⟨i, e1, e⟩ := Option.bind_eq_some_iff.mp e
    obtain ⟨l, e2, rfl⟩ := Option.map_eq_some_iff.mp e
    rw [pairD_inv e1, pairsOf_inv e2]
    rfl
@[simp] theorem pairsOf_map (ps : List (Int × Int)) : pairsOf (ps.map pD) = some ps := by
  induction ps with
  | nil => rfl
  | cons p r ih => simp [pairsOf, ih, pairD, pD]
/-- which pair lies at an address -/

def bSorted : List D → VH → Option (D × VH) := fun xs h => (one xs).bind fun d => match d with
  | .ref n => (lk h n).bind fun l => match intsOf l with
    | some ns => some (.ref h.length, h ++ [.lst ((srtI ns).map .int)])
    | none => (pairsOf l).map fun ps => (.ref h.length, h ++ [.lst ((srtP ps).map pD)])
  | _ => none
theorem pairAt_of {K : PySem.W.Frag} {w : Wd} : ∀ {ps : List (Int × Int)} {vs : List V}, Rps K w (ps.map pD) vs → PairAt K w.H vs ps
  | [], _, .nil => .nil
  | p :: ps, _, .cons h r => by
    cases h with
    | tup hs rs =>
      cases rs with
      | cons a rs =>
        cases a
        cases rs with
        | cons b rs =>
          cases b
          cases rs
          exact .cons hs (pairAt_of r)
/-- a rearrangement keeps what each stands for -/
theorem reps_perm {K : PySem.W.Frag} {w : Wd} {ps : List (Int × Int)} {us ys : List V} {k : V → Int × Int} (r : Rps K w (ps.map pD) us) (e : us.map k = ps) (st : ys.Perm us) : Rps K w ((ys.map k).map pD) ys := by
  have one : ∀ {us : List V} {ps : List (Int × Int)}, Rps K w (ps.map pD) us → us.map k = ps → ∀ z ∈ us, Rp K w (pD (k z)) z := by
    intro us
    induction us with
    | nil => intro ps _ _ z hz; cases hz
    | cons u us ih =>
      intro ps r e z hz
      subst e
      cases r with
      | cons h r =>
        rcases List.mem_cons.mp hz with rfl | hz
        · exact h
        · exact ih r rfl z hz
  have gen : ∀ zs : List V, (∀ z ∈ zs, z ∈ us) → Rps K w ((zs.map k).map pD) zs := by
    intro zs
    induction zs with
    | nil => intro _; exact .nil
    | cons z r' ih =>
      intro hz
      exact .cons (one r e z (hz z (List.mem_cons_self ..))) (ih fun x hx => hz x (List.mem_cons_of_mem _ hx))
  exact gen ys fun z hz => st.mem_iff.mp hz
theorem sorted_cd (K : PySem.W.Frag) : CallD K (rSorted2 K) bSorted := fun w xs vs Q ok r h => by
  unfold bSorted at h
  cases e1 : one xs with
  | none => rw [e1] at h; exact h.elim
  | some d =>
    obtain ⟨v, _, rfl, rd⟩ := one_rps r e1
    rw [e1] at h
    simp only [Option.bind_some] at h
    cases rd with
    | @ref n hn =>
      simp only at h
      cases e2 : lk w.h n with
      | none => rw [e2] at h; exact h.elim
      | some l =>
        rw [e2] at h
        simp only [Option.bind_some] at h
        obtain ⟨us, h1, h2⟩ := lk_sq ok e2
        cases e3 : intsOf l with
        | some ns =>
          rw [e3] at h
          have hu : us = ns.map V.int := intsOf_rps h2 e3
          rw [hu] at h1
          refine .inl ⟨_, ns, rfl, h1, fun ns' p pm so hp => ?_⟩
          have e : ns' = srtI ns := sortedI_uniq (pm.trans (srtI_perm ns).symm) so (srtI_sorted ns)
          rw [e]
          exact h (w.newL p _ _) _ (ok.newL hp (reps_ints K w.ι w.h.length w.H (srtI ns))) rfl (Wd.ext_newL hp) at_newL
        | none =>
          rw [e3] at h
          simp only at h
          cases e4 : pairsOf l with
          | none => rw [e4] at h; exact h.elim
          | some ps =>
            rw [e4] at h
            simp only [Option.map_some] at h
            rw [pairsOf_inv e4] at h2
            refine .inr ⟨_, us, ps, rfl, h1, pairAt_of h2, fun k ys p k1 so st hp => ?_⟩
            have e : ys.map k = srtP ps := by
              refine sortedP_uniq ?_ ?_ (srtP_sorted ps)
              · rw [← k1]
                exact (st.map k).trans (srtP_perm _).symm
              · rw [List.pairwise_map]
                exact so.imp fun {x y} hh => by
                  have := SrtO.lexB_no.mp hh
                  unfold leP
                  simp
                  omega
            have ry := reps_perm h2 k1 st
            rw [e] at ry
            exact h (w.newL p _ _) _ (ok.newL hp ry) rfl (Wd.ext_newL hp) at_newL
    | _ => exact h.elim
end Vq

namespace Vq
open PySem PySem.Spec PyProof.Rows L2
/-- xs.extend(t), t a tuple of whatever making -/
theorem ext_tup {l b : Addr} {xs ys : Array Value} {n k : Nat} {dd : Option Addr} {sl : Array (Option Value)} (h0 : ¬(!xs.isEmpty && Builtin.List.listTooLong (xs.size + ys.size)) = true) (h1 : xs.size ≤ sizeLine) (h2 : xs.size + ys.size ≤ sizeLine + 1) :
    Meets (Builtin.«list.extend» ⟨[.ref l, .ref b], []⟩) fun _ R s => s.heap.get? l = some ⟨.type "list", none, .seq xs n, #[]⟩ ∧ s.heap.get? b = some ⟨.type "tuple", dd, .seq ys k, sl⟩ ∧
      R (.ok (.ret Value.none)) { s with heap := s.heap.update l (Obj.mapSeq fun z => z ++ ys), toks := s.toks } :=
  .of_wp fun prog w A R s h => by
    obtain ⟨hp, g, dr, tk, os⟩ := s
    obtain ⟨hl, hb, h⟩ := h
    have e1 := AutoSeq1.idx_int
    have e2 := AutoSeq1.sub_tuple_tuple
    have e3 := AutoSeq1.sub_list_list
    have e4 := AutoSeq1.sub_tuple_list
    have e5 := AutoSeq1.sub_list_tuple
    have hz : (xs ++ ys).size ≤ sizeLine + 1 := by rw [Array.size_append]; exact h2
    wp_walk using (wpAny_updateSeq hl rfl (hz := h1) (_hz' := hz)), AutoSeq1.wpAny_loadPart' hl, AutoSeq1.wpAny_loadPart' hb
    exact ⟨_, rfl, h⟩
variable {X : Cx}
def rExtT (K : PySem.W.Frag) : V → List V → Hp → VK → Prop := fun x vs H Q => ∃ l b xs zs, x = V.ref l ∧ vs = [V.ref b] ∧ H l = some (.lst xs) ∧ SqT K H b zs ∧ xs.length + zs.length ≤ sizeLine ∧ Q .non (upd H l (.lst (xs ++ zs)))
theorem mt_extT : MtR X "list.extend" (rExtT X.K) := by
  intro pins s σ H x vs v us Q I rx rv h
  obtain ⟨l, b, xs, zs, rfl, rfl, hH, hB, hz, q⟩ := h
  cases rx
  obtain ⟨u, rfl, ru⟩ := rv.one
  cases ru
  obtain ⟨z, its, n, r, hl, e⟩ := I.lstM hH
  obtain ⟨its2, r2, ⟨⟨cls, dd, data, sl⟩, e2, hc, n2, hd⟩, hz2⟩ := I.tuple hB
  simp only at hc hd
  subst hc hd
  have l2 := r2.length
  have hsz : its.toArray.size + its2.toArray.size ≤ sizeLine := by
    rw [List.size_toArray, List.size_toArray]
    omega
  have hlong : ¬(!its.toArray.isEmpty && Builtin.List.listTooLong (its.toArray.size + its2.toArray.size)) = true := by
    rw [notLongL hsz, Bool.and_false]
    exact Bool.false_ne_true
  refine call_meets F.slot_list_extend ⟨_, e, rfl⟩ F.entry_list_extend (F.args_list_extend_2 _ _) (ext_tup (k := n2) (dd := dd) (sl := sl) hlong (by rw [List.size_toArray]; omega) (by omega)) ⟨e, e2, ?_⟩
  refine ⟨.non, _, I.lset (its' := its ++ its2) hH e (by simp) (r.append r2) ?_, rfl, q⟩
  rw [List.length_append]
  omega

theorem mt_ext2 : MtR X "list.extend" (fun x vs H Q => rExtend x vs H Q ∨ rExtT X.K x vs H Q) := by
  intro pins s σ H x vs v us Q I rx rv h
  rcases h with h | h
  · exact mt_extend pins s σ H x vs v us Q I rx rv h
  · exact mt_extT pins s σ H x vs v us Q I rx rv h
def mExt2 (x : D) (xs : List D) (h : VH) : Option (D × VH) := (lstAt h x).bind fun p => (one xs).bind fun d => match d with
  | .tup l => if p.2.length + l.length ≤ sizeLine then some (.non, h.set p.1 (.lst (p.2 ++ l))) else none
  | _ => mExtend x xs h
theorem ext2_mtd (K : PySem.W.Frag) : MtD K (fun x vs H Q => rExtend x vs H Q ∨ rExtT K x vs H Q) mExt2 := fun w x xs vx vs Q ok rx rs h => by
  unfold mExt2 at h
  cases e1 : lstAt w.h x with
  | none => rw [e1] at h; exact h.elim
  | some p =>
    rw [e1] at h
    simp only [Option.bind_some] at h
    cases e2 : one xs with
    | none => rw [e2] at h; exact h.elim
    | some d =>
      rw [e2] at h
      simp only [Option.bind_some] at h
      cases d with
      | tup k =>
        obtain ⟨n, l⟩ := p
        obtain ⟨rfl, en, rfl, us, g1, g2⟩ := lstAt_rp ok rx e1
        obtain ⟨v, _, rfl, rd⟩ := one_rps rs e2
        simp only at h
        by_cases hl : l.length + k.length ≤ sizeLine
        · rw [if_pos hl] at h
          cases rd with
          | tup ht rt =>
            rename_i a zs
            obtain ⟨ok', x'⟩ := ok.putL (ds := l ++ k) (vs := us ++ zs) en (g2.append rt)
            exact .inr ⟨_, _, us, zs, rfl, rfl, g1, ht, by rw [← RepL.length g2, ← RepL.length rt]; exact hl, h (w.putL n _ _) _ ok' rfl x' .non⟩
        · rw [if_neg hl] at h
          exact h.elim
      | _ => exact .inl (extend_mtd K w x xs vx vs Q ok rx rs h)
/-- xs.pop(i), i not below 0 -/
def mPopI (x : D) (xs : List D) (h : VH) : Option (D × VH) := (lstAt h x).bind fun p => (int1 xs).bind fun i => if 0 ≤ i ∧ i < 2 ^ 62 then (p.2[i.toNat]?).map fun d => (d, h.set p.1 (.lst (p.2.eraseIdx i.toNat))) else none
theorem popI_mtd (K : PySem.W.Frag) : MtD K rPopAt mPopI := fun w x xs vx vs Q ok rx rs h => by
  unfold mPopI at h
  cases e1 : lstAt w.h x with
  | none => rw [e1] at h; exact h.elim
  | some p =>
    obtain ⟨n, l⟩ := p
    obtain ⟨rfl, en, rfl, us, g1, g2⟩ := lstAt_rp ok rx e1
    rw [e1] at h
    simp only [Option.bind_some] at h
    cases e2 : int1 xs with
    | none => rw [e2] at h; exact h.elim
    | some i =>
      have ev := int1_rps rs e2
      subst ev
      rw [e2] at h
      simp only [Option.bind_some] at h
      by_cases hi : 0 ≤ i ∧ i < 2 ^ 62
      · rw [if_pos hi] at h
        cases e3 : l[i.toNat]? with
        | none => rw [e3] at h; exact h.elim
        | some d =>
          rw [e3] at h
          obtain ⟨v, ev, rv⟩ := RepL.get g2 e3
          obtain ⟨ok', x'⟩ := ok.putL (ds := l.eraseIdx i.toNat) (vs := us.eraseIdx i.toNat) en (RepL.eraseIdx _ g2)
          have hlt : i.toNat < us.length := (List.getElem?_eq_some_iff.mp ev).1
          refine ⟨_, us, i, i.toNat, v, rfl, rfl, g1, by omega, by omega, ?_, ev, h (w.putL n _ _) v ok' rfl x' (x'.rp rv)⟩
          unfold seqIndex?
          rw [if_neg (show ¬ i < 0 by omega)]
          have : (decide (0 ≤ i) && decide (i < (us.length : Int))) = true := by
            rw [decide_eq_true hi.1, decide_eq_true (show i < (us.length : Int) by omega)]
            rfl
          rw [if_pos this]
      · rw [if_neg hi] at h
        exact h.elim
/-- where the first like y stands -/
def findF (y : D) : List D → Option Nat
  | [] => none
  | d :: r => if eqF d y = true then some 0 else (findF y r).map (· + 1)
theorem findF_is {y : D} : ∀ {l : List D} {j : Nat}, findF y l = some j → ∃ d, l[j]? = some d ∧ eqF d y = true ∧ ∀ (m : Nat) (z : D), m < j → l[m]? = some z → eqF z y = false
  | [], _, e => by cases e
  | d :: r, j, e => by
    unfold findF at e
    by_cases h : eqF d y = true
    · rw [if_pos h] at e
      cases e
      exact ⟨d, rfl, h, fun m z hm => absurd hm (Nat.not_lt_zero _)⟩
    · rw [if_neg h] at e
      obtain ⟨k, ek, rfl⟩ := Option.map_eq_some_iff.mp e
      obtain ⟨x, h1, h2, h3⟩ := findF_is ek
      refine ⟨x, by simpa using h1, h2, fun m z hm hz => ?_⟩
      cases m with
      | zero =>
        cases hz
        simpa using h
      | succ m => exact h3 m z (by omega) (by simpa using hz)
def mIndex (x : D) (xs : List D) (h : VH) : Option (D × VH) := (seqOf h x).bind fun l => (one xs).bind fun y => if (flatD y && l.all flatD) = true then (findF y l).map fun j => (.int (j : Nat), h) else none
def mIdx (x : D) (xs : List D) (h : VH) : Option (D × VH) := match x with
  | .ref n => mIndex (.ref n) xs h
  | _ => none
theorem index_mtd (K : PySem.W.Frag) : MtD K (rIndex K) mIdx := fun w x xs vx vs Q ok rx rs h => by
  unfold mIdx at h
  cases x with
  | ref n =>
    simp only at h
    unfold mIndex at h
    cases e1 : lk w.h n with
    | none => rw [show seqOf w.h (.ref n) = lk w.h n from rfl, e1] at h; exact h.elim
    | some l =>
      rw [show seqOf w.h (.ref n) = lk w.h n from rfl, e1] at h
      simp only [Option.bind_some] at h
      cases rx
      obtain ⟨us, h1, h2⟩ := lk_sq ok e1
      cases e2 : one xs with
      | none => rw [e2] at h; exact h.elim
      | some y =>
        obtain ⟨v, _, rfl, ry⟩ := one_rps rs e2
        rw [e2] at h
        simp only [Option.bind_some] at h
        by_cases hf : (flatD y && l.all flatD) = true
        · rw [if_pos hf] at h
          rw [Bool.and_eq_true] at hf
          cases e3 : findF y l with
          | none => rw [e3] at h; exact h.elim
          | some j =>
            rw [e3] at h
            obtain ⟨d, g1, g2, g3⟩ := findF_is e3
            obtain ⟨z, ez, rz⟩ := RepL.get h2 g1
            have fl : ∀ {i : Nat} {e : D}, l[i]? = some e → flatD e = true := fun he => List.all_eq_true.mp hf.2 _ (List.mem_of_getElem? he)
            refine ⟨_, us, v, j, z, rfl, rfl, h1, flat_rp ry hf.1, all_flat h2 hf.2, ez, by rw [eqF_rp rz ry (fl g1) hf.1]; exact g2, fun m z' hm hz' => ?_, h w _ ok rfl (.refl w) (.int _)⟩
            have hm' : m < l.length := by
              rw [RepL.length h2]
              exact (List.getElem?_eq_some_iff.mp hz').1
            obtain ⟨u, eu, ru⟩ := RepL.get h2 (List.getElem?_eq_getElem hm')
            rw [hz'] at eu
            cases eu
            rw [eqF_rp ru ry (fl (List.getElem?_eq_getElem hm')) hf.1]
            exact g3 m _ hm (List.getElem?_eq_getElem hm')
        · rw [if_neg hf] at h
          exact h.elim
  | _ => exact h.elim
end Vq

/-! Part 19: walks from behind, bits. -/
namespace Vq
open PySem PySem.Spec PyProof.Rows L2
section
variable {X : Cx} {W : WX}
/-- from behind: the length must stay -/
def revOf (h0 : VH) (d : D) : Option (VH → Option (List D)) := match d with
  | .tup l => some fun _ => some l.reverse
  | .ref n => (lk h0 n).map fun l0 h => (lk h n).bind fun l => if l.length = l0.length then some l.reverse else none
  | _ => none
def vRev (f : VE) : VI := fun s h => (f s h).bind fun p => match revOf p.2 p.1 with
  | some src => .ok (src, p.2)
  | none => .bad
theorem rev_get {α : Type} {l : List α} {i n : Nat} (hn : l.length = n) : (l.reverse[i]? = none → n ≤ i) ∧ ∀ d, l.reverse[i]? = some d → i < n ∧ l[n - 1 - i]? = some d := by
  subst hn
  refine ⟨fun h => by simpa using h, fun d h => ?_⟩
  have hi : i < l.length := by
    have := (List.getElem?_eq_some_iff.mp h).1
    simpa using this
  rw [List.getElem?_reverse hi] at h
  exact ⟨hi, h⟩
theorem qRev {tg e : Expr} {f : VE} {p pos : Pos} (hm : X.mg "reversed" = none) (he : PE X e (gE X W f)) (hg : Gl X "reversed" := by rfl) (hs : starEach [e] X.env = (false, eval e X.env) :: starEach [] X.env := by rfl) :
    PI X tg (.Call (.Name "reversed" p) [e] [] pos) (gI X W (vRev f)) :=
  PIw (RT.pi_revA hg hm he hs) fun σ H R ⟨w, s, hH, ok, sl, hp⟩ => by
    subst hH
    unfold vRev at hp
    refine ⟨w, s, rfl, ok, sl, ?_⟩
    cases e1 : f s w.h with
    | bad => rw [e1] at hp; exact hp.elim
    | ex x s' h' => rw [e1] at hp; exact hp
    | ok p =>
      obtain ⟨d, h1⟩ := p
      rw [e1] at hp
      simp only [Res.ok_bind] at hp
      intro w1 v ok1 eh x1 r1
      cases d with
      | tup ds =>
        have r1' : RepV X.K w1.ι w1.h.length w1.H (.tup ds) v := r1
        cases r1' with
        | @tup a vs _ hq rr =>
          refine ⟨a, vs, rfl, .inr ⟨hq, hp w1 _ ok1 eh x1 fun w' i ys x' ok' e' => ?_⟩⟩
          cases e'
          have h' := x'.tup _ _ hq
          have hl := RepL.length rr
          have g := rev_get (l := ds) (i := i) hl
          refine ⟨g.1, fun d ed => ?_⟩
          obtain ⟨hi, ed'⟩ := g.2 d ed
          obtain ⟨v, ev, rv⟩ := (x'.rps rr).get ed'
          refine ⟨⟨hi, vs, v, h', ev⟩, fun x2 H' ⟨eH, ex⟩ => ⟨w', eH.symm, rfl, ok', .refl w', ?_⟩⟩
          have z := ex vs h'
          rw [ev] at z
          cases z
          exact rv
      | ref n =>
        have eh' : w1.h = h1 := eh
        have r1' : RepV X.K w1.ι w1.h.length w1.H (.ref n) v := r1
        cases r1' with
        | ref hn =>
          cases el : lk h1 n with
          | none => simp only [revOf, el, Option.map_none] at hp; exact hp.elim
          | some l0 =>
            simp only [revOf, el, Option.map_some] at hp
            obtain ⟨vs, g1, g2⟩ := lk_sq ok1 (by rw [eh']; exact el)
            refine ⟨_, vs, rfl, .inl ⟨g1, hp w1 _ ok1 eh x1 fun w' i ys x' ok' e' => ?_⟩⟩
            obtain ⟨l, e2, e3⟩ := Option.bind_eq_some_iff.mp e'
            by_cases hl : l.length = l0.length
            · rw [if_pos hl] at e3
              cases e3
              obtain ⟨us, k1, k2⟩ := lk_sq ok' e2
              rw [x'.ι n hn] at k1
              have hlv : l.length = vs.length := by rw [hl, RepL.length g2]
              have g := rev_get (l := l) (i := i) hlv
              refine ⟨g.1, fun d ed => ?_⟩
              obtain ⟨hi, ed'⟩ := g.2 d ed
              obtain ⟨v, ev, rv⟩ := RepL.get k2 ed'
              refine ⟨⟨hi, us, v, k1, ev⟩, fun x2 H' ⟨eH, ex⟩ => ⟨w', eH.symm, rfl, ok', .refl w', ?_⟩⟩
              have z := ex us k1
              rw [ev] at z
              cases z
              exact rv
            · rw [if_neg hl] at e3
              cases e3
      | _ => exact hp.elim
end

/-! ### bits -/
def shlOk (i j : Int) : Bool := decide (0 ≤ j) && decide ((Builtin.Int.intBits i : Int) + j ≤ 2 ^ 27)
def aShl := ii fun i j => if shlOk i j then some (.int (i * 2 ^ j.toNat)) else none
theorem shl_ii (K : PySem.W.Frag) : OpD K (rI CShl fun i j => .int (i * 2 ^ j.toNat)) aShl := opd_ii fun i j d H Q e q => by
  by_cases h : shlOk i j = true
  · rw [if_pos h] at e
    cases e
    unfold shlOk at h
    simp only [Bool.and_eq_true, decide_eq_true_eq] at h
    exact ⟨i, j, rfl, rfl, h, q _ fun _ => .int _⟩
  · rw [if_neg h] at e
    cases e
def aShr := ii fun i j => if 0 ≤ j then some (.int (i / 2 ^ j.toNat)) else none
theorem shr_ii (K : PySem.W.Frag) : OpD K (rI (fun _ j => 0 ≤ j) fun i j => .int (i / 2 ^ j.toNat)) aShr := opd_ii fun i j d H Q e q => by
  by_cases h : 0 ≤ j
  · rw [if_pos h] at e
    cases e
    exact ⟨i, j, rfl, rfl, h, q _ fun _ => .int _⟩
  · rw [if_neg h] at e
    cases e
def aAnd := ii fun i j => some (.int (Builtin.bitAnd i j))
theorem and_ii (K : PySem.W.Frag) : OpD K (rI0 fun i j => .int (Builtin.bitAnd i j)) aAnd := opd_ii fun i j d H Q e q => by
  cases e
  exact ⟨i, j, rfl, rfl, q _ fun _ => .int _⟩
def aOr := ii fun i j => some (.int (Builtin.bitOr i j))
theorem or_ii (K : PySem.W.Frag) : OpD K (rI0 fun i j => .int (Builtin.bitOr i j)) aOr := opd_ii fun i j d H Q e q => by
  cases e
  exact ⟨i, j, rfl, rfl, q _ fun _ => .int _⟩
def aXor := ii fun i j => some (.int (Builtin.bitXor i j))
theorem xor_ii (K : PySem.W.Frag) : OpD K (rI0 fun i j => .int (Builtin.bitXor i j)) aXor := opd_ii fun i j d H Q e q => by
  cases e
  exact ⟨i, j, rfl, rfl, q _ fun _ => .int _⟩
end Vq

/-! Part 20: constants of the text's top, isinstance, more methods. -/
namespace Vq
open PySem PySem.Spec PyProof.Rows L2
section
variable {X : Cx} {W : WX}
/-- a name that the text's top has made, an int -/
theorem qGi {x : Str} {i : Int} {pos : Pos} (hm : ∃ t, X.mg x = some (.int i t)) (hg : Gl X x := by rfl) (hd : (x == ("__debug__" : Str)) = false := by decide) : PE X (.Name x pos) (gE X W (vC (.int i))) := by
  obtain ⟨t, hm⟩ := hm
  exact PEw (pe_glob (v := .int i) hg hm ⟨t, rfl⟩ hd) fun σ H Q ⟨w, s, hH, ok, sl, hp⟩ => by
    subst hH
    exact hp w (.int i) ok rfl (.refl w) (.int i)
/-- .. a truth value -/
theorem qGb {x : Str} {b : Bool} {pos : Pos} (hm : X.mg x = some (.bool b)) (hg : Gl X x := by rfl) (hd : (x == ("__debug__" : Str)) = false := by decide) : PE X (.Name x pos) (gE X W (vC (.bl b))) :=
  PEw (pe_glob (v := .bl b) hg hm rfl hd) fun σ H Q ⟨w, s, hH, ok, sl, hp⟩ => by
    subst hH
    exact hp w (.bl b) ok rfl (.refl w) (.bl b)
/-- .. a text -/
theorem qGs {x y : Str} {pos : Pos} (hm : ∃ t, X.mg x = some (.str y t)) (hg : Gl X x := by rfl) (hd : (x == ("__debug__" : Str)) = false := by decide) : PE X (.Name x pos) (gE X W (vC (.str y))) := by
  obtain ⟨t, hm⟩ := hm
  exact PEw (pe_glob (v := .str y) hg hm ⟨t, rfl⟩ hd) fun σ H Q ⟨w, s, hH, ok, sl, hp⟩ => by
    subst hH
    exact hp w (.str y) ok rfl (.refl w) (.str y)

/-! ### isinstance -/
def tyNm : D → String
  | .non => "NoneType"
  | .bl _ => "bool"
  | .int _ => "int"
  | .str _ => "str"
  | .tup _ => "tuple"
  | .ftup _ => "tuple"
  | .dic _ _ => "dict"
  | .ref _ => "list"
theorem tyNm_is {K : PySem.W.Frag} {w : Wd} {d : D} {v : V} (ok : w.Ok K) (r : Rp K w d v) : TyX K w.H v (.type (tyNm d)) := by
  cases r with
  | non => exact .base .non
  | bl b => exact .base (.bl b)
  | int i => exact .base (.int i)
  | str s => exact .base (.str s)
  | tup h r =>
    rcases h with (h | ⟨ob, h⟩) | ⟨o, its, n, hk, hc, _⟩
    · exact .base (.tup h)
    · exact .fTuple h
    · exact .kTuple hk hc
  | ftup h r => exact .fTuple h.choose_spec.1
  | dic h r => exact .fDict h.2.choose_spec
  | @ref n hn =>
    have : ∃ ds, lk w.h n = some ds := by
      unfold lk
      rw [List.getElem?_eq_getElem hn]
      cases w.h[n] <;> exact ⟨_, rfl⟩
    obtain ⟨ds, e⟩ := this
    obtain ⟨vs, h, _⟩ := lk_sq ok e
    rcases h with (h | ⟨ob, h⟩) | ⟨o, its, n, hk, hc, _⟩
    · exact .base (.lst h)
    · exact .base (.frz h)
    · exact .kList hk hc
def vIsi (T : String) (f : VE) : VE := fun s h => (f s h).bind fun p => match kitB (tyNm p.1) T with
  | some b => .ok (.bl b, p.2)
  | none => .bad
theorem qIsi {e : Expr} {f : VE} {T : Str} {Ts : String} {p p2 pos : Pos} (hm : X.mg "isinstance" = none) (hmT : X.mg T = none) (he : PE X e (gE X W f)) (hv : bootBuiltins T = some (.type Ts) := by decide +kernel)
    (hg : Gl X "isinstance" := by rfl) (hgT : Gl X T := by rfl) (hn : T ≠ "__name__" := by decide) (hd : (T == ("__debug__" : Str)) = false := by decide)
    (h1 : starEach [e, .Name T p2] X.env = (false, eval e X.env) :: starEach [.Name T p2] X.env := by rfl) (h2 : starEach [.Name T p2] X.env = (false, eval (.Name T p2) X.env) :: starEach [] X.env := by rfl)
    (h3 : (backTo pos (starEach [.Name T p2] X.env)).any (·.1) = false := by rfl) :
    PE X (.Call (.Name "isinstance" p) [e, .Name T p2] [] pos) (gE X W (vIsi Ts f)) :=
  PEw (pe_callB call_isi hg hm (by decide +kernel) (pa_cons he (pa_cons (pe_bltn (v := .ty Ts) hgT hmT hv rfl hn hd) pa_nil h2) h1) (by decide) (by decide) h1 h3) fun σ H Q ⟨w, s, hH, ok, sl, hp⟩ => by
    subst hH
    refine gE.seq ok sl (wE w Q) hp fun d w1 v ok1 x1 sl1 r1 hp1 => ?_
    simp only at hp1
    cases e : kitB (tyNm d) Ts with
    | none => rw [e] at hp1; exact hp1.elim
    | some b =>
      rw [e] at hp1
      exact ⟨v, .ty Ts, .type (tyNm d), .type Ts, b, rfl, .ty Ts, tyNm_is ok1 r1, kit_ty e, hp1 w1 _ ok1 rfl x1 (.bl b)⟩
end
end Vq

/-! Part 21: values of the new words. -/
namespace Vq
open PySem PySem.Spec PyProof.Rows L2
theorem tyL_of {h : VH} {n : Nat} {l : List D} (e : lk h n = some l) : tyD "list" (.ref n) h = true := by simp [tyD, e]
theorem mAppend_of {h : VH} {n : Nat} {l : List D} {d : D} (e : h[n]? = some (.lst l)) (hz : l.length < 16777216) : mAppend (.ref n) [d] h = some (.non, h.set n (.lst (l ++ [d]))) := by
  unfold mAppend
  rw [lstAt_of e]
  simp [lt_line hz]
theorem mPopI_of {h : VH} {n : Nat} {l : List D} {i : Int} {d : D} (e : h[n]? = some (.lst l)) (h0 : 0 ≤ i) (h1 : i ≤ 1000000) (ed : l[i.toNat]? = some d) : mPopI (.ref n) [.int i] h = some (d, h.set n (.lst (l.eraseIdx i.toNat))) := by
  unfold mPopI
  rw [lstAt_of e]
  have : 0 ≤ i ∧ i < 2 ^ 62 := ⟨h0, by omega⟩
  simp only [Option.bind_some, int1_1]
  rw [if_pos this, ed]
  rfl
theorem mExt2_t {h : VH} {n : Nat} {l k : List D} (e : h[n]? = some (.lst l)) (hz : l.length + k.length ≤ 16777216) : mExt2 (.ref n) [.tup k] h = some (.non, h.set n (.lst (l ++ k))) := by
  unfold mExt2
  rw [lstAt_of e]
  simp [le_line hz]
theorem mExt2_r {h : VH} {n m : Nat} {l k : List D} (e : h[n]? = some (.lst l)) (e2 : h[m]? = some (.lst k)) (hz : l.length + k.length ≤ 16777216) : mExt2 (.ref n) [.ref m] h = some (.non, h.set n (.lst (l ++ k))) := by
  unfold mExt2 mExtend
  rw [lstAt_of e]
  simp [le_line hz, lstAt_of e2]
theorem intsOf_pD (p : Int × Int) (r : List (Int × Int)) : intsOf ((p :: r).map pD) = none := rfl
theorem bSorted_I {h : VH} {n : Nat} {l : List Int} (e : lk h n = some (l.map .int)) : bSorted [.ref n] h = some (.ref h.length, h ++ [.lst ((srtI l).map .int)]) := by
  unfold bSorted
  simp [e]
theorem bSorted_P {h : VH} {n : Nat} {l : List (Int × Int)} (e : lk h n = some (l.map pD)) : bSorted [.ref n] h = some (.ref h.length, h ++ [.lst ((srtP l).map pD)]) := by
  cases l with
  | nil =>
    have z := bSorted_I (l := []) e
    rw [z]
    have a1 : srtI [] = [] := by simp [srtI]
    have a2 : srtP [] = [] := by simp [srtP]
    rw [a1, a2]
    rfl
  | cons p r =>
    unfold bSorted
    have : intsOf (pD p :: r.map pD) = none := intsOf_pD p r
    have h2 : pairsOf (pD p :: r.map pD) = some (p :: r) := pairsOf_map (p :: r)
    simp [e, this, h2]
theorem dAdd_L {h : VH} {n m : Nat} {a b : List D} (e1 : h[n]? = some (.lst a)) (e2 : h[m]? = some (.lst b)) (hz : a.length + b.length ≤ 16777216) : dAdd (.ref n) (.ref m) h = some (.ref h.length, h ++ [.lst (a ++ b)]) := by
  unfold dAdd orD aAdd ii tAddT tAddL
  simp [e1, e2, le_line hz]
theorem sIx_nn {n d : Nat} {i : Int} (h0 : 0 ≤ i) : HT.sIx n d (some i) = min i.toNat n := by
  show (if i < 0 then (i + (n : Int)).toNat else min i.toNat n) = _
  rw [if_neg (by omega)]
theorem cut_to (l : List D) {i : Int} (h0 : 0 ≤ i) : cutD l none (some i) = l.take i.toNat := by
  unfold cutD
  rw [sIx_nn h0, show HT.sIx l.length 0 none = 0 from rfl]
  simp only [List.drop_zero, Nat.sub_zero]
  rcases Nat.le_total i.toNat l.length with h | h
  · rw [Nat.min_eq_left h]
  · rw [Nat.min_eq_right h, List.take_of_length_le (Nat.le_refl _), List.take_of_length_le h]
theorem cut_from (l : List D) {i : Int} (h0 : 0 ≤ i) : cutD l (some i) none = l.drop i.toNat := by
  unfold cutD
  rw [sIx_nn h0, show HT.sIx l.length l.length none = l.length from rfl]
  rcases Nat.le_total i.toNat l.length with h | h
  · rw [Nat.min_eq_left h, List.take_of_length_le (by simp)]
  · rw [Nat.min_eq_right h, List.drop_eq_nil_of_le h, List.drop_eq_nil_of_le (Nat.le_refl _)]
    simp
theorem slD_to {h : VH} {n : Nat} {l : List D} {i : Int} (e : lk h n = some l) (h0 : 0 ≤ i) : slD (.ref n) none (some i) h = some (.ref h.length, h ++ [.lst (l.take i.toNat)]) := by
  unfold slD
  simp [e, cut_to l h0]
theorem slD_from {h : VH} {n : Nat} {l : List D} {i : Int} (e : lk h n = some l) (h0 : 0 ≤ i) : slD (.ref n) (some i) none h = some (.ref h.length, h ++ [.lst (l.drop i.toNat)]) := by
  unfold slD
  simp [e, cut_from l h0]
/-- lists of plain data of one kind -/
theorem eqLp {α : Type} [DecidableEq α] [Pl α] (hd : Pl.dep α ≤ 60) (neg : Bool) {h : VH} {n m : Nat} {a b : List α} (e1 : lk h n = some (a.map Pl.d)) (e2 : lk h m = some (b.map Pl.d)) :
    eqWith neg (.ref n) (.ref m) h = some (.bl (if neg then !decide (a = b) else decide (a = b)), h) := by
  have p1 := py_ref (ps := a.map Pl.p) e1 fun f => pl_pyL f a
  have p2 := py_ref (ps := b.map Pl.p) e2 fun f => pl_pyL f b
  have sh : ∀ a : List α, SeqAt.shaped (.list (a.map Pl.p)) = true := fun a => by
    unfold SeqAt.shaped
    have h1 : PyData.canLay0 (.list (a.map Pl.p)) = true := by
      simp only [PyData.canLay0]
      exact pl_lay a
    have h2 : PyData.depth (.list (a.map Pl.p)) ≤ 64 := by
      simp only [PyData.depth]
      have : PyData.depthAll (a.map Pl.p) ≤ Pl.dep α := pl_depth a
      omega
    rw [h1, decide_eq_true h2]
    rfl
  have e : PyData.eqv (.list (a.map Pl.p)) (.list (b.map Pl.p)) = decide (a = b) := by
    simp only [PyData.eqv]
    exact pl_eq a b
  unfold eqWith
  simp only [p1, p2, sh, Bool.and_self, if_true, e]
theorem dNe_P {h : VH} {n m : Nat} {a b : List (Int × Int)} (e1 : lk h n = some (a.map pD)) (e2 : lk h m = some (b.map pD)) : dNe (.ref n) (.ref m) h = some (.bl (!decide (a = b)), h) := eqLp (α := Int × Int) (by decide) true e1 e2
theorem dEq_P {h : VH} {n m : Nat} {a b : List (Int × Int)} (e1 : lk h n = some (a.map pD)) (e2 : lk h m = some (b.map pD)) : dEq (.ref n) (.ref m) h = some (.bl (decide (a = b)), h) := eqLp (α := Int × Int) (by decide) false e1 e2
end Vq

/-! Part 22: repr of plain data of any mixture. -/
namespace Vq
open PySem PySem.Spec PyProof.Rows L2
def pyOf (d : D) : PyData := (pyD (fun _ => none) d).getD .none
/-- plain: no list within, at most k deep, all of it may be shown -/
structure PlD (k : Nat) (d : D) : Prop where
  hp : ∀ f, pyD f d = some (pyOf d)
  lay : (pyOf d).canLay0 = true
  dep : (pyOf d).depth ≤ k
  sho : (pyOf d).showable = true
def sz (d : D) : Nat := size (pyOf d)
theorem PlD.mono {k j : Nat} {d : D} (h : PlD k d) (hk : k ≤ j) : PlD j d := ⟨h.hp, h.lay, Nat.le_trans h.dep hk, h.sho⟩
theorem PlD.of {k : Nat} {d : D} {p : PyData} (hp : ∀ f, pyD f d = some p) (lay : p.canLay0 = true) (dep : p.depth ≤ k) (sho : p.showable = true) : PlD k d := by
  have e : pyOf d = p := by
    unfold pyOf
    rw [hp]
    rfl
  refine ⟨fun f => ?_, ?_, ?_, ?_⟩ <;> rw [e]
  · exact hp f
  · exact lay
  · exact dep
  · exact sho
theorem pyOf_i (i : Int) : pyOf (.int i) = .int i := rfl
theorem pl_non : PlD 0 .non := .of (p := .none) (fun f => pyD_n f) (by simp only [PyData.canLay0]) (by simp only [PyData.depth, Nat.le_refl]) (by simp only [PyData.showable])
theorem pl_bl (b : Bool) : PlD 0 (.bl b) := .of (p := .bool b) (fun f => pyD_b f b) (by simp only [PyData.canLay0]) (by simp only [PyData.depth, Nat.le_refl]) (by simp only [PyData.showable])
theorem pl_str {x : Str} (h : PyData.strOk x = true) : PlD 0 (.str x) := .of (p := .str x) (fun f => pyD_s f x) (by simp only [PyData.canLay0]; exact h) (by simp only [PyData.depth, Nat.le_refl]) (by simp only [PyData.showable])
theorem pl_int {i : Int} (h : i.natAbs.log2 < 1920) : PlD 0 (.int i) := .of (p := .int i) (fun f => pyD_i f i) (by simp only [PyData.canLay0]) (by simp only [PyData.depth, Nat.le_refl]) (by simp only [PyData.showable, decide_eq_true_eq]; exact h)
theorem pl_small {i : Int} (h0 : -(10 ^ 400) ≤ i) (h1 : i ≤ 10 ^ 400) : PlD 0 (.int i) := by
  refine pl_int ?_
  have t : (10 ^ 400 : Nat) < 2 ^ 1920 := by decide +kernel
  by_cases h : i.natAbs = 0
  · rw [h]
    decide
  · rw [Nat.log2_lt h]
    have : i.natAbs ≤ 10 ^ 400 := by omega
    omega
theorem plL {k : Nat} : ∀ {l : List D}, (∀ d ∈ l, PlD k d) → (∀ f, pyL f l = some (l.map pyOf)) ∧ PyData.canLayAll0 (l.map pyOf) = true ∧ PyData.depthAll (l.map pyOf) ≤ k ∧ PyData.showableAll (l.map pyOf) = true
  | [], _ => ⟨fun f => pyL_nil f, by simp only [List.map_nil, PyData.canLayAll0], by simp only [List.map_nil, PyData.depthAll, Nat.zero_le], by simp only [List.map_nil, PyData.showableAll]⟩
  | d :: r, h => by
    obtain ⟨a, b, c, e⟩ := plL (l := r) fun x hx => h x (List.mem_cons_of_mem _ hx)
    have q := h d (List.mem_cons_self ..)
    refine ⟨fun f => ?_, ?_, ?_, ?_⟩
    · simp only [pyL, q.hp, a, List.map_cons]
      rfl
    · simp only [List.map_cons, PyData.canLayAll0, q.lay, b, Bool.and_self]
    · simp only [List.map_cons, PyData.depthAll]
      exact Nat.max_le.mpr ⟨q.dep, c⟩
    · simp only [List.map_cons, PyData.showableAll, q.sho, e, Bool.and_self]
theorem pyOf_tup {k : Nat} {l : List D} (h : ∀ d ∈ l, PlD k d) : pyOf (.tup l) = .tuple (l.map pyOf) := by
  unfold pyOf
  simp only [pyD, (plL h).1]
  rfl
theorem pl_tup {k : Nat} {l : List D} (h : ∀ d ∈ l, PlD k d) : PlD (k + 1) (.tup l) := by
  obtain ⟨a, b, c, e⟩ := plL h
  refine .of (p := .tuple (l.map pyOf)) (fun f => ?_) ?_ ?_ ?_
  · simp only [pyD, a]
    rfl
  · simp only [PyData.canLay0]
    exact b
  · simp only [PyData.depth]
    exact Nat.succ_le_succ c
  · simp only [PyData.showable]
    exact e
theorem sizes_map : ∀ l : List D, sizes (l.map pyOf) = (l.map sz).sum
  | [] => by simp only [List.map_nil, sizes, List.sum_nil]
  | d :: r => by
    simp only [List.map_cons, sizes, List.sum_cons, sizes_map r]
    rfl
theorem sz_tup {k : Nat} {l : List D} (h : ∀ d ∈ l, PlD k d) : sz (.tup l) = (l.map sz).sum + 1 := by
  unfold sz
  rw [pyOf_tup h]
  simp only [size]
  rw [sizes_map]
  rfl
theorem sz_int (i : Int) : sz (.int i) = 1 := by
  unfold sz
  rw [pyOf_i]
  simp only [size]
theorem repr_D {k : Nat} {d : D} (q : PlD k d) (hk : k ≤ 64) (hs : sz d ≤ 8000) (h : VH) : bRepr [d] h = some (.str (pyOf d).shown, h) := by
  refine bRepr_of (q.hp _) (reprOk_of ?_ q.sho hs)
  unfold SeqAt.shaped
  rw [q.lay, decide_eq_true (Nat.le_trans q.dep hk)]
  rfl
def txtL (l : List D) : Str := (PyData.list (l.map pyOf)).shown
theorem repr_L {k : Nat} {h : VH} {n : Nat} {l : List D} (e : lk h n = some l) (q : ∀ d ∈ l, PlD k d) (hk : k ≤ 60) (hs : (l.map sz).sum + 1 ≤ 8000) : bRepr [.ref n] h = some (.str (txtL l), h) := by
  obtain ⟨a, b, c, s⟩ := plL q
  refine bRepr_of (py_ref e a) (reprOk_of ?_ ?_ ?_)
  · unfold SeqAt.shaped
    have h1 : PyData.canLay0 (.list (l.map pyOf)) = true := by
      simp only [PyData.canLay0]
      exact b
    have h2 : PyData.depth (.list (l.map pyOf)) ≤ 64 := by
      simp only [PyData.depth]
      omega
    rw [h1, decide_eq_true h2]
    rfl
  · simp only [PyData.showable]
    exact s
  · simp only [size]
    rw [sizes_map]
    exact hs
/-- a list whose items may be lists -/
theorem repr_ps {h : VH} {n : Nat} {l : List D} {ps : List PyData} (e : lk h n = some l) (hp : pyL (refPy h 5) l = some ps) (lay : PyData.canLayAll0 ps = true) (dep : PyData.depthAll ps ≤ 60) (sho : PyData.showableAll ps = true) (hs : sizes ps + 1 ≤ 8000) :
    bRepr [.ref n] h = some (.str (PyData.list ps).shown, h) := by
  have pe : py h (.ref n) = some (.list ps) := by
    unfold py
    simp only [pyD]
    show (lk h n).bind (fun l => (pyL (refPy h 5) l).map PyData.list) = _
    rw [e]
    simp only [Option.bind_some, hp, Option.map_some]
  refine bRepr_of pe (reprOk_of ?_ ?_ ?_)
  · unfold SeqAt.shaped
    have h1 : PyData.canLay0 (.list ps) = true := by
      simp only [PyData.canLay0]
      exact lay
    have h2 : PyData.depth (.list ps) ≤ 64 := by
      simp only [PyData.depth]
      omega
    rw [h1, decide_eq_true h2]
    rfl
  · simp only [PyData.showable]
    exact sho
  · simp only [size]
    exact hs
theorem refPy_I {h : VH} {a : Nat} {r : List Int} (e : lk h a = some (r.map .int)) : refPy h 5 a = some (.list (r.map .int)) := by
  have z := pl_pyL (α := Int) (refPy h 4) r
  have z' : pyL (refPy h 4) (r.map D.int) = some (r.map PyData.int) := z
  show (lk h a).bind (fun l => (pyL (refPy h 4) l).map PyData.list) = _
  rw [e]
  simp only [Option.bind_some, z', Option.map_some]
def listI (r : List Int) : PyData := .list (r.map .int)
theorem pyL_refs {h : VH} : ∀ {as : List Nat} {rs : List (List Int)}, as.length = rs.length → (∀ (k : Nat) (h1 : k < as.length) (h2 : k < rs.length), lk h as[k] = some (rs[k].map .int)) → pyL (refPy h 5) (as.map .ref) = some (rs.map listI)
  | [], [], _, _ => by simp only [List.map_nil, pyL]
  | [], _ :: _, e, _ => by simp at e
  | _ :: _, [], e, _ => by simp at e
  | a :: as, r :: rs, e, q => by
    have h0 := refPy_I (q 0 (by simp) (by simp))
    have ih := pyL_refs (h := h) (as := as) (rs := rs) (by simpa using e) fun k h1 h2 => q (k + 1) (by simpa using h1) (by simpa using h2)
    simp only [List.map_cons, pyL, pyD, ih]
    rw [show refPy h 5 a = some (listI r) from h0]
    rfl
end Vq

/-! Q23: a tuple display times a number, 0 and less too. -/
namespace Vq
open PySem PySem.Spec PyProof.Rows L2

theorem tuple_mul0 (l : Addr) (items : Array Value) (n : Nat) (dd : Option Addr) (sl : Array (Option Value)) (x : Int) (u : Tok)
    (c0 : (decide (x < -(2 ^ 63)) || decide (x ≥ 2 ^ 63)) = false) (c1 : (items.isEmpty || x == 1) = false) (c2 : (decide (x ≤ 0) || items.isEmpty) = true) :
    Meets (Builtin.«tuple.__mul__» ⟨[.ref l, .int x u], []⟩) (fun _ R s => s.heap.get? l = some { cls := .type "tuple", dict := dd, data := .seq items n, slots := sl } ∧
      R (.ok (.ret (Value.ref s.heap.objs.size))) { s with heap := s.heap.push { cls := Value.type "tuple", data := Data.seq #[] }, toks := s.toks }) := by
  refine .of_wp fun prog w A R s h => ?_
  obtain ⟨hp, g, d, tk, os⟩ := s
  obtain ⟨hl, h⟩ := h
  have f1 := AutoSeq1.idx_int
  wp_walk using wpAny_loadPart' hl
  repeat (first
    | (refine wpAny_ite_false (decide_eq_false (by rw [c0]; exact fun z => nomatch z)) ?_; wp_walk using wpAny_loadPart' hl)
    | (refine wpAny_ite_false (decide_eq_false (by rw [c1]; exact Bool.false_ne_true)) ?_; wp_walk using wpAny_loadPart' hl)
    | (refine wpAny_ite_true (decide_eq_true c2) ?_; wp_walk using wpAny_loadPart' hl))
  exact ⟨_, rfl, h⟩
/-- t * k, k at most 0: a new empty tuple -/
def rRep0 (K : PySem.W.Frag) : R2 := fun x y H Q => ∃ l k xs, x = .ref l ∧ y = .int k ∧ SqT K H l xs ∧ xs ≠ [] ∧ -(2 ^ 63) ≤ k ∧ k ≤ 0 ∧ ∀ p, H p = none → Q (.ref p) (upd H p (.tup []))
theorem op_rep0 {X : Cx} : OpR X (binaryOp .Mult) (rRep0 X.K) := by
  rintro pins s σ H x y v u Q I rx ry ⟨l, k, xs, rfl, rfl, hT, hne, k1, k2, q⟩
  cases rx
  obtain ⟨t, rfl⟩ := ry
  obtain ⟨its, r, ⟨⟨cls, dd, data, sl⟩, ho, hc, n, hd⟩, hs⟩ := I.tuple hT
  simp only at hc hd
  subst hc hd
  have hle : its.length = xs.length := r.length.symm
  have hn : its ≠ [] := fun e => hne (by
    rw [e] at hle
    exact List.eq_nil_of_length_eq_zero hle.symm)
  have hi : its.toArray.isEmpty = false := by
    cases its with
    | nil => exact absurd rfl hn
    | cons a b => rfl
  have c0 : (decide (k < -(2 ^ 63)) || decide (k ≥ 2 ^ 63)) = false := by
    rw [decide_eq_false (by omega), decide_eq_false (by omega)]
    rfl
  have c1 : (its.toArray.isEmpty || k == 1) = false := by
    rw [hi, Bool.false_or]
    exact beq_eq_false_iff_ne.mpr (by omega)
  have c2 : (decide (k ≤ 0) || its.toArray.isEmpty) = true := by
    rw [decide_eq_true k2]
    rfl
  refine wpAny_binaryOp_repeat_ref (T := "tuple") (U := "int") (by decide) ⟨_, ho, rfl⟩ (fun s' => typeIs_int s' k t) noFill_tuple_mul F.fills_int_mul F.slot_int_rmul repeat_tuple F.slot_int_index.lookup
    (call_meets F.slot_int_rmul (typeIs_int s k t) F.entry_int_rmul (F.args_int_rmul_2 _ _) (int_rmul_tuple k t l its.toArray n dd sl)
      ⟨ho, rfl, ⟨_, ho, rfl⟩, call_meets F.slot_tuple_mul ⟨_, ho, rfl⟩ F.entry_tuple_mul (F.args_tuple_mul_2 _ _) (tuple_mul0 l its.toArray n dd sl k t c0 c1 c2) ⟨ho, ?_⟩⟩)
  refine ⟨.ref s.heap.objs.size, _, I.laid (t' := s.toks) (o := .tup []) (fun b ob q => Heap.get?_push_of_some _ q) (Nat.le_refl _) ?_, rfl, q _ (I.hok.fresh (Nat.le_refl _))⟩
  exact ⟨Nat.zero_le _, _, .nil, IsTup.new _ _⟩
def tMulZ : D → D → VH → Option (D × VH) := fun x y h => match x, y with
  | .tup l, .int k => if -(2 ^ 63) ≤ k ∧ k ≤ 0 ∧ l ≠ [] then some (.tup [], h) else none
  | _, _ => none
theorem mulZ_opd (K : PySem.W.Frag) : OpD K (rRep0 K) tMulZ := fun w x y vx vy Q ok rx ry h => by
  cases rx with
  | @tup a vs ds hx rx =>
    cases ry with
    | int k =>
      unfold tMulZ at h
      simp only at h
      by_cases h2 : -(2 ^ 63) ≤ k ∧ k ≤ 0 ∧ ds ≠ []
      · rw [if_pos h2] at h
        refine ⟨a, k, vs, rfl, rfl, hx, fun z => h2.2.2 ?_, h2.1, h2.2.1, fun p hp => ?_⟩
        · subst z
          cases rx
          rfl
        · exact h (w.tupAt p (.tup _)) _ (ok.tupAt hp) rfl (Wd.ext_tupAt hp) (.tup (SqT.of upd_same) .nil)
      · rw [if_neg h2] at h
        exact h.elim
    | _ => exact h.elim
  | _ => cases ry <;> exact h.elim
/-- a tuple display times a number -/
def dMulZ : D → D → VH → Option (D × VH) := orD tMulZ tMulT
theorem mulZ_opdd (K : PySem.W.Frag) : OpD K (orR (rRep0 K) (orR (rRep1 K) (rRepT K))) dMulZ := opd_orD (mulZ_opd K) (mulT_opd K)
theorem mulZ_opr {X : Cx} : OpR X (binaryOp .Mult) (orR (rRep0 X.K) (orR (rRep1 X.K) (rRepT X.K))) := OpR.or op_rep0 (OpR.or op_rep1 op_repT)
end Vq

/-! Part 24: bit_length, tuple(reversed(..)). -/
namespace Vq
open PySem PySem.Spec PyProof.Rows L2
section
variable {X : Cx} {W : WX} {o e : Expr} {fo fe : VE} {p p2 pos pos2 apos : Pos}
def vBits (o : VE) : VE := fun s h => (o s h).bind fun p => match p.1 with
  | .int i => .ok (.int (Builtin.Int.intBits i : Nat), p.2)
  | _ => .bad
theorem qBits (ho : PE X o (gE X W fo)) (hbase : attributeBase o "bit_length" X.env (eval o X.env) = eval o X.env := by rfl) (hline : (apos.endLine == pos.line) = true := by rfl) : PE X (.Call (.Attribute o "bit_length" apos) [] [] pos) (gE X W (vBits fo)) :=
  PEw (pe_bits ho hbase hline) fun σ H Q ⟨w, s, hH, ok, sl, hp⟩ => by
    subst hH
    refine gE.seq ok sl (wE w Q) hp fun d w1 v ok1 x1 sl1 r1 hp1 => ?_
    cases r1 with
    | int i => exact ⟨i, rfl, hp1 w1 _ ok1 rfl x1 (.int _)⟩
    | _ => exact hp1.elim
def vTRev (f : VE) : VE := fun s h => (f s h).bind fun p => match p.1 with
  | .ref n => match lk p.2 n with
    | some l => .ok (.tup l.reverse, p.2)
    | none => .bad
  | _ => .bad
theorem qTRev (hc : X.calm = true) (hm : X.mg "tuple" = none) (hm2 : X.mg "reversed" = none) (he : PE X e (gE X W fe)) (hg : Gl X "tuple" := by rfl) (hg2 : Gl X "reversed" := by rfl)
    (hs : starEach [e] X.env = (false, eval e X.env) :: starEach [] X.env := by rfl)
    (hs2 : starEach [.Call (.Name "reversed" p2) [e] [] pos2] X.env = (false, eval (.Call (.Name "reversed" p2) [e] [] pos2) X.env) :: starEach [] X.env := by rfl) :
    PE X (.Call (.Name "tuple" p) [.Call (.Name "reversed" p2) [e] [] pos2] [] pos) (gE X W (vTRev fe)) :=
  PEw (RT.pe_tupRev hc hg hm hg2 hm2 he hs hs2) fun σ H Q ⟨w, s, hH, ok, sl, hp⟩ => by
    subst hH
    refine gE.seq ok sl (wE w Q) hp fun d w1 v ok1 x1 sl1 r1 hp1 => ?_
    cases r1 with
    | @ref n hn =>
      simp only at hp1
      cases el : lk w1.h n with
      | none => rw [el] at hp1; exact hp1.elim
      | some l =>
        rw [el] at hp1
        obtain ⟨us, h1, h2⟩ := lk_sq ok1 el
        exact ⟨_, us, rfl, h1, fun q hq => hp1 (w1.tupAt q (.tup us.reverse)) _ (ok1.tupAt hq) rfl (x1.trans (Wd.ext_tupAt hq)) (.tup (SqT.of upd_same) ((Wd.ext_tupAt hq).rps h2.reverse))⟩
    | _ => exact hp1.elim
end
section
variable {s : VS} {h : VH}
@[simp] theorem vBits_ap (o : VE) : vBits o s h = (o s h).bind fun p => match p.1 with
  | .int i => .ok (.int (Builtin.Int.intBits i : Nat), p.2)
  | _ => .bad := rfl
@[simp] theorem vTRev_ap (f : VE) : vTRev f s h = (f s h).bind fun p => match p.1 with
  | .ref n => match lk p.2 n with
    | some l => .ok (.tup l.reverse, p.2)
    | none => .bad
  | _ => .bad := rfl
end
end Vq

/-! Part 25: tuples whose object is known, their index method. -/
namespace Vq
open PySem PySem.Spec PyProof.Rows L2
section
variable {X : Cx}
/-- tuple(e) of a list, the new object told -/
def rFz (K : PySem.W.Frag) : List V → Hp → VK → Prop := fun xs H Q => ∃ p ys, xs = [.ref p] ∧ SqL K H p ys ∧ ∀ (l : Addr) (ob : Obj), ob.cls = .type "tuple" → ob.dict = none → H l = none → Q (.ref l) (upd H l (.frz ob (.tup ys)))
theorem call_tuple_fz : CallR X (.type "tuple") (rFz X.K) := by
  intro pins s σ H xs us Q I r h
  obtain ⟨p, ys, rfl, hq, q⟩ := h
  obtain ⟨u, rfl, rx⟩ := vals1 r
  cases rx
  obtain ⟨its, r', pl, hz⟩ := I.list hq
  have hlen := r'.length
  refine call_tuple_list pl.isList (fun h' kp => ?_) (by simp only [List.size_toArray] <;> omega)
  have I1 : Inv X pins σ H { s with heap := h' } := I.kept (t' := s.toks) kp
  have I2 : Inv X pins σ (upd H h'.objs.size (.frz { cls := .type "tuple", data := .seq its.toArray } (.tup ys))) { s with heap := h'.push { cls := .type "tuple", data := .seq its.toArray } } :=
    I1.laid (t' := s.toks) (fun b o e => Heap.get?_push_of_some _ e) (Nat.le_refl _) (show ObjOk X.prog X.w _ _ _ (.frz { cls := .type "tuple", data := .seq its.toArray } (.tup ys)) from ⟨Heap.get?_push_size _ rfl, hz, its, r', IsTup.new _ _⟩)
  exact ⟨.ref h'.objs.size, _, I2, rfl, q _ _ rfl rfl (I1.hok.fresh (Nat.le_refl _))⟩
def bFz : List D → VH → Option (D × VH) := pureB fun l h => (one l).bind fun d => match d with
  | .ref n => (lk h n).map .ftup
  | _ => none
theorem fz_cd (K : PySem.W.Frag) : CallD K (rFz K) bFz := fun w xs vs Q ok r h => by
  unfold bFz pureB at h
  cases e1 : one xs with
  | none => simp only [e1] at h; exact h.elim
  | some d =>
    obtain ⟨v, _, rfl, rd⟩ := one_rps r e1
    simp only [e1, Option.bind_some] at h
    cases rd with
    | @ref n hn =>
      cases e2 : lk w.h n with
      | none => simp only [e2] at h; exact h.elim
      | some l =>
        simp only [e2, Option.map_some] at h
        obtain ⟨us, h1, h2⟩ := lk_sq ok e2
        exact ⟨_, us, rfl, h1, fun p ob c dn hp => h (w.tupAt p (.frz ob (.tup us))) _ (ok.tupAt hp) rfl (Wd.ext_tupAt hp) (.ftup ⟨ob, upd_same, c, dn⟩ ((Wd.ext_tupAt hp).rps h2))⟩
    | _ => exact h.elim
/-! ### t.index(x), flat items -/
def rTIdx (K : PySem.W.Frag) : V → List V → Hp → VK → Prop := fun x xs H Q => ∃ (a : Addr) (ys : List V) (y : V) (j : Nat) (z : V), x = V.ref a ∧ xs = [y] ∧ SqT K H a ys ∧ flatV y = true ∧ ys.all flatV = true ∧ ys[j]? = some z ∧ eqV z y = true ∧
  (∀ (m : Nat) (z' : V), m < j → ys[m]? = some z' → eqV z' y = false) ∧ Q (.int (j : Nat)) H
theorem mt_tindex : MtR X "tuple.index" (rTIdx X.K) := by
  intro pins s σ H x xs v us Q I rx rxs h
  obtain ⟨a, ys, y, j, z, rfl, rfl, hs, fy, fys, hz, hzj, hno, q⟩ := h
  cases rx
  cases rxs with
  | cons ry rt =>
    rename_i uy ut
    cases rt
    obtain ⟨its, rv, pl, hlen⟩ := I.tuple hs
    obtain ⟨⟨cls, dd, data, sl⟩, ho, hc, n, hd⟩ := pl
    simp only at hc hd
    subst hc hd
    obtain ⟨u, hu, ru⟩ := rv.get hz
    obtain ⟨hjl, hje⟩ := List.getElem?_eq_some_iff.mp hu
    have hvl := rv.length
    have hj : j < its.toArray.size := by simpa using hjl
    refine call_meets PySem.F.slot_tuple_index ⟨_, ho, rfl⟩ PySem.F.entry_tuple_index (PySem.F.args_tuple_index_2 _ _)
      (TI.tuple_indexAt a its.toArray n dd sl uy (eqU y) j hj ?_ ?_) ⟨ho, fun u' hu' => mem_eqAt ry fy rv fys u' (by simpa using hu'), ?_⟩
    · have e1 : its.toArray[j] = u := by simpa using hje
      rw [e1, eqU_of ru (flat_at fys hz)]
      exact hzj
    · intro m hm hmj
      have hml : m < its.length := by simpa using hm
      have hmy : m < ys.length := by omega
      have hy' : ys[m]? = some ys[m] := List.getElem?_eq_getElem hmy
      obtain ⟨u2, hu2, ru2⟩ := rv.get hy'
      obtain ⟨_, hme⟩ := List.getElem?_eq_some_iff.mp hu2
      have e1 : its.toArray[m] = u2 := by simpa using hme
      rw [e1, eqU_of ru2 (flat_at fys hy')]
      exact hno m _ hmj hy'
    · exact ⟨.int (j : Nat), H, I.tok _, ⟨_, rfl⟩, q⟩
def tTBM (K : PySem.W.Frag) (r : V → List V → Hp → VK → Prop) (to : TE) (t : TA) : TE := fun σ H Q => to σ H fun x H1 => (∃ a vs, x = .ref a ∧ TpL H1 a vs) ∧ t σ H1 fun xs H2 => r x xs H2 Q
variable {o e : Expr} {es : List Expr} {to : TE} {t : TA} {name : Str} {apos cpos : Pos} {id : String} {r : V → List V → Hp → VK → Prop}
theorem pe_tbm (slot : Slot "tuple" name id) (hty : typeOf (.builtin id) = pure (.type "method_descriptor")) (hm : MtR X id r) (ho : PE X o to) (ha : PA X (e :: es) t)
    (hbase : attributeBase o name X.env (eval o X.env) = eval o X.env := by rfl)
    (hfew : ((backTo cpos (starEach (e :: es) X.env)).all (fun x => !x.1) && (backToKw cpos (keywordEach [] X.env)).all (fun x => x.1.isSome)
      && decide ((e :: es).length + ([] : List Keyword).length + (if ([] : List Keyword).isEmpty then 0 else 1) < 30)) = true := by rfl)
    (hline : (apos.endLine == cpos.line) = true := by rfl) (hs : starEach (e :: es) X.env = (false, eval e X.env) :: starEach es X.env := by rfl) (hplain : (backTo cpos (starEach es X.env)).any (·.1) = false := by rfl) :
    PE X (.Call (.Attribute o name apos) (e :: es) [] cpos) (tTBM X.K r to t) := by
  refine ⟨fun pins s σ H Q I h => ?_⟩
  refine wpAny_Call_method_late hbase hfew hline rfl (thn (ho.run pins s σ H _ I h) fun v s1 ⟨x, H1, I1, r1, ty, q1⟩ => ?_)
  have r0 := r1
  obtain ⟨a, vs, rfl, ob, hk, hc, hd⟩ := ty
  cases r1
  obtain ⟨ho1, _⟩ := (show ObjOk X.prog X.w H1 s1.heap a (.frz ob (.tup vs)) from I1.hok a _ hk)
  refine ⟨"tuple", id, PySem.F.plainAttrs_tuple, slot, hty, ⟨ob, ho1, hc⟩, fun b e => by cases e; exact ⟨ob, ho1, hd⟩, ?_⟩
  have hA := ha.run cpos pins s1 σ H1 _ I1 q1
  rw [hs] at hA ⊢
  refine Calls.callWith_builtin (by show (false || (backTo cpos (starEach es X.env)).any (·.1)) = false; rw [hplain] <;> rfl) (Calls.evalArgs_plain ?_)
  exact thn hA fun us s2 ⟨vs, H2, I2, r2, q2⟩ => hm pins s2 σ H2 _ vs _ us Q I2 r0 r2 q2
variable {W : WX} {fo : VE} {g : VA}
def mTIdx (l : List D) (xs : List D) (h : VH) : Option (D × VH) := (one xs).bind fun y => if (flatD y && l.all flatD) = true then (findF y l).map fun j => (.int (j : Nat), h) else none
def vTIdx (o : VE) (a : VA) : VE := fun s h => (o s h).bind fun p => match p.1 with
  | .ftup l => (a s p.2).bind fun q => lift (mTIdx l q.1 q.2)
  | _ => .bad
theorem qTIdx (ho : PE X o (gE X W fo)) (ha : PA X (e :: es) (gA X W g))
    (hbase : attributeBase o "index" X.env (eval o X.env) = eval o X.env := by rfl)
    (hfew : ((backTo cpos (starEach (e :: es) X.env)).all (fun x => !x.1) && (backToKw cpos (keywordEach [] X.env)).all (fun x => x.1.isSome)
      && decide ((e :: es).length + ([] : List Keyword).length + (if ([] : List Keyword).isEmpty then 0 else 1) < 30)) = true := by rfl)
    (hline : (apos.endLine == cpos.line) = true := by rfl) (hs : starEach (e :: es) X.env = (false, eval e X.env) :: starEach es X.env := by rfl) (hplain : (backTo cpos (starEach es X.env)).any (·.1) = false := by rfl) :
    PE X (.Call (.Attribute o "index" apos) (e :: es) [] cpos) (gE X W (vTIdx fo g)) :=
  PEw (pe_tbm PySem.F.slot_tuple_index PySem.F.type_tuple_index mt_tindex ho ha hbase hfew hline hs hplain) fun σ H Q ⟨w, s, hH, ok, sl, hp⟩ => by
    subst hH
    refine gE.seq ok sl (wE w Q) hp fun d w1 v ok1 x1 sl1 r1 hp1 => ?_
    simp only at hp1
    cases r1 with
    | @ftup a vs l hk rr =>
      refine ⟨⟨a, vs, rfl, hk⟩, ?_⟩
      simp only at hp1
      refine gA.seq ok1 sl1 ((wE w Q).mono x1) hp1 fun ds w2 us ok2 x2 sl2 r2 hp2 => ?_
      have hp3 := (PstE.lift hp2).mono (x1.trans x2)
      unfold mTIdx at hp3
      cases e2 : one ds with
      | none => rw [e2] at hp3; exact hp3.elim
      | some y =>
        obtain ⟨v, _, rfl, ry⟩ := one_rps r2 e2
        rw [e2] at hp3
        simp only [Option.bind_some] at hp3
        by_cases hf : (flatD y && l.all flatD) = true
        · rw [if_pos hf] at hp3
          rw [Bool.and_eq_true] at hf
          cases e3 : findF y l with
          | none => rw [e3] at hp3; exact hp3.elim
          | some j =>
            rw [e3] at hp3
            obtain ⟨d, g1, g2, g3⟩ := findF_is e3
            have rr2 := x2.rps rr
            obtain ⟨z, ez, rz⟩ := RepL.get rr2 g1
            have fl : ∀ {i : Nat} {e : D}, l[i]? = some e → flatD e = true := fun he => List.all_eq_true.mp hf.2 _ (List.mem_of_getElem? he)
            refine ⟨_, vs, v, j, z, rfl, rfl, (x2.tp _ _ hk).sq, flat_rp ry hf.1, all_flat rr2 hf.2, ez, by rw [eqF_rp rz ry (fl g1) hf.1]; exact g2, fun m z' hm hz' => ?_, hp3 w2 _ ok2 rfl (.refl w2) (.int _)⟩
            have hm' : m < l.length := by
              rw [RepL.length rr2]
              exact (List.getElem?_eq_some_iff.mp hz').1
            obtain ⟨u', eu, ru⟩ := RepL.get rr2 (List.getElem?_eq_getElem hm')
            rw [hz'] at eu
            cases eu
            rw [eqF_rp ru ry (fl (List.getElem?_eq_getElem hm')) hf.1]
            exact g3 m _ hm (List.getElem?_eq_getElem hm')
        · rw [if_neg hf] at hp3
          exact hp3.elim
    | _ => exact hp1.elim
end
section
variable {s : VS} {h : VH}
@[simp] theorem vTIdx_ap (o : VE) (a : VA) : vTIdx o a s h = (o s h).bind fun p => match p.1 with
  | .ftup l => (a s p.2).bind fun q => lift (mTIdx l q.1 q.2)
  | _ => .bad := rfl
@[simp] theorem bFz_r (n : Nat) : bFz [.ref n] h = ((lk h n).map .ftup).map fun d => (d, h) := rfl
@[simp] theorem seqOf_f (l : List D) : seqOf h (.ftup l) = some l := rfl
end
end Vq

/-! Part 26: dicts that nobody writes to: {}, {k: v}; repr of data with such. -/
namespace Vq
open PySem PySem.Spec PyProof.Rows L2
section
variable {X : Cx} {W : WX} {e k v : Expr} {fk fv : VE} {pos : Pos}
def tLockD (te : TE) : TE := fun σ H Q => te σ H fun v H1 => ∃ p kvs, v = .ref p ∧ H1 p = some (.dK kvs) ∧ ∀ ob, Q (.ref p) (upd H1 p (.frz ob (.dK kvs)))
theorem pe_lock {te : TE} (he : PE X e te) : PE X e (tLockD te) := ⟨fun pins s σ H Q I h => thn (he.run pins s σ H _ I h) fun u s1 ⟨v, H1, I1, r1, p, kvs, ev, hp, q⟩ => by
  subst ev
  obtain ⟨ob, I2⟩ := I1.lock hp True.intro
  exact ⟨.ref p, _, I2, r1, q ob⟩⟩
def vDic0 : VE := fun _ h => .ok (.dic [] [], h)
theorem qDic0 : PE X (.Dict [] [] pos) (gE X W vDic0) :=
  PEw (pe_lock pe_dnewK) fun σ H Q ⟨w, s, hH, ok, sl, hp⟩ => by
    subst hH
    intro p hn
    refine ⟨p, [], rfl, upd_same, fun ob => ?_⟩
    have ok1 := ok.tupAt (o := .dK []) hn
    have e1 : (w.tupAt p (.dK [])).H p = some (.dK []) := upd_same
    have ok2 := ok1.dkAt (o := .frz ob (.dK [])) e1
    exact hp _ (.ref p) ok2 rfl ((Wd.ext_tupAt hn).dkAt hn e1) (.dic ⟨rfl, ob, upd_same⟩ .nil)
def keyW : D → Option Key
  | .int i => some (.inl i)
  | .str s => some (.inr s)
  | _ => none
theorem keyW_rp {K : PySem.W.Frag} {w : Wd} {d : D} {v : V} {k : Key} (r : Rp K w d v) (e : keyW d = some k) : v = kV k := by
  cases r with
  | int i => cases e; rfl
  | str s => cases e; rfl
  | _ => cases e
def vDic1 (fk fv : VE) : VE := fun s h => (fk s h).bind fun p => match keyW p.1 with
  | some k => (fv s p.2).bind fun q => .ok (.dic [k] [q.1], q.2)
  | none => .bad
theorem qDic1 (hk : PE X k (gE X W fk)) (hv : PE X v (gE X W fv)) : PE X (.Dict [some k] [v] pos) (gE X W (vDic1 fk fv)) :=
  PEw (pe_lock (pe_disp (pps_cons hk hv pps_nil) rfl rfl (by simp) (by simp))) fun σ H Q ⟨w, s, hH, ok, sl, hp⟩ => by
    subst hH
    intro p hn
    have x1 : Wd.Ext X.K w (w.tupAt p (.dK [])) := Wd.ext_tupAt hn
    have ok1 := ok.tupAt (o := .dK []) hn
    have e1 : (w.tupAt p (.dK [])).H p = some (.dK []) := upd_same
    show gE X W fk σ (w.tupAt p (.dK [])).H _
    refine gE.seq ok1 (sl.ext x1) ((wE w Q).mono x1) hp fun d w2 v1 ok2 x2 sl2 r2 hp2 => ?_
    simp only at hp2
    cases ek : keyW d with
    | none => rw [ek] at hp2; exact hp2.elim
    | some kk =>
      rw [ek] at hp2
      have ev := keyW_rp r2 ek
      refine gE.seq ok2 sl2 ((wE w Q).mono (x1.trans x2)) hp2 fun d' w3 v2 ok3 x3 sl3 r3 hp3 => ?_
      have e3 : w3.H p = some (.dK []) := x3.dp _ _ (x2.dp _ _ e1)
      refine ⟨e3, [(kk, v2)], by rw [ev]; rfl, by simp, p, mergeK [] [(kk, v2)], rfl, upd_same, fun ob => ?_⟩
      have mk : mergeK [] [(kk, v2)] = [kk].zip [v2] := rfl
      have x13 := (x1.trans x2).trans x3
      have ok4 := ok3.dkAt (o := .dK (mergeK [] [(kk, v2)])) e3
      have e4 : (w3.tupAt p (.dK (mergeK [] [(kk, v2)]))).H p = some (.dK (mergeK [] [(kk, v2)])) := upd_same
      have ok5 := ok4.dkAt (o := .frz ob (.dK (mergeK [] [(kk, v2)]))) e4
      have x4 := x13.dkAt (o := .dK (mergeK [] [(kk, v2)])) hn e3
      refine hp3 _ (.ref p) ok5 rfl (x4.dkAt hn e4) (.dic ⟨rfl, ob, ?_⟩ (.cons (Wd.rp_dk e4 (Wd.rp_dk e3 r3)) .nil))
      rw [← mk]
      exact upd_same
end
/-! ### data with dicts -/
def keyPy : Key → PyData
  | .inl i => .int i
  | .inr s => .str s
def kzip (ks : List Key) (ds : List PyData) : List (PyData × PyData) := (ks.map keyPy).zip ds
mutual
inductive Dq (K : PySem.W.Frag) (H : Hp) : V → PyData → Prop
  | non : Dq K H .non .none
  | bl (b : Bool) : Dq K H (.bl b) (.bool b)
  | int (i : Int) : Dq K H (.int i) (.int i)
  | str (x : Str) : Dq K H (.str x) (.str x)
  | lst {a : Addr} {xs : List V} {ds : List PyData} : Rd H a (.lst xs) → DqAll K H xs ds → Dq K H (.ref a) (.list ds)
  | tup {a : Addr} {xs : List V} {ds : List PyData} : SqT K H a xs → DqAll K H xs ds → Dq K H (.ref a) (.tuple ds)
  | dic {a : Addr} {ks : List Key} {xs : List V} {ds : List PyData} : DkL H a ks xs → DqAll K H xs ds → Dq K H (.ref a) (.dict (kzip ks ds))
inductive DqAll (K : PySem.W.Frag) (H : Hp) : List V → List PyData → Prop
  | nil : DqAll K H [] []
  | cons {v : V} {vs : List V} {d : PyData} {ds : List PyData} : Dq K H v d → DqAll K H vs ds → DqAll K H (v :: vs) (d :: ds)
end
theorem DqAll.length {K : PySem.W.Frag} {H : Hp} : ∀ {vs : List V} {ds : List PyData}, DqAll K H vs ds → vs.length = ds.length
  | _, _, .nil => rfl
  | _, _, .cons _ r => congrArg (· + 1) r.length
section
variable {X : Cx} {pins : List (Addr × Obj)} {σ : L2.St} {H : Hp} {s : Shared}
theorem no_sys (hs : X.base.get? sysModules ≠ none) (I : Inv X pins σ H s) {a : Addr} (h : H a ≠ none) : sysModules ≠ a := by
  intro z
  cases e : X.base.get? sysModules with
  | none => exact hs e
  | some o => exact h (z ▸ (I.bs _ _ e).2)
theorem keys_read (I : Inv X pins σ H s) : ∀ {ks : List Key} {vs : List V} {us : List (Key × Value)} {es : List DictEntry}, ks.length = vs.length → KV (ks.zip vs) us → Pairs (mixKind X.prog X.w) es us →
    ReadsAll s.heap (es.map (·.key)) (ks.map keyPy) [] ∧ Vals vs (es.map (·.val))
  | [], [], _, _, _, k, p => by
    cases k
    cases p
    exact ⟨.nil, .nil⟩
  | kk :: ks, v :: vs, _, _, hl, k, p => by
    rw [List.zip_cons_cons] at k
    cases k with
    | @cons a b as bs h t =>
      cases p with
      | @cons en kv es kvs h1 h2 hp =>
        obtain ⟨r1, r2⟩ := keys_read I (by simpa using hl) t hp
        obtain ⟨g1, g2⟩ := h
        simp only at g1 g2
        refine ⟨?_, .cons (by show RelV v en.val; rw [h2]; exact g2) r2⟩
        rw [List.map_cons, List.map_cons]
        have h1 : keyIs b.1 en.key = true := h1
        rw [← g1] at h1
        have rk : Reads s.heap en.key (keyPy kk) [] := by
          rcases keyIs_shape h1 with ⟨i, t, rfl, e⟩ | ⟨x, t, rfl, e⟩
          · rw [e]
            exact Reads.int i t
          · rw [e]
            exact Reads.str x t
        have := ReadsAll.cons rk r1
        simpa using this
  | [], _ :: _, _, _, hl, _, _ => by simp at hl
  | _ :: _, [], _, _, hl, _, _ => by simp at hl
mutual
theorem Dq.reads (hsy : X.base.get? sysModules ≠ none) (I : Inv X pins σ H s) : ∀ {v : V} {d : PyData} {u : Value}, Dq X.K H v d → RelV v u → ∃ as, Reads s.heap u d as ∧ sysModules ∉ as
  | _, _, _, .non, r => by
    cases r
    exact ⟨_, Reads.none, List.not_mem_nil⟩
  | _, _, _, .bl b, r => by
    cases r
    exact ⟨_, Reads.bool b, List.not_mem_nil⟩
  | _, _, _, .int i, r => by
    obtain ⟨t, rfl⟩ := r
    exact ⟨_, Reads.int i t, List.not_mem_nil⟩
  | _, _, _, .str x, r => by
    obtain ⟨t, rfl⟩ := r
    exact ⟨_, Reads.str x t, List.not_mem_nil⟩
  | _, _, _, .lst hs ha, r => by
    cases r
    have hn := no_sys hsy I (by rcases hs with h | ⟨o, h⟩ <;> (rw [h]; exact fun z => nomatch z))
    obtain ⟨its, rv, ⟨o, n, ho, hc, _, hd⟩, _⟩ := I.list (.inl hs)
    obtain ⟨as, hr, hm⟩ := DqAll.reads hsy I ha rv
    refine ⟨_, Reads.list ho hc hd hr, fun z => ?_⟩
    rcases List.mem_cons.mp z with z | z
    · exact hn z
    · exact hm z
  | _, _, _, .tup hs ha, r => by
    cases r
    obtain ⟨its, rv, ⟨o, ho, hc, n, hd⟩, _⟩ := I.tuple hs
    obtain ⟨as, hr, hm⟩ := DqAll.reads hsy I ha rv
    exact ⟨_, Reads.tuple ho hc hd hr, hm⟩
  | _, _, _, @Dq.dic _ _ a ks xs ds h ha, r => by
    cases r
    obtain ⟨hl, ob, he⟩ := h
    have hn := no_sys hsy I (by rw [he]; exact fun z => nomatch z)
    obtain ⟨ho, _, _, us, kv, o, es, ep, h1, h2, h3, _, h5, _⟩ := (show ObjOk X.prog X.w H s.heap a (.frz ob (.dK (ks.zip xs))) from I.hok a _ he)
    obtain ⟨k1, k2⟩ := keys_read I hl kv h5
    obtain ⟨bs, hr, hm⟩ := DqAll.reads hsy I ha k2
    have le : (ks.map keyPy).length = ds.length := by
      rw [List.length_map, hl]
      exact DqAll.length ha
    have e1 : (kzip ks ds).map (·.1) = ks.map keyPy := by
      unfold kzip
      exact List.map_fst_zip (by omega)
    have e2 : (kzip ks ds).map (·.2) = ds := by
      unfold kzip
      exact List.map_snd_zip (by omega)
    refine ⟨_, Reads.dict (as := []) (bs := bs) h1 h2.1 h3 (by rw [e1]; exact k1) (by rw [e2]; exact hr), fun z => ?_⟩
    rcases List.mem_cons.mp z with z | z
    · exact hn z
    · exact hm (by simpa using z)
theorem DqAll.reads (hsy : X.base.get? sysModules ≠ none) (I : Inv X pins σ H s) : ∀ {vs : List V} {ds : List PyData} {us : List Value}, DqAll X.K H vs ds → Vals vs us → ∃ as, ReadsAll s.heap us ds as ∧ sysModules ∉ as
  | _, _, _, .nil, r => by
    cases r
    exact ⟨_, ReadsAll.nil, List.not_mem_nil⟩
  | _, _, _, .cons h1 h2, r => by
    cases r with
    | cons r1 r2 =>
      obtain ⟨as, q1, m1⟩ := Dq.reads hsy I h1 r1
      obtain ⟨bs, q2, m2⟩ := DqAll.reads hsy I h2 r2
      exact ⟨_, ReadsAll.cons q1 q2, fun z => (List.mem_append.mp z).elim m1 m2⟩
end
end
def reprOkQ (p : PyData) : Bool := p.showable && decide (p.depth ≤ 64) && decide (p.shown.length ≤ sizeLine)
def rReprQ (K : PySem.W.Frag) : List V → Hp → VK → Prop := fun xs H Q => ∃ a d, xs = [.ref a] ∧ Dq K H (.ref a) d ∧ reprOkQ d = true ∧ Q (.str d.shown) H
theorem cr_reprQ {X : Cx} (hsy : X.base.get? sysModules ≠ none) (hg : X.A.guards = some []) (hu : X.A.units + 70 < cLine) : CallR X (.builtin "repr") (rReprQ X.K) := by
  rintro pins s σ H vs us Q I r ⟨a, d, rfl, hd, hr, q⟩
  unfold reprOkQ at hr
  simp only [Bool.and_eq_true, decide_eq_true_eq] at hr
  obtain ⟨⟨h2, hdep⟩, h3⟩ := hr
  obtain ⟨u, rfl, rv⟩ := vals1 r
  cases rv
  obtain ⟨as, rds, hm⟩ := Dq.reads hsy I hd rfl
  exact repr_of_reads' rds h2 (fun _ => hm) hg (by omega) (fun b o e => e) (fun h' u tk hk => ⟨.str _, H, I.kept hk, ⟨_, rfl⟩, q⟩) h3
/-! ### .. as denoted -/
mutual
def pyQ (f : Nat → Option PyData) : D → Option PyData
  | .non => some .none
  | .bl b => some (.bool b)
  | .int i => some (.int i)
  | .str s => some (.str s)
  | .tup l => (pyQs f l).map .tuple
  | .ftup l => (pyQs f l).map .tuple
  | .dic ks l => (pyQs f l).map fun ds => .dict (kzip ks ds)
  | .ref n => f n
def pyQs (f : Nat → Option PyData) : List D → Option (List PyData)
  | [] => some []
  | d :: r => (pyQ f d).bind fun a => (pyQs f r).map fun b => a :: b
end
def lkL (h : VH) (n : Nat) : Option (List D) := match h[n]? with
  | some (.lst l) => some l
  | _ => none
def refQ (h : VH) : Nat → Nat → Option PyData
  | 0, _ => none
  | k + 1, n => (lkL h n).bind fun l => (pyQs (refQ h k) l).map .list
mutual
theorem pyQ_dq {K : PySem.W.Frag} {w : Wd} {f : Nat → Option PyData} (hf : ∀ n p, f n = some p → Dq K w.H (.ref (w.ι n)) p) : ∀ {d : D} {v : V} {p : PyData}, Rp K w d v → pyQ f d = some p → Dq K w.H v p
  | _, _, _, .non, e => by simp only [pyQ] at e; cases e; exact .non
  | _, _, _, .bl b, e => by simp only [pyQ] at e; cases e; exact .bl b
  | _, _, _, .int i, e => by simp only [pyQ] at e; cases e; exact .int i
  | _, _, _, .str s, e => by simp only [pyQ] at e; cases e; exact .str s
  | _, _, _, .tup h r, e => by
    simp only [pyQ] at e
    obtain ⟨ps, e1, rfl⟩ := Option.map_eq_some_iff.mp e
    exact .tup h (pyQs_dq hf r e1)
  | _, _, _, .ftup h r, e => by
    simp only [pyQ] at e
    obtain ⟨ps, e1, rfl⟩ := Option.map_eq_some_iff.mp e
    exact .tup h.sq (pyQs_dq hf r e1)
  | _, _, _, .dic h r, e => by
    simp only [pyQ] at e
    obtain ⟨ps, e1, rfl⟩ := Option.map_eq_some_iff.mp e
    exact .dic h (pyQs_dq hf r e1)
  | _, _, _, .ref _, e => by simp only [pyQ] at e; exact hf _ _ e
theorem pyQs_dq {K : PySem.W.Frag} {w : Wd} {f : Nat → Option PyData} (hf : ∀ n p, f n = some p → Dq K w.H (.ref (w.ι n)) p) : ∀ {d : List D} {v : List V} {p : List PyData}, Rps K w d v → pyQs f d = some p → DqAll K w.H v p
  | _, _, _, .nil, e => by simp only [pyQs] at e; cases e; exact .nil
  | _, _, _, .cons h r, e => by
    simp only [pyQs] at e
    obtain ⟨a, ea, e⟩ := Option.bind_eq_some_iff.mp e
    obtain ⟨b, eb, rfl⟩ := Option.map_eq_some_iff.mp e
    exact .cons (pyQ_dq hf h ea) (pyQs_dq hf r eb)
end
theorem refQ_dq {K : PySem.W.Frag} {w : Wd} (ok : w.Ok K) : ∀ (k n : Nat) (p : PyData), refQ w.h k n = some p → Dq K w.H (.ref (w.ι n)) p
  | 0, _, _, e => by cases e
  | k + 1, n, p, e => by
    simp only [refQ] at e
    obtain ⟨l, el, e⟩ := Option.bind_eq_some_iff.mp e
    obtain ⟨ps, ep, rfl⟩ := Option.map_eq_some_iff.mp e
    unfold lkL at el
    cases q : w.h[n]? with
    | none => rw [q] at el; cases el
    | some c =>
      rw [q] at el
      cases c with
      | lst l' =>
        cases el
        obtain ⟨vs, h1, h2⟩ := ok.cell n _ q
        exact .lst (.inl h1) (pyQs_dq (refQ_dq ok k) h2 ep)
      | _ => cases el
def isRef : D → Bool
  | .tup _ => true
  | .ftup _ => true
  | .dic _ _ => true
  | .ref _ => true
  | _ => false
theorem isRef_rp {K : PySem.W.Frag} {w : Wd} {d : D} {v : V} (r : Rp K w d v) (h : isRef d = true) : ∃ a, v = .ref a := by
  cases r <;> first | exact ⟨_, rfl⟩ | cases h
def bReprQ : List D → VH → Option (D × VH) := pureB fun l h => (one l).bind fun d => if isRef d = true then (pyQ (refQ h 6) d).bind fun p => if reprOkQ p = true then some (.str p.shown) else none else none
theorem reprQ_cd (K : PySem.W.Frag) : CallD K (rReprQ K) bReprQ := fun w xs vs Q ok r h => by
  unfold bReprQ pureB at h
  cases e1 : one xs with
  | none => simp only [e1] at h; exact h.elim
  | some d =>
    obtain ⟨v, _, rfl, rd⟩ := one_rps r e1
    simp only [e1, Option.bind_some] at h
    by_cases hr : isRef d = true
    · rw [if_pos hr] at h
      obtain ⟨a, rfl⟩ := isRef_rp rd hr
      cases e2 : pyQ (refQ w.h 6) d with
      | none => rw [e2] at h; exact h.elim
      | some p =>
        rw [e2] at h
        simp only [Option.bind_some] at h
        by_cases hok : reprOkQ p = true
        · rw [if_pos hok] at h
          exact ⟨a, p, rfl, pyQ_dq (refQ_dq ok 6) rd e2, hok, h w _ ok rfl (.refl w) (.str _)⟩
        · rw [if_neg hok] at h
          exact h.elim
    · rw [if_neg hr] at h
      exact h.elim
/-- repr of plain data, else of data with dicts -/
def bReprD : List D → VH → Option (D × VH) := fun l h => (bRepr l h).or (bReprQ l h)
def rReprD (K : PySem.W.Frag) : List V → Hp → VK → Prop := fun xs H Q => rRepr K xs H Q ∨ rReprQ K xs H Q
theorem cr_reprD {X : Cx} (hsy : X.base.get? sysModules ≠ none) (hg : X.A.guards = some []) (hu : X.A.units + 70 < cLine) : CallR X (.builtin "repr") (rReprD X.K) := by
  rintro pins s σ H vs us Q I r (h | h)
  · exact cr_repr hg hu pins s σ H vs us Q I r h
  · exact cr_reprQ hsy hg hu pins s σ H vs us Q I r h
theorem reprD_cd (K : PySem.W.Frag) : CallD K (rReprD K) bReprD := fun w xs vs Q ok r h => by
  unfold bReprD at h
  cases e : bRepr xs w.h with
  | some p =>
    refine .inl (repr_cd K w xs vs Q ok r ?_)
    rw [e, Option.some_or] at h
    rw [e]
    exact h
  | none =>
    refine .inr (reprQ_cd K w xs vs Q ok r ?_)
    rw [e, Option.none_or] at h
    exact h
section
variable {s : VS} {h : VH}
@[simp] theorem vDic0_ap : vDic0 s h = .ok (.dic [] [], h) := rfl
@[simp] theorem vDic1_ap (fk fv : VE) : vDic1 fk fv s h = (fk s h).bind fun p => match keyW p.1 with
  | some k => (fv s p.2).bind fun q => .ok (.dic [k] [q.1], q.2)
  | none => .bad := rfl
@[simp] theorem bReprD_ap (l : List D) : bReprD l h = (bRepr l h).or (bReprQ l h) := rfl
@[simp] theorem keyW_i (i : Int) : keyW (.int i) = some (.inl i) := rfl
@[simp] theorem keyW_s (x : Str) : keyW (.str x) = some (.inr x) := rfl
end
end Vq

/-! Part 27: shown texts are good texts; lists of equal texts are equal. -/
namespace Vq
open PySem PySem.Spec PyProof.Rows L2
theorem ok_of (s : String) : PyData.strOk (Str.ofString s) = true := by
  rw [Str.ofString_eq_toList]
  unfold PyData.strOk
  rw [← Array.all_toList]
  show (s.toList.map Char.toNat).all _ = true
  rw [List.all_map, List.all_eq_true]
  intro c _
  refine decide_eq_true ?_
  have := c.valid
  simp only [Function.comp, Char.toNat]
  have hv := c.valid
  unfold UInt32.isValidChar Nat.isValidChar at hv
  omega
theorem ok_app {a b : Str} (ha : PyData.strOk a = true) (hb : PyData.strOk b = true) : PyData.strOk (a ++ b) = true := by
  unfold PyData.strOk at *
  have e : (a ++ b).cps = a.cps ++ b.cps := rfl
  rw [e, Array.all_append, ha, hb]
  rfl
theorem ok_join {sep : Str} (hs : PyData.strOk sep = true) : ∀ {l : List Str}, (∀ t ∈ l, PyData.strOk t = true) → PyData.strOk (Str.join sep l) = true
  | [], _ => by
    show PyData.strOk Str.empty = true
    unfold PyData.strOk
    simp [Str.empty]
  | [x], h => h x (List.mem_singleton.mpr rfl)
  | x :: y :: r, h => by
    show PyData.strOk (x ++ sep ++ Str.join sep (y :: r)) = true
    exact ok_app (ok_app (h x (List.mem_cons_self ..)) hs) (ok_join hs fun t ht => h t (List.mem_cons_of_mem _ ht))
theorem ok_text : ∀ {l : List Str} {k : Nat} {acc : Str}, PyData.strOk acc = true → (∀ t ∈ l, PyData.strOk t = true) → PyData.strOk (textFrom k acc l) = true
  | [], _, _, ha, _ => ha
  | t :: r, k, acc, ha, h => by
    show PyData.strOk (textFrom (k + 1) (acc ++ (if k > 0 then ", " else "" : String) ++ t) r) = true
    exact ok_text (ok_app (ok_app ha (ok_of _)) (h t (List.mem_cons_self ..))) fun x hx => h x (List.mem_cons_of_mem _ hx)
mutual
/-- every text within is shown by a good text -/
def okS : PyData → Bool
  | .none => true
  | .bool _ => true
  | .int _ => true
  | .str x => PyData.strOk (reprText x)
  | .list l => okSs l
  | .tuple l => okSs l
  | .dict kvs => okSk kvs
def okSs : List PyData → Bool
  | [] => true
  | d :: r => okS d && okSs r
def okSk : List (PyData × PyData) → Bool
  | [] => true
  | (k, v) :: r => okS k && okS v && okSk r
end
mutual
theorem ok_shown : ∀ d : PyData, okS d = true → PyData.strOk d.shown = true
  | .none, _ => ok_of _
  | .bool b, _ => by
    cases b
    · exact ok_of _
    · exact ok_of _
  | .int i, _ => ok_of _
  | .str x, h => by
    simp only [okS] at h
    exact h
  | .list l, h => by
    simp only [okS] at h
    simp only [PyData.shown, listText]
    exact ok_app (ok_text (ok_of _) (ok_shownAll l h)) (ok_of _)
  | .tuple l, h => by
    simp only [okS] at h
    simp only [PyData.shown, tupleText]
    exact ok_app (ok_app (ok_of _) (ok_join (ok_of _) (ok_shownAll l h))) (ok_of _)
  | .dict kvs, h => by
    simp only [okS] at h
    simp only [PyData.shown, dictText]
    exact ok_app (ok_app (ok_of _) (ok_join (ok_of _) (ok_shownKv kvs h))) (ok_of _)
theorem ok_shownAll : ∀ l : List PyData, okSs l = true → ∀ t ∈ PyData.shownAll l, PyData.strOk t = true
  | [], _ => by
    simp only [PyData.shownAll]
    exact fun t ht => absurd ht List.not_mem_nil
  | d :: r, h => by
    simp only [okSs, Bool.and_eq_true] at h
    simp only [PyData.shownAll]
    intro t ht
    rcases List.mem_cons.mp ht with e | e
    · rw [e]
      exact ok_shown d h.1
    · exact ok_shownAll r h.2 t e
theorem ok_shownKv : ∀ l : List (PyData × PyData), okSk l = true → ∀ t ∈ PyData.shownKv l, PyData.strOk t = true
  | [], _ => by
    simp only [PyData.shownKv]
    exact fun t ht => absurd ht List.not_mem_nil
  | (k, v) :: r, h => by
    simp only [okSk, Bool.and_eq_true] at h
    simp only [PyData.shownKv]
    intro t ht
    rcases List.mem_cons.mp ht with e | e
    · rw [e]
      exact ok_app (ok_app (ok_shown k h.1.1) (ok_of _)) (ok_shown v h.1.2)
    · exact ok_shownKv r h.2 t e
end
/-! ### lists of texts -/
theorem pyL_strs (f : Nat → Option PyData) : ∀ a : List Str, pyL f (a.map .str) = some (a.map .str)
  | [] => by simp [pyL]
  | x :: r => by
    simp only [List.map_cons, pyL, pyD, pyL_strs f r]
    rfl
theorem eqv_strs : ∀ a b : List Str, PyData.eqvAll (a.map .str) (b.map .str) = decide (a = b)
  | [], [] => by simp [PyData.eqvAll]
  | [], _ :: _ => by simp [PyData.eqvAll]
  | _ :: _, [] => by simp [PyData.eqvAll]
  | x :: r, y :: s => by
    simp only [List.map_cons, PyData.eqvAll, eqv_strs r s, List.cons.injEq, Bool.decide_and, PyData.eqv]
    congr 1
theorem lay_strs : ∀ {a : List Str}, (∀ x ∈ a, PyData.strOk x = true) → PyData.canLayAll0 (a.map .str) = true ∧ PyData.depthAll (a.map PyData.str) = 0
  | [], _ => by simp [PyData.canLayAll0, PyData.depthAll]
  | x :: r, h => by
    obtain ⟨h1, h2⟩ := lay_strs (a := r) fun y hy => h y (List.mem_cons_of_mem _ hy)
    simp only [List.map_cons, PyData.canLayAll0, PyData.depthAll, PyData.canLay0, PyData.depth, h1, h2, h x (List.mem_cons_self ..)]
    simp
theorem eqStrs (neg : Bool) {h : VH} {n m : Nat} {a b : List Str} (e1 : lk h n = some (a.map .str)) (e2 : lk h m = some (b.map .str)) (ha : ∀ x ∈ a, PyData.strOk x = true) (hb : ∀ x ∈ b, PyData.strOk x = true) :
    eqWith neg (.ref n) (.ref m) h = some (.bl (if neg then !decide (a = b) else decide (a = b)), h) := by
  have p1 := py_ref (ps := a.map .str) e1 fun f => pyL_strs f a
  have p2 := py_ref (ps := b.map .str) e2 fun f => pyL_strs f b
  have sh : ∀ {a : List Str}, (∀ x ∈ a, PyData.strOk x = true) → SeqAt.shaped (.list (a.map .str)) = true := fun {a} h => by
    obtain ⟨h1, h2⟩ := lay_strs h
    unfold SeqAt.shaped
    have g1 : PyData.canLay0 (.list (a.map .str)) = true := by
      simp only [PyData.canLay0]
      exact h1
    have g2 : PyData.depth (.list (a.map .str)) ≤ 64 := by
      simp only [PyData.depth, h2]
      decide
    rw [g1, decide_eq_true g2]
    rfl
  have e : PyData.eqv (.list (a.map .str)) (.list (b.map .str)) = decide (a = b) := by
    simp only [PyData.eqv]
    exact eqv_strs a b
  unfold eqWith
  simp only [p1, p2, sh ha, sh hb, Bool.and_self, if_true, e]
theorem dEq_strs {h : VH} {n m : Nat} {a b : List Str} (e1 : lk h n = some (a.map .str)) (e2 : lk h m = some (b.map .str)) (ha : ∀ x ∈ a, PyData.strOk x = true) (hb : ∀ x ∈ b, PyData.strOk x = true) :
    dEq (.ref n) (.ref m) h = some (.bl (decide (a = b)), h) := eqStrs false e1 e2 ha hb
theorem dNe_strs {h : VH} {n m : Nat} {a b : List Str} (e1 : lk h n = some (a.map .str)) (e2 : lk h m = some (b.map .str)) (ha : ∀ x ∈ a, PyData.strOk x = true) (hb : ∀ x ∈ b, PyData.strOk x = true) :
    dNe (.ref n) (.ref m) h = some (.bl (!decide (a = b)), h) := eqStrs true e1 e2 ha hb
end Vq

/-! Part 28: what may be shown, dicts and lists within; the text stays while the heap grows. -/
namespace Vq
open PySem PySem.Spec PyProof.Rows L2
mutual
/-- may be shown, by a good text -/
def gdQ : PyData → Bool
  | .none => true
  | .bool _ => true
  | .int i => decide (i.natAbs.log2 < 1920)
  | .str x => PyData.strOk x && PyData.strOk (reprText x)
  | .list l => gdQs l
  | .tuple l => gdQs l
  | .dict kvs => gdQk kvs
def gdQs : List PyData → Bool
  | [] => true
  | d :: r => gdQ d && gdQs r
def gdQk : List (PyData × PyData) → Bool
  | [] => true
  | (k, v) :: r => gdQ k && gdQ v && gdQk r
end
mutual
def szQ : PyData → Nat
  | .none => 1
  | .bool _ => 1
  | .int _ => 1
  | .str x => x.length + 1
  | .list l => szQs l + 1
  | .tuple l => szQs l + 1
  | .dict kvs => szQk kvs + 1
def szQs : List PyData → Nat
  | [] => 0
  | x :: r => szQ x + szQs r
def szQk : List (PyData × PyData) → Nat
  | [] => 0
  | (k, v) :: r => szQ k + szQ v + szQk r
end
mutual
theorem gd_ok : ∀ d : PyData, gdQ d = true → d.showable = true ∧ okS d = true ∧ d.shown.length + 2 ≤ 2000 * szQ d
  | .none, _ => ⟨rfl, rfl, by simp only [PyData.shown, szQ]; decide⟩
  | .bool b, _ => ⟨rfl, rfl, by
    simp only [PyData.shown, szQ]
    cases b <;> decide⟩
  | .int i, h => by
    have h' : i.natAbs.log2 < 1920 := by simpa only [gdQ, decide_eq_true_eq] using h
    refine ⟨by simpa only [PyData.showable, gdQ] using h, rfl, ?_⟩
    have h1 := int_text_length_le (a := i) (k := 1920) (by decide) h'
    have h2 : (Str.ofString (toString i)).length = (toString i).length := PySem.ofString_length _
    simp only [PyData.shown, szQ]
    rw [h2]
    omega
  | .str x, h => by
    simp only [gdQ, Bool.and_eq_true] at h
    refine ⟨rfl, by simp only [okS]; exact h.2, ?_⟩
    simp only [PyData.shown, szQ]
    have h1 : (reprText x).length ≤ 10 * x.length + 2 := StrLaws.reprText_len x fun c hc => by
      have h := h.1
      unfold PyData.strOk at h
      have h' := (Array.all_eq_true'.mp h) c (by simpa using hc)
      have h' : c < 0x110000 := by simpa using h'
      exact Nat.lt_trans h' (by decide)
    omega
  | .list l, h => by
    simp only [gdQ] at h
    obtain ⟨i1, i2, ih⟩ := gd_oks l h
    refine ⟨by simp only [PyData.showable]; exact i1, by simp only [okS]; exact i2, ?_⟩
    simp only [PyData.shown, szQ]
    cases l with
    | nil =>
      simp only [PyData.shownAll, szQs]
      decide
    | cons a r =>
      unfold listText
      rw [strLen_app]
      have z := textFrom_length_pos (PyData.shownAll (a :: r)) 1 "[" (by decide)
      have q : (textFrom 0 "[" (PyData.shownAll (a :: r))).length + 2 = (textFrom 1 "[" (PyData.shownAll (a :: r))).length := by
        simp only [PyData.shownAll, textFrom]
        rw [textFrom_length_pos _ 1 _ (by decide), textFrom_length_pos _ 2 _ (by decide)]
        simp only [strLen_app]
        have e1 : (Str.ofString (if 0 > 0 then ", " else "")).length = 0 := by decide
        have e2 : (Str.ofString (if 1 > 0 then ", " else "")).length = 2 := by decide
        omega
      have e3 : (Str.ofString "]").length = 1 := by decide
      have e4 : (Str.ofString "[").length = 1 := by decide
      omega
  | .tuple l, h => by
    simp only [gdQ] at h
    obtain ⟨i1, i2, ih⟩ := gd_oks l h
    refine ⟨by simp only [PyData.showable]; exact i1, by simp only [okS]; exact i2, ?_⟩
    simp only [PyData.shown, szQ]
    unfold tupleText
    simp only [strLen_app]
    have e4 : (Str.ofString "(").length = 1 := by decide
    have e5 : (Str.ofString (if ((PyData.shownAll l).length == 1) = true then ",)" else ")")).length ≤ 2 := by
      split <;> decide
    cases l with
    | nil =>
      simp only [PyData.shownAll, szQs] at *
      have : (Str.join ", " []).length = 0 := by decide
      omega
    | cons a r =>
      have z := join_length_add (PyData.shownAll (a :: r)) (by simp [PyData.shownAll])
      omega
  | .dict kvs, h => by
    simp only [gdQ] at h
    obtain ⟨i1, i2, ih⟩ := gd_okk kvs h
    refine ⟨by simp only [PyData.showable]; exact i1, by simp only [okS]; exact i2, ?_⟩
    simp only [PyData.shown, szQ]
    unfold dictText
    simp only [strLen_app]
    have e4 : (Str.ofString "{").length = 1 := by decide
    have e5 : (Str.ofString "}").length = 1 := by decide
    cases kvs with
    | nil =>
      simp only [PyData.shownKv, szQk] at *
      have : (Str.join ", " []).length = 0 := by decide
      omega
    | cons a r =>
      obtain ⟨k, v⟩ := a
      have z := join_length_add (PyData.shownKv ((k, v) :: r)) (by simp [PyData.shownKv])
      omega
theorem gd_oks : ∀ l : List PyData, gdQs l = true → PyData.showableAll l = true ∧ okSs l = true ∧ piled (PyData.shownAll l) ≤ 2000 * szQs l
  | [], _ => ⟨rfl, rfl, by simp only [PyData.shownAll, szQs]; decide⟩
  | a :: r, h => by
    simp only [gdQs, Bool.and_eq_true] at h
    obtain ⟨a1, a2, a3⟩ := gd_ok a h.1
    obtain ⟨b1, b2, b3⟩ := gd_oks r h.2
    refine ⟨by simp only [PyData.showableAll, a1, b1, Bool.and_self], by simp only [okSs, a2, b2, Bool.and_self], ?_⟩
    simp only [PyData.shownAll, szQs, piled_cons]
    omega
theorem gd_okk : ∀ l : List (PyData × PyData), gdQk l = true → PyData.showableKv l = true ∧ okSk l = true ∧ piled (PyData.shownKv l) ≤ 2000 * szQk l
  | [], _ => ⟨rfl, rfl, by simp only [PyData.shownKv, szQk]; decide⟩
  | (k, v) :: r, h => by
    simp only [gdQk, Bool.and_eq_true] at h
    obtain ⟨a1, a2, a3⟩ := gd_ok k h.1.1
    obtain ⟨c1, c2, c3⟩ := gd_ok v h.1.2
    obtain ⟨b1, b2, b3⟩ := gd_okk r h.2
    refine ⟨by simp only [PyData.showableKv, a1, c1, b1, Bool.and_self], by simp only [okSk, a2, c2, b2, Bool.and_self], ?_⟩
    simp only [PyData.shownKv, szQk, piled_cons, strLen_app]
    have e : (Str.ofString ": ").length = 2 := by decide
    omega
end
/-! ### it stays -/
mutual
theorem pyQ_mono {f g : Nat → Option PyData} (hf : ∀ n p, f n = some p → g n = some p) : ∀ {d : D} {p : PyData}, pyQ f d = some p → pyQ g d = some p
  | .non, _, e => by simpa only [pyQ] using e
  | .bl _, _, e => by simpa only [pyQ] using e
  | .int _, _, e => by simpa only [pyQ] using e
  | .str _, _, e => by simpa only [pyQ] using e
  | .tup l, _, e => by
    simp only [pyQ] at e ⊢
    obtain ⟨ps, e1, rfl⟩ := Option.map_eq_some_iff.mp e
    rw [pyQs_mono hf e1]
    rfl
  | .ftup l, _, e => by
    simp only [pyQ] at e ⊢
    obtain ⟨ps, e1, rfl⟩ := Option.map_eq_some_iff.mp e
    rw [pyQs_mono hf e1]
    rfl
  | .dic ks l, _, e => by
    simp only [pyQ] at e ⊢
    obtain ⟨ps, e1, rfl⟩ := Option.map_eq_some_iff.mp e
    rw [pyQs_mono hf e1]
    rfl
  | .ref _, _, e => by
    simp only [pyQ] at e ⊢
    exact hf _ _ e
theorem pyQs_mono {f g : Nat → Option PyData} (hf : ∀ n p, f n = some p → g n = some p) : ∀ {l : List D} {p : List PyData}, pyQs f l = some p → pyQs g l = some p
  | [], _, e => by simpa only [pyQs] using e
  | d :: r, _, e => by
    simp only [pyQs] at e ⊢
    obtain ⟨a, ea, e⟩ := Option.bind_eq_some_iff.mp e
    obtain ⟨b, eb, rfl⟩ := Option.map_eq_some_iff.mp e
    rw [pyQ_mono hf ea, Option.bind_some, pyQs_mono hf eb]
    rfl
end
/-- the lists of h are lists of h' with the same items -/
def Lists (h h' : VH) : Prop := ∀ n l, lkL h n = some l → lkL h' n = some l
theorem Grow.lists {h h' : VH} (g : Grow h h') : Lists h h' := fun n l e => by
  obtain ⟨x, rfl⟩ := g
  unfold lkL at e ⊢
  cases q : h[n]? with
  | none => rw [q] at e; cases e
  | some c =>
    rw [q] at e
    rw [List.getElem?_append_left (List.getElem?_eq_some_iff.mp q).1, q]
    exact e
theorem refQ_mono {h h' : VH} (g : Lists h h') : ∀ (k n : Nat) (p : PyData), refQ h k n = some p → refQ h' k n = some p
  | 0, _, _, e => by cases e
  | k + 1, n, p, e => by
    simp only [refQ] at e ⊢
    obtain ⟨l, el, e⟩ := Option.bind_eq_some_iff.mp e
    obtain ⟨ps, ep, rfl⟩ := Option.map_eq_some_iff.mp e
    rw [g n l el, Option.bind_some, pyQs_mono (refQ_mono g k) ep]
    rfl
/-! ### both ways tell the same -/
mutual
theorem py_same {f g : Nat → Option PyData} (hf : ∀ n p q, f n = some p → g n = some q → p = q) : ∀ {d : D} {p q : PyData}, pyD f d = some p → pyQ g d = some q → p = q
  | .non, _, _, e, u => by simp only [pyD, pyQ] at e u; rw [← Option.some.inj e, ← Option.some.inj u]
  | .bl _, _, _, e, u => by simp only [pyD, pyQ] at e u; rw [← Option.some.inj e, ← Option.some.inj u]
  | .int _, _, _, e, u => by simp only [pyD, pyQ] at e u; rw [← Option.some.inj e, ← Option.some.inj u]
  | .str _, _, _, e, u => by simp only [pyD, pyQ] at e u; rw [← Option.some.inj e, ← Option.some.inj u]
  | .tup l, _, _, e, u => by
    simp only [pyD, pyQ] at e u
    obtain ⟨ps, e1, rfl⟩ := Option.map_eq_some_iff.mp e
    obtain ⟨qs, u1, rfl⟩ := Option.map_eq_some_iff.mp u
    rw [pys_same hf e1 u1]
  | .ftup l, _, _, e, u => by
    simp only [pyD, pyQ] at e u
    obtain ⟨ps, e1, rfl⟩ := Option.map_eq_some_iff.mp e
    obtain ⟨qs, u1, rfl⟩ := Option.map_eq_some_iff.mp u
    rw [pys_same hf e1 u1]
  | .dic ks l, _, _, e, _ => by simp only [pyD] at e; cases e
  | .ref _, _, _, e, u => by
    simp only [pyD, pyQ] at e u
    exact hf _ _ _ e u
theorem pys_same {f g : Nat → Option PyData} (hf : ∀ n p q, f n = some p → g n = some q → p = q) : ∀ {l : List D} {p q : List PyData}, pyL f l = some p → pyQs g l = some q → p = q
  | [], _, _, e, u => by simp only [pyL, pyQs] at e u; rw [← Option.some.inj e, ← Option.some.inj u]
  | d :: r, _, _, e, u => by
    simp only [pyL, pyQs] at e u
    obtain ⟨a, ea, e⟩ := Option.bind_eq_some_iff.mp e
    obtain ⟨b, eb, rfl⟩ := Option.map_eq_some_iff.mp e
    obtain ⟨a', ea', u⟩ := Option.bind_eq_some_iff.mp u
    obtain ⟨b', eb', rfl⟩ := Option.map_eq_some_iff.mp u
    rw [py_same hf ea ea', pys_same hf eb eb']
end
theorem ref_same {h : VH} : ∀ (j k n : Nat) (p q : PyData), refPy h j n = some p → refQ h k n = some q → p = q
  | 0, _, _, _, _, e, _ => by cases e
  | _ + 1, 0, _, _, _, _, u => by cases u
  | j + 1, k + 1, n, p, q, e, u => by
    simp only [refPy, refQ] at e u
    obtain ⟨l, el, e⟩ := Option.bind_eq_some_iff.mp e
    obtain ⟨ps, ep, rfl⟩ := Option.map_eq_some_iff.mp e
    obtain ⟨l', el', u⟩ := Option.bind_eq_some_iff.mp u
    obtain ⟨qs, eq, rfl⟩ := Option.map_eq_some_iff.mp u
    have : l = l' := by
      unfold lk at el
      unfold lkL at el'
      cases c : h[n]? with
      | none => rw [c] at el; cases el
      | some c' =>
        rw [c] at el el'
        cases c' with
        | lst x => cases el; cases el'; rfl
        | ro x => cases el'
    subst this
    rw [pys_same (ref_same j k) ep eq]
/-- d is shown as t, now and while the lists stay -/
def Sh (h : VH) (d : D) (t : Str) : Prop := PyData.strOk t = true ∧ ∀ h', Lists h h' → bReprD [d] h' = some (.str t, h')
theorem Sh.at {h : VH} {d : D} {t : Str} (s : Sh h d t) {h' : VH} (g : Lists h h') : Sh h' d t := ⟨s.1, fun h2 g2 => s.2 h2 fun n l e => g2 n l (g n l e)⟩
theorem sh_is {h : VH} {d : D} {p : PyData} (e : pyQ (refQ h 6) d = some p) (g : gdQ p = true) (hd : p.depth ≤ 64) (hs : szQ p ≤ 8000) : Sh h d p.shown := by
  obtain ⟨g1, g2, g3⟩ := gd_ok p g
  have hz : p.shown.length ≤ sizeLine := le_line (by omega)
  refine ⟨ok_shown p g2, fun h' l => ?_⟩
  have e' : pyQ (refQ h' 6) d = some p := pyQ_mono (refQ_mono l 6) e
  rw [bReprD_ap]
  cases eb : bRepr [d] h' with
  | some r =>
    unfold bRepr pureB at eb
    simp only [one_1, Option.bind_some] at eb
    obtain ⟨q, eq, rfl⟩ := Option.map_eq_some_iff.mp eb
    obtain ⟨p', ep, eq⟩ := Option.bind_eq_some_iff.mp eq
    have : p' = p := py_same (ref_same 6 6) ep e'
    subst this
    by_cases c : reprOk p' = true
    · rw [if_pos c] at eq
      cases eq
      rfl
    · rw [if_neg c] at eq
      cases eq
  | none =>
    rw [Option.none_or]
    have hr : isRef d = true := by
      cases d with
      | tup _ => rfl
      | ftup _ => rfl
      | dic _ _ => rfl
      | ref _ => rfl
      | non =>
        exfalso
        have := repr_D pl_non (by decide) (by decide) h'
        rw [this] at eb
        cases eb
      | bl b =>
        exfalso
        have := repr_D (pl_bl b) (by decide) (by cases b <;> decide) h'
        rw [this] at eb
        cases eb
      | int i =>
        exfalso
        simp only [pyQ] at e
        cases e
        have gi : i.natAbs.log2 < 1920 := by simpa only [gdQ, decide_eq_true_eq] using g
        have := repr_D (pl_int gi) (by decide) (by rw [sz_int]; decide) h'
        rw [this] at eb
        cases eb
      | str x =>
        exfalso
        simp only [pyQ] at e
        cases e
        simp only [gdQ, Bool.and_eq_true] at g
        have q := pl_str g.1
        have hsz : sz (.str x) ≤ 8000 := hs
        have := repr_D q (by decide) hsz h'
        rw [this] at eb
        cases eb
    have ok : reprOkQ p = true := by
      unfold reprOkQ
      rw [g1, decide_eq_true hd, decide_eq_true hz]
      rfl
    unfold bReprQ pureB
    simp only [one_1, Option.bind_some, hr, if_true, e', ok, Option.map_some]
theorem sh_of {h : VH} {d : D} {p : PyData} (e : pyQ (refQ h 6) d = some p) (g : gdQ p = true) (hd : p.depth ≤ 64) (hs : szQ p ≤ 8000) : ∃ t, Sh h d t := ⟨_, sh_is e g hd hs⟩
end Vq

namespace K01
open PySem PySem.Spec PyProof.Rows L2 Vq
def topS (i : Nat) : Stmt := PySem.Challenge.pw_comparenets_k01_whole_judged_and_run.main.body.getD i (.Pass ⟨0, 0, 0, 0⟩)
abbrev s_joined_nets : Stmt := topS 1
abbrev N_joined_nets : List Str := ["one", "other"]
abbrev P_joined_nets : List Str := ["one", "other"]
theorem sc_joined_nets : FnScope N_joined_nets P_joined_nets (defScope s_joined_nets) := ⟨rfl, rfl, rfl, by decide +kernel, rfl, by decide +kernel, by decide +kernel⟩
abbrev s_is_number : Stmt := topS 8
abbrev N_is_number : List Str := ["value"]
abbrev P_is_number : List Str := ["value"]
theorem sc_is_number : FnScope N_is_number P_is_number (defScope s_is_number) := ⟨rfl, rfl, rfl, by decide +kernel, rfl, by decide +kernel, by decide +kernel⟩
abbrev s_is_within : Stmt := topS 9
abbrev N_is_within : List Str := ["value", "low", "high"]
abbrev P_is_within : List Str := ["value", "low", "high"]
theorem sc_is_within : FnScope N_is_within P_is_within (defScope s_is_within) := ⟨rfl, rfl, rfl, by decide +kernel, rfl, by decide +kernel, by decide +kernel⟩
abbrev s_is_comparator : Stmt := topS 10
abbrev N_is_comparator : List Str := ["n", "value"]
abbrev P_is_comparator : List Str := ["n", "value"]
theorem sc_is_comparator : FnScope N_is_comparator P_is_comparator (defScope s_is_comparator) := ⟨rfl, rfl, rfl, by decide +kernel, rfl, by decide +kernel, by decide +kernel⟩
abbrev s_net_error : Stmt := topS 11
abbrev N_net_error : List Str := ["n", "value", "odd", "place", "item"]
abbrev P_net_error : List Str := ["n", "value"]
theorem sc_net_error : FnScope N_net_error P_net_error (defScope s_net_error) := ⟨rfl, rfl, rfl, by decide +kernel, rfl, by decide +kernel, by decide +kernel⟩
abbrev s_row_error : Stmt := topS 12
abbrev N_row_error : List Str := ["n", "value", "great", "wire", "item"]
abbrev P_row_error : List Str := ["n", "value"]
theorem sc_row_error : FnScope N_row_error P_row_error (defScope s_row_error) := ⟨rfl, rfl, rfl, by decide +kernel, rfl, by decide +kernel, by decide +kernel⟩
abbrev s_made_row : Stmt := topS 13
abbrev N_made_row : List Str := ["net", "row", "found", "i", "j"]
abbrev P_made_row : List Str := ["net", "row"]
theorem sc_made_row : FnScope N_made_row P_made_row (defScope s_made_row) := ⟨rfl, rfl, rfl, by decide +kernel, rfl, by decide +kernel, by decide +kernel⟩
abbrev s_is_ascending : Stmt := topS 14
abbrev N_is_ascending : List Str := ["row", "one", "other"]
abbrev P_is_ascending : List Str := ["row"]
theorem sc_is_ascending : FnScope N_is_ascending P_is_ascending (defScope s_is_ascending) := ⟨rfl, rfl, rfl, by decide +kernel, rfl, by decide +kernel, by decide +kernel⟩
abbrev s_is_standard : Stmt := topS 15
abbrev N_is_standard : List Str := ["net", "i", "j"]
abbrev P_is_standard : List Str := ["net"]
theorem sc_is_standard : FnScope N_is_standard P_is_standard (defScope s_is_standard) := ⟨rfl, rfl, rfl, by decide +kernel, rfl, by decide +kernel, by decide +kernel⟩
abbrev s_does_sort_row : Stmt := topS 16
abbrev N_does_sort_row : List Str := ["net", "row"]
abbrev P_does_sort_row : List Str := ["net", "row"]
theorem sc_does_sort_row : FnScope N_does_sort_row P_does_sort_row (defScope s_does_sort_row) := ⟨rfl, rfl, rfl, by decide +kernel, rfl, by decide +kernel, by decide +kernel⟩
abbrev s_law_own_bag : Stmt := topS 18
abbrev N_law_own_bag : List Str := ["script", "cells", "mixed", "cell"]
abbrev P_law_own_bag : List Str := ["script"]
theorem sc_law_own_bag : FnScope N_law_own_bag P_law_own_bag (defScope s_law_own_bag) := ⟨rfl, rfl, rfl, by decide +kernel, rfl, by decide +kernel, by decide +kernel⟩
abbrev s_law_draw : Stmt := topS 19
abbrev N_law_draw : List Str := ["bag", "below", "found"]
abbrev P_law_draw : List Str := ["bag", "below"]
theorem sc_law_draw : FnScope N_law_draw P_law_draw (defScope s_law_draw) := ⟨rfl, rfl, rfl, by decide +kernel, rfl, by decide +kernel, by decide +kernel⟩
abbrev s_law_pick : Stmt := topS 20
abbrev N_law_pick : List Str := ["bag", "some"]
abbrev P_law_pick : List Str := ["bag", "some"]
theorem sc_law_pick : FnScope N_law_pick P_law_pick (defScope s_law_pick) := ⟨rfl, rfl, rfl, by decide +kernel, rfl, by decide +kernel, by decide +kernel⟩
abbrev s_law_pair : Stmt := topS 21
abbrev N_law_pair : List Str := ["bag", "n", "i"]
abbrev P_law_pair : List Str := ["bag", "n"]
theorem sc_law_pair : FnScope N_law_pair P_law_pair (defScope s_law_pair) := ⟨rfl, rfl, rfl, by decide +kernel, rfl, by decide +kernel, by decide +kernel⟩
abbrev s_law_great : Stmt := topS 22
abbrev N_law_great : List Str := ["bag", "found", "turn"]
abbrev P_law_great : List Str := ["bag"]
theorem sc_law_great : FnScope N_law_great P_law_great (defScope s_law_great) := ⟨rfl, rfl, rfl, by decide +kernel, rfl, by decide +kernel, by decide +kernel⟩
abbrev s_law_row : Stmt := topS 23
abbrev N_law_row : List Str := ["bag", "n", "kind", "items", "rest", "w"]
abbrev P_law_row : List Str := ["bag", "n"]
theorem sc_law_row : FnScope N_law_row P_law_row (defScope s_law_row) := ⟨rfl, rfl, rfl, by decide +kernel, rfl, by decide +kernel, by decide +kernel⟩
abbrev s_law_made : Stmt := topS 24
abbrev N_law_made : List Str := ["net", "row", "items", "i", "j", "held"]
abbrev P_law_made : List Str := ["net", "row"]
theorem sc_law_made : FnScope N_law_made P_law_made (defScope s_law_made) := ⟨rfl, rfl, rfl, by decide +kernel, rfl, by decide +kernel, by decide +kernel⟩
abbrev s_law_ascends : Stmt := topS 25
abbrev N_law_ascends : List Str := ["row", "k"]
abbrev P_law_ascends : List Str := ["row"]
theorem sc_law_ascends : FnScope N_law_ascends P_law_ascends (defScope s_law_ascends) := ⟨rfl, rfl, rfl, by decide +kernel, rfl, by decide +kernel, by decide +kernel⟩
abbrev s_law_net : Stmt := topS 26
abbrev N_law_net : List Str := ["bag", "n", "many", "style", "found", "turn", "i", "j", "at"]
abbrev P_law_net : List Str := ["bag", "n", "many", "style"]
theorem sc_law_net : FnScope N_law_net P_law_net (defScope s_law_net) := ⟨rfl, rfl, rfl, by decide +kernel, rfl, by decide +kernel, by decide +kernel⟩
abbrev s_law_some_net : Stmt := topS 27
abbrev N_law_some_net : List Str := ["bag", "n", "many"]
abbrev P_law_some_net : List Str := ["bag", "n"]
theorem sc_law_some_net : FnScope N_law_some_net P_law_some_net (defScope s_law_some_net) := ⟨rfl, rfl, rfl, by decide +kernel, rfl, by decide +kernel, by decide +kernel⟩
abbrev s_law_is_run_right : Stmt := topS 28
abbrev N_law_is_run_right : List Str := ["n", "net", "row", "made", "kept", "goes", "begins", "plain", "due", "found", "turn", "told", "back", "i", "j"]
abbrev P_law_is_run_right : List Str := ["n", "net", "row"]
theorem sc_law_is_run_right : FnScope N_law_is_run_right P_law_is_run_right (defScope s_law_is_run_right) := ⟨rfl, rfl, rfl, by decide +kernel, rfl, by decide +kernel, by decide +kernel⟩
abbrev s_law_no_comparators : Stmt := topS 29
abbrev N_law_no_comparators : List Str := ["n", "found"]
abbrev P_law_no_comparators : List Str := ["n"]
theorem sc_law_no_comparators : FnScope N_law_no_comparators P_law_no_comparators (defScope s_law_no_comparators) := ⟨rfl, rfl, rfl, by decide +kernel, rfl, by decide +kernel, by decide +kernel⟩
abbrev s_law_is_net_error : Stmt := topS 30
abbrev N_law_is_net_error : List Str := ["n", "value", "due", "kept", "told"]
abbrev P_law_is_net_error : List Str := ["n", "value", "due"]
theorem sc_law_is_net_error : FnScope N_law_is_net_error P_law_is_net_error (defScope s_law_is_net_error) := ⟨rfl, rfl, rfl, by decide +kernel, rfl, by decide +kernel, by decide +kernel⟩
abbrev s_law_are_nets_judged : Stmt := topS 31
abbrev N_law_are_nets_judged : List Str := ["bag", "n", "net", "odd", "item", "at", "value", "later", "right", "due"]
abbrev P_law_are_nets_judged : List Str := ["bag", "n", "net"]
theorem sc_law_are_nets_judged : FnScope N_law_are_nets_judged P_law_are_nets_judged (defScope s_law_are_nets_judged) := ⟨rfl, rfl, rfl, by decide +kernel, rfl, by decide +kernel, by decide +kernel⟩
abbrev s_law_are_great_judged : Stmt := topS 32
abbrev N_law_are_great_judged : List Str := ["bag", "n", "net", "item", "great", "at", "some", "value", "due"]
abbrev P_law_are_great_judged : List Str := ["bag", "n", "net"]
theorem sc_law_are_great_judged : FnScope N_law_are_great_judged P_law_are_great_judged (defScope s_law_are_great_judged) := ⟨rfl, rfl, rfl, by decide +kernel, rfl, by decide +kernel, by decide +kernel⟩
abbrev s_law_is_row_error : Stmt := topS 33
abbrev N_law_is_row_error : List Str := ["n", "value", "due", "kept", "told"]
abbrev P_law_is_row_error : List Str := ["n", "value", "due"]
theorem sc_law_is_row_error : FnScope N_law_is_row_error P_law_is_row_error (defScope s_law_is_row_error) := ⟨rfl, rfl, rfl, by decide +kernel, rfl, by decide +kernel, by decide +kernel⟩
abbrev s_law_are_rows_judged : Stmt := topS 34
abbrev N_law_are_rows_judged : List Str := ["bag", "n", "row", "far", "odd", "value", "item", "at", "other", "due", "bits", "twins", "ends", "w", "one"]
abbrev P_law_are_rows_judged : List Str := ["bag", "n", "row"]
theorem sc_law_are_rows_judged : FnScope N_law_are_rows_judged P_law_are_rows_judged (defScope s_law_are_rows_judged) := ⟨rfl, rfl, rfl, by decide +kernel, rfl, by decide +kernel, by decide +kernel⟩
abbrev s_law_is_great_run : Stmt := topS 35
abbrev N_law_is_great_run : List Str := ["bag", "n", "style", "one", "other", "items", "great", "due", "turn", "made", "last", "k", "w"]
abbrev P_law_is_great_run : List Str := ["bag", "n"]
theorem sc_law_is_great_run : FnScope N_law_is_great_run P_law_is_great_run (defScope s_law_is_great_run) := ⟨rfl, rfl, rfl, by decide +kernel, rfl, by decide +kernel, by decide +kernel⟩
abbrev s_law_are_wide_right : Stmt := topS 36
abbrev N_law_are_wide_right : List Str := ["bag", "great", "row", "turn", "wide", "at", "bent", "own", "due"]
abbrev P_law_are_wide_right : List Str := ["bag"]
theorem sc_law_are_wide_right : FnScope N_law_are_wide_right P_law_are_wide_right (defScope s_law_are_wide_right) := ⟨rfl, rfl, rfl, by decide +kernel, rfl, by decide +kernel, by decide +kernel⟩
abbrev s_law : Stmt := topS 37
abbrev N_law : List Str := ["script", "bag", "n"]
abbrev P_law : List Str := ["script"]
theorem sc_law : FnScope N_law P_law (defScope s_law) := ⟨rfl, rfl, rfl, by decide +kernel, rfl, by decide +kernel, by decide +kernel⟩
/-- what the text's top has made -/
structure Txt (K : PySem.W.Frag) (mg : Str → Option Value) where
  a_joined_nets : Addr
  d_joined_nets : FuncData
  g_joined_nets : mg "joined_nets" = some (.ref a_joined_nets)
  k_joined_nets : PySem.W.keepIn K (.ref a_joined_nets) = true
  f_joined_nets : Fun K "joined_nets" "joined_nets" s_joined_nets a_joined_nets d_joined_nets
  b_joined_nets : BindP K d_joined_nets P_joined_nets
  a_is_number : Addr
  d_is_number : FuncData
  g_is_number : mg "is_number" = some (.ref a_is_number)
  k_is_number : PySem.W.keepIn K (.ref a_is_number) = true
  f_is_number : Fun K "is_number" "is_number" s_is_number a_is_number d_is_number
  b_is_number : BindP K d_is_number P_is_number
  a_is_within : Addr
  d_is_within : FuncData
  g_is_within : mg "is_within" = some (.ref a_is_within)
  k_is_within : PySem.W.keepIn K (.ref a_is_within) = true
  f_is_within : Fun K "is_within" "is_within" s_is_within a_is_within d_is_within
  b_is_within : BindP K d_is_within P_is_within
  a_is_comparator : Addr
  d_is_comparator : FuncData
  g_is_comparator : mg "is_comparator" = some (.ref a_is_comparator)
  k_is_comparator : PySem.W.keepIn K (.ref a_is_comparator) = true
  f_is_comparator : Fun K "is_comparator" "is_comparator" s_is_comparator a_is_comparator d_is_comparator
  b_is_comparator : BindP K d_is_comparator P_is_comparator
  a_net_error : Addr
  d_net_error : FuncData
  g_net_error : mg "net_error" = some (.ref a_net_error)
  k_net_error : PySem.W.keepIn K (.ref a_net_error) = true
  f_net_error : Fun K "net_error" "net_error" s_net_error a_net_error d_net_error
  b_net_error : BindP K d_net_error P_net_error
  a_row_error : Addr
  d_row_error : FuncData
  g_row_error : mg "row_error" = some (.ref a_row_error)
  k_row_error : PySem.W.keepIn K (.ref a_row_error) = true
  f_row_error : Fun K "row_error" "row_error" s_row_error a_row_error d_row_error
  b_row_error : BindP K d_row_error P_row_error
  a_made_row : Addr
  d_made_row : FuncData
  g_made_row : mg "made_row" = some (.ref a_made_row)
  k_made_row : PySem.W.keepIn K (.ref a_made_row) = true
  f_made_row : Fun K "made_row" "made_row" s_made_row a_made_row d_made_row
  b_made_row : BindP K d_made_row P_made_row
  a_is_ascending : Addr
  d_is_ascending : FuncData
  g_is_ascending : mg "is_ascending" = some (.ref a_is_ascending)
  k_is_ascending : PySem.W.keepIn K (.ref a_is_ascending) = true
  f_is_ascending : Fun K "is_ascending" "is_ascending" s_is_ascending a_is_ascending d_is_ascending
  b_is_ascending : BindP K d_is_ascending P_is_ascending
  a_is_standard : Addr
  d_is_standard : FuncData
  g_is_standard : mg "is_standard" = some (.ref a_is_standard)
  k_is_standard : PySem.W.keepIn K (.ref a_is_standard) = true
  f_is_standard : Fun K "is_standard" "is_standard" s_is_standard a_is_standard d_is_standard
  b_is_standard : BindP K d_is_standard P_is_standard
  a_does_sort_row : Addr
  d_does_sort_row : FuncData
  g_does_sort_row : mg "does_sort_row" = some (.ref a_does_sort_row)
  k_does_sort_row : PySem.W.keepIn K (.ref a_does_sort_row) = true
  f_does_sort_row : Fun K "does_sort_row" "does_sort_row" s_does_sort_row a_does_sort_row d_does_sort_row
  b_does_sort_row : BindP K d_does_sort_row P_does_sort_row
  a_law_own_bag : Addr
  d_law_own_bag : FuncData
  g_law_own_bag : mg "_law_own_bag" = some (.ref a_law_own_bag)
  k_law_own_bag : PySem.W.keepIn K (.ref a_law_own_bag) = true
  f_law_own_bag : Fun K "_law_own_bag" "_law_own_bag" s_law_own_bag a_law_own_bag d_law_own_bag
  b_law_own_bag : BindP K d_law_own_bag P_law_own_bag
  a_law_draw : Addr
  d_law_draw : FuncData
  g_law_draw : mg "_law_draw" = some (.ref a_law_draw)
  k_law_draw : PySem.W.keepIn K (.ref a_law_draw) = true
  f_law_draw : Fun K "_law_draw" "_law_draw" s_law_draw a_law_draw d_law_draw
  b_law_draw : BindP K d_law_draw P_law_draw
  a_law_pick : Addr
  d_law_pick : FuncData
  g_law_pick : mg "_law_pick" = some (.ref a_law_pick)
  k_law_pick : PySem.W.keepIn K (.ref a_law_pick) = true
  f_law_pick : Fun K "_law_pick" "_law_pick" s_law_pick a_law_pick d_law_pick
  b_law_pick : BindP K d_law_pick P_law_pick
  a_law_pair : Addr
  d_law_pair : FuncData
  g_law_pair : mg "_law_pair" = some (.ref a_law_pair)
  k_law_pair : PySem.W.keepIn K (.ref a_law_pair) = true
  f_law_pair : Fun K "_law_pair" "_law_pair" s_law_pair a_law_pair d_law_pair
  b_law_pair : BindP K d_law_pair P_law_pair
  a_law_great : Addr
  d_law_great : FuncData
  g_law_great : mg "_law_great" = some (.ref a_law_great)
  k_law_great : PySem.W.keepIn K (.ref a_law_great) = true
  f_law_great : Fun K "_law_great" "_law_great" s_law_great a_law_great d_law_great
  b_law_great : BindP K d_law_great P_law_great
  a_law_row : Addr
  d_law_row : FuncData
  g_law_row : mg "_law_row" = some (.ref a_law_row)
  k_law_row : PySem.W.keepIn K (.ref a_law_row) = true
  f_law_row : Fun K "_law_row" "_law_row" s_law_row a_law_row d_law_row
  b_law_row : BindP K d_law_row P_law_row
  a_law_made : Addr
  d_law_made : FuncData
  g_law_made : mg "_law_made" = some (.ref a_law_made)
  k_law_made : PySem.W.keepIn K (.ref a_law_made) = true
  f_law_made : Fun K "_law_made" "_law_made" s_law_made a_law_made d_law_made
  b_law_made : BindP K d_law_made P_law_made
  a_law_ascends : Addr
  d_law_ascends : FuncData
  g_law_ascends : mg "_law_ascends" = some (.ref a_law_ascends)
  k_law_ascends : PySem.W.keepIn K (.ref a_law_ascends) = true
  f_law_ascends : Fun K "_law_ascends" "_law_ascends" s_law_ascends a_law_ascends d_law_ascends
  b_law_ascends : BindP K d_law_ascends P_law_ascends
  a_law_net : Addr
  d_law_net : FuncData
  g_law_net : mg "_law_net" = some (.ref a_law_net)
  k_law_net : PySem.W.keepIn K (.ref a_law_net) = true
  f_law_net : Fun K "_law_net" "_law_net" s_law_net a_law_net d_law_net
  b_law_net : BindP K d_law_net P_law_net
  a_law_some_net : Addr
  d_law_some_net : FuncData
  g_law_some_net : mg "_law_some_net" = some (.ref a_law_some_net)
  k_law_some_net : PySem.W.keepIn K (.ref a_law_some_net) = true
  f_law_some_net : Fun K "_law_some_net" "_law_some_net" s_law_some_net a_law_some_net d_law_some_net
  b_law_some_net : BindP K d_law_some_net P_law_some_net
  a_law_is_run_right : Addr
  d_law_is_run_right : FuncData
  g_law_is_run_right : mg "_law_is_run_right" = some (.ref a_law_is_run_right)
  k_law_is_run_right : PySem.W.keepIn K (.ref a_law_is_run_right) = true
  f_law_is_run_right : Fun K "_law_is_run_right" "_law_is_run_right" s_law_is_run_right a_law_is_run_right d_law_is_run_right
  b_law_is_run_right : BindP K d_law_is_run_right P_law_is_run_right
  a_law_no_comparators : Addr
  d_law_no_comparators : FuncData
  g_law_no_comparators : mg "_law_no_comparators" = some (.ref a_law_no_comparators)
  k_law_no_comparators : PySem.W.keepIn K (.ref a_law_no_comparators) = true
  f_law_no_comparators : Fun K "_law_no_comparators" "_law_no_comparators" s_law_no_comparators a_law_no_comparators d_law_no_comparators
  b_law_no_comparators : BindP K d_law_no_comparators P_law_no_comparators
  a_law_is_net_error : Addr
  d_law_is_net_error : FuncData
  g_law_is_net_error : mg "_law_is_net_error" = some (.ref a_law_is_net_error)
  k_law_is_net_error : PySem.W.keepIn K (.ref a_law_is_net_error) = true
  f_law_is_net_error : Fun K "_law_is_net_error" "_law_is_net_error" s_law_is_net_error a_law_is_net_error d_law_is_net_error
  b_law_is_net_error : BindP K d_law_is_net_error P_law_is_net_error
  a_law_are_nets_judged : Addr
  d_law_are_nets_judged : FuncData
  g_law_are_nets_judged : mg "_law_are_nets_judged" = some (.ref a_law_are_nets_judged)
  k_law_are_nets_judged : PySem.W.keepIn K (.ref a_law_are_nets_judged) = true
  f_law_are_nets_judged : Fun K "_law_are_nets_judged" "_law_are_nets_judged" s_law_are_nets_judged a_law_are_nets_judged d_law_are_nets_judged
  b_law_are_nets_judged : BindP K d_law_are_nets_judged P_law_are_nets_judged
  a_law_are_great_judged : Addr
  d_law_are_great_judged : FuncData
  g_law_are_great_judged : mg "_law_are_great_judged" = some (.ref a_law_are_great_judged)
  k_law_are_great_judged : PySem.W.keepIn K (.ref a_law_are_great_judged) = true
  f_law_are_great_judged : Fun K "_law_are_great_judged" "_law_are_great_judged" s_law_are_great_judged a_law_are_great_judged d_law_are_great_judged
  b_law_are_great_judged : BindP K d_law_are_great_judged P_law_are_great_judged
  a_law_is_row_error : Addr
  d_law_is_row_error : FuncData
  g_law_is_row_error : mg "_law_is_row_error" = some (.ref a_law_is_row_error)
  k_law_is_row_error : PySem.W.keepIn K (.ref a_law_is_row_error) = true
  f_law_is_row_error : Fun K "_law_is_row_error" "_law_is_row_error" s_law_is_row_error a_law_is_row_error d_law_is_row_error
  b_law_is_row_error : BindP K d_law_is_row_error P_law_is_row_error
  a_law_are_rows_judged : Addr
  d_law_are_rows_judged : FuncData
  g_law_are_rows_judged : mg "_law_are_rows_judged" = some (.ref a_law_are_rows_judged)
  k_law_are_rows_judged : PySem.W.keepIn K (.ref a_law_are_rows_judged) = true
  f_law_are_rows_judged : Fun K "_law_are_rows_judged" "_law_are_rows_judged" s_law_are_rows_judged a_law_are_rows_judged d_law_are_rows_judged
  b_law_are_rows_judged : BindP K d_law_are_rows_judged P_law_are_rows_judged
  a_law_is_great_run : Addr
  d_law_is_great_run : FuncData
  g_law_is_great_run : mg "_law_is_great_run" = some (.ref a_law_is_great_run)
  k_law_is_great_run : PySem.W.keepIn K (.ref a_law_is_great_run) = true
  f_law_is_great_run : Fun K "_law_is_great_run" "_law_is_great_run" s_law_is_great_run a_law_is_great_run d_law_is_great_run
  b_law_is_great_run : BindP K d_law_is_great_run P_law_is_great_run
  a_law_are_wide_right : Addr
  d_law_are_wide_right : FuncData
  g_law_are_wide_right : mg "_law_are_wide_right" = some (.ref a_law_are_wide_right)
  k_law_are_wide_right : PySem.W.keepIn K (.ref a_law_are_wide_right) = true
  f_law_are_wide_right : Fun K "_law_are_wide_right" "_law_are_wide_right" s_law_are_wide_right a_law_are_wide_right d_law_are_wide_right
  b_law_are_wide_right : BindP K d_law_are_wide_right P_law_are_wide_right
  a_law : Addr
  d_law : FuncData
  g_law : mg "law" = some (.ref a_law)
  k_law : PySem.W.keepIn K (.ref a_law) = true
  f_law : Fun K "law" "law" s_law a_law d_law
  b_law : BindP K d_law P_law
  n_abs : mg "abs" = none
  n_all : mg "all" = none
  n_bool : mg "bool" = none
  n_enumerate : mg "enumerate" = none
  n_int : mg "int" = none
  n_isinstance : mg "isinstance" = none
  n_len : mg "len" = none
  n_list : mg "list" = none
  n_max : mg "max" = none
  n_min : mg "min" = none
  n_range : mg "range" = none
  n_repr : mg "repr" = none
  n_reversed : mg "reversed" = none
  n_sorted : mg "sorted" = none
  n_tuple : mg "tuple" = none
  n_zip : mg "zip" = none
  c_MAX_GREAT_NET : ∃ t, mg "MAX_GREAT_NET" = some (.int 500 t)
  c_MAX_NUMBER : ∃ t, mg "MAX_NUMBER" = some (.int 1000000000000000000000000000000 t)
  c_MAX_LISTED : ∃ t, mg "MAX_LISTED" = some (.int 500 t)
  c_MAX_NET : ∃ t, mg "MAX_NET" = some (.int 60 t)
  c_MAX_WIRES : ∃ t, mg "MAX_WIRES" = some (.int 10 t)
variable {P : Program} {w : World} {K : PySem.W.Frag} {mg : Str → Option Value} {base : Heap} [SysIn base]
theorem kw0 (T : Txt K mg) : BindK T.d_is_standard P_is_standard ["net"] 0 (permL [0]) := bindK_of T.f_is_standard ["net"] 0 [0] fun _ _ _ _ _ _ us ws h1 h2 => match us, ws, h1, h2 with | [], [_], _, _ => rfl
theorem kw1 (T : Txt K mg) : BindK T.d_is_ascending P_is_ascending ["row"] 0 (permL [0]) := bindK_of T.f_is_ascending ["row"] 0 [0] fun _ _ _ _ _ _ us ws h1 h2 => match us, ws, h1, h2 with | [], [_], _, _ => rfl
theorem kw2 (T : Txt K mg) : BindK T.d_does_sort_row P_does_sort_row ["row", "net"] 0 (permL [1, 0]) := bindK_of T.f_does_sort_row ["row", "net"] 0 [1, 0] fun _ _ _ _ _ _ us ws h1 h2 => match us, ws, h1, h2 with | [], [_, _], _, _ => rfl
theorem kw3 (T : Txt K mg) : BindK T.d_made_row P_made_row ["row", "net"] 0 (permL [1, 0]) := bindK_of T.f_made_row ["row", "net"] 0 [1, 0] fun _ _ _ _ _ _ us ws h1 h2 => match us, ws, h1, h2 with | [], [_, _], _, _ => rfl
theorem kw4 (T : Txt K mg) : BindK T.d_row_error P_row_error ["value", "n"] 0 (permL [1, 0]) := bindK_of T.f_row_error ["value", "n"] 0 [1, 0] fun _ _ _ _ _ _ us ws h1 h2 => match us, ws, h1, h2 with | [], [_, _], _, _ => rfl
theorem kw5 (T : Txt K mg) : BindK T.d_net_error P_net_error ["value", "n"] 0 (permL [1, 0]) := bindK_of T.f_net_error ["value", "n"] 0 [1, 0] fun _ _ _ _ _ _ us ws h1 h2 => match us, ws, h1, h2 with | [], [_, _], _, _ => rfl
def m_joined_nets : VSt :=
  (vRet (vOp dAdd (vVar 0) (vVar 1)))
theorem ok_joined_nets (T : Txt K mg) : FnG P w K mg base 1 T.a_joined_nets T.d_joined_nets P_joined_nets (mF 2 (m_joined_nets)) :=
  fnG_of T.f_joined_nets sc_joined_nets fun cdv A outer s H E a =>
    (qsOne (qRet (qOp add_opr (add_opd _) (qV (i := 0) rfl (.inl rfl)) (qV (i := 1) rfl (.inl rfl)))))
def m_is_number : VSt :=
  (vRet (vAnd (vIsi "int" (vVar 0)) (vNot (vIsi "bool" (vVar 0)))))
theorem ok_is_number (T : Txt K mg) : FnG P w K mg base 1 T.a_is_number T.d_is_number P_is_number (mF 1 (m_is_number)) :=
  fnG_of T.f_is_number sc_is_number fun cdv A outer s H E a =>
    (qsOne (qRet (qAnd (qIsi T.n_isinstance T.n_int (qV (i := 0) rfl (.inl rfl))) (qOne (qNot (qIsi T.n_isinstance T.n_bool (qV (i := 0) rfl (.inl rfl))))))))
def m_is_within (F_is_number : Fn) : VSt :=
  (vRet (vAnd (vCall 1 F_is_number (vCons (vVar 0) vNil)) (vChain aLe aLe (vVar 1) (vVar 0) (vVar 2))))
theorem ok_is_within (T : Txt K mg) {F_is_number : Fn} (G_is_number : FnG P w K mg base 1 T.a_is_number T.d_is_number P_is_number F_is_number) : FnG P w K mg base 2 T.a_is_within T.d_is_within P_is_within (mF 3 (m_is_within F_is_number)) :=
  fnG_of T.f_is_within sc_is_within fun cdv A outer s H E a =>
    (qsOne (qRet (qAnd (qCall G_is_number (a.mono (by decide)) T.g_is_number T.k_is_number T.b_is_number (qa (qV (i := 0) rfl (.inl rfl)) qa0)) (qOne (qChain op_le (le_ii _) op_le (le_ii _) (qV (i := 1) rfl (.inl rfl)) (qV (i := 0) rfl (.inl rfl)) (qV (i := 2) rfl (.inl rfl)))))))
def m_is_comparator (F_is_within : Fn) : VSt :=
  (vSeq (vIfS (vOrT (vNotT (vTr (vIsi "tuple" (vVar 1)))) (vTr (vOp dNe (vBl bLen (vCons (vVar 1) vNil)) (vC (.int 2))))) (vRet (vC (.bl false))) vPass)
    (vRet (vAnd (vCall 3 F_is_within (vCons (vOp dIx (vVar 1) (vC (.int 0))) (vCons (vC (.int 0)) (vCons (vOp aSub (vVar 0) (vC (.int 1))) vNil)))) (vAnd (vCall 3 F_is_within (vCons (vOp dIx (vVar 1) (vC (.int 1))) (vCons (vC (.int 0)) (vCons (vOp aSub (vVar 0) (vC (.int 1))) vNil)))) (vOp dNe (vOp dIx (vVar 1) (vC (.int 0))) (vOp dIx (vVar 1) (vC (.int 1))))))))
theorem ok_is_comparator (T : Txt K mg) {F_is_within : Fn} (G_is_within : FnG P w K mg base 2 T.a_is_within T.d_is_within P_is_within F_is_within) : FnG P w K mg base 3 T.a_is_comparator T.d_is_comparator P_is_comparator (mF 2 (m_is_comparator F_is_within)) :=
  fnG_of T.f_is_comparator sc_is_comparator fun cdv A outer s H E a =>
    (qsCons (qIfS (PW.pt (qOrT (qNotT (qT (qIsi T.n_isinstance T.n_tuple (qV (i := 1) rfl (.inl rfl))))) (qOr1 (qCmT (ne_opr a.hu) (ne_opd _) (qBl call_len (len_cd _) T.n_len (qa (qV (i := 1) rfl (.inl rfl)) qa0)) qI)))) (qsOne (qRet qB)) qsNil)
    (qsOne (qRet (qAnd (qCall G_is_within (a.mono (by decide)) T.g_is_within T.k_is_within T.b_is_within (qa (qIx ix_seq (ix_opd _) (qV (i := 1) rfl (.inl rfl)) qI) (qa qI (qa (qOp op_sub (sub_ii _) (qV (i := 0) rfl (.inl rfl)) qI) qa0)))) (qAnd (qCall G_is_within (a.mono (by decide)) T.g_is_within T.k_is_within T.b_is_within (qa (qIx ix_seq (ix_opd _) (qV (i := 1) rfl (.inl rfl)) qI) (qa qI (qa (qOp op_sub (sub_ii _) (qV (i := 0) rfl (.inl rfl)) qI) qa0)))) (qOne (qCm (ne_opr a.hu) (ne_opd _) (qIx ix_seq (ix_opd _) (qV (i := 1) rfl (.inl rfl)) qI) (qIx ix_seq (ix_opd _) (qV (i := 1) rfl (.inl rfl)) qI))))))))
def T1_net_error (F_is_comparator : Fn) : VT :=
  (vNotT (vTr (vCall 2 F_is_comparator (vCons (vVar 0) (vCons (vVar 4) vNil)))))
def E1_net_error (F_is_comparator : Fn) : VE :=
  (vVar 3)
def C1_net_error (F_is_comparator : Fn) : VE :=
  (vLc (vEnum (vCons (vVar 1) vNil)) [3, 4] (pTup 2 (psCons (pN 3) (psCons (pN 4) psNil))) (T1_net_error F_is_comparator) (E1_net_error F_is_comparator))
def S1_net_error (F_is_comparator : Fn) : VSt :=
  (vAsg (C1_net_error F_is_comparator) (gName 2))
def S2_net_error (F_is_comparator : Fn) : VSt :=
  (vIfS (vTr (vOp aGt (vBl bLen (vCons (vVar 1) vNil)) (vC (.int 500)))) (vRet (vC (.str (Str.ofString "many")))) vPass)
def S3_net_error (F_is_comparator : Fn) : VSt :=
  (vIfS (vNotT (vTr (vIsi "tuple" (vVar 1)))) (vRet (vC (.str (Str.ofString "form")))) vPass)
def m_net_error (F_is_comparator : Fn) : VSt :=
  (vSeq (S3_net_error F_is_comparator)
    (vSeq (S2_net_error F_is_comparator)
    (vSeq (S1_net_error F_is_comparator)
    (vRet (vIf (vTr (vOp dNe (vVar 2) (vLst vNil))) (vTup (vCons (vC (.str (Str.ofString "comparator"))) (vCons (vOp dIx (vVar 2) (vC (.int 0))) vNil))) (vC .non))))))
theorem ok_net_error (T : Txt K mg) {F_is_comparator : Fn} (G_is_comparator : FnG P w K mg base 3 T.a_is_comparator T.d_is_comparator P_is_comparator F_is_comparator) : FnG P w K mg base 4 T.a_net_error T.d_net_error P_net_error (mF 5 (m_net_error F_is_comparator)) :=
  fnG_of T.f_net_error sc_net_error fun cdv A outer s H E a =>
    (qsCons (qIfS (qNotT (qT (qIsi T.n_isinstance T.n_tuple (qV (i := 1) rfl (.inl rfl))))) (qsOne (qRet qS)) qsNil)
    (qsCons (qIfS (qCmT op_gt (gt_ii _) (qBl call_len (len_cd _) T.n_len (qa (qV (i := 1) rfl (.inl rfl)) qa0)) (qGi T.c_MAX_GREAT_NET)) (qsOne (qRet qS)) qsNil)
    (qsCons (qSetLc (i := 2) (own := [("place", 3), ("item", 4)]) rfl sc_net_error.nd rfl rfl (sw_true rfl rfl rfl (by decide +kernel)) (qEnum T.n_enumerate (qa (qV (i := 1) rfl (.inl rfl)) qa0)) (blkOk_by (N := N_net_error) (sc := defScope s_net_error) (own := [("place", 3), ("item", 4)]) (by decide +kernel)) (tgd_tup (tgsd_cons (tgd_name (by decide)) (tgsd_cons (tgd_name (by decide)) tgsd_nil))) (fun _ _ _ _ _ => (pg_tup rfl (pgs_cons (pg_name (i := 3) sc_net_error.nd rfl (.inl rfl)) (pgs_cons (pg_name (i := 4) sc_net_error.nd rfl (.inl rfl)) pgs_nil)))) (fun _ _ _ _ _ => (pts_one (qNotT (qT (qCall G_is_comparator (a.blk.mono (by decide)) T.g_is_comparator T.k_is_comparator T.b_is_comparator (qa (qV (i := 0) rfl (.inr (.inl rfl))) (qa (qV (i := 4) rfl (.inl rfl)) qa0))))))) (fun _ _ _ _ _ => (qV (i := 3) rfl (.inl rfl))))
    (qsOne (qRet (qIf (qCmT (ne_opr a.hu) (ne_opd _) (qV (i := 2) rfl (.inl rfl)) (qLst qa0)) (qTup (qa qS (qa (qIx ix_seq (ix_opd _) (qV (i := 2) rfl (.inl rfl)) qI) qa0))) qN))))))
def T1_row_error (F_is_number : Fn) : VT :=
  (vTr (vOp aGt (vBl bAbs (vCons (vVar 4) vNil)) (vC (.int 1000000000000000000000000000000))))
def E1_row_error (F_is_number : Fn) : VE :=
  (vVar 3)
def C1_row_error (F_is_number : Fn) : VE :=
  (vLc (vEnum (vCons (vVar 1) vNil)) [3, 4] (pTup 2 (psCons (pN 3) (psCons (pN 4) psNil))) (T1_row_error F_is_number) (E1_row_error F_is_number))
def S1_row_error (F_is_number : Fn) : VSt :=
  (vAsg (C1_row_error F_is_number) (gName 2))
def E2_row_error (F_is_number : Fn) : VE :=
  (vCall 1 F_is_number (vCons (vVar 4) vNil))
def C2_row_error (F_is_number : Fn) : VE :=
  (vLc (vIt (vVar 1)) [4] (pN 4) vYes (E2_row_error F_is_number))
def S2_row_error (F_is_number : Fn) : VSt :=
  (vIfS (vOrT (vNotT (vTr (vIsi "tuple" (vVar 1)))) (vOrT (vTr (vOp dNe (vBl bLen (vCons (vVar 1) vNil)) (vVar 0))) (vNotT (vTr (vBl bAll (vCons (C2_row_error F_is_number) vNil)))))) (vRet (vC (.str (Str.ofString "form")))) vPass)
def m_row_error (F_is_number : Fn) : VSt :=
  (vSeq (S2_row_error F_is_number)
    (vSeq (S1_row_error F_is_number)
    (vRet (vIf (vTr (vOp dNe (vVar 2) (vLst vNil))) (vTup (vCons (vC (.str (Str.ofString "item"))) (vCons (vOp dIx (vVar 2) (vC (.int 0))) vNil))) (vC .non)))))
theorem ok_row_error (T : Txt K mg) {F_is_number : Fn} (G_is_number : FnG P w K mg base 1 T.a_is_number T.d_is_number P_is_number F_is_number) : FnG P w K mg base 2 T.a_row_error T.d_row_error P_row_error (mF 5 (m_row_error F_is_number)) :=
  fnG_of T.f_row_error sc_row_error fun cdv A outer s H E a =>
    (qsCons (qIfS (PW.pt (qOrT (qNotT (qT (qIsi T.n_isinstance T.n_tuple (qV (i := 1) rfl (.inl rfl))))) (qOrT (qCmT (ne_opr a.hu) (ne_opd _) (qBl call_len (len_cd _) T.n_len (qa (qV (i := 1) rfl (.inl rfl)) qa0)) (qV (i := 0) rfl (.inl rfl))) (qOr1 (qNotT (qT (qBl (cr_all rfl) (all_cd _) T.n_all (qa (qLc (own := [("item", 4)]) rfl sc_row_error.nd (qIt (qV (i := 1) rfl (.inl rfl))) (blkOk_by (N := N_row_error) (sc := defScope s_row_error) (own := [("item", 4)]) (by decide +kernel)) (tgd_name (by decide)) (fun _ _ _ _ _ => (pg_name (i := 4) sc_row_error.nd rfl (.inl rfl))) (fun _ _ _ _ _ => (qYes _ _)) (fun _ _ _ _ _ => (qCall G_is_number (a.blk.mono (by decide)) T.g_is_number T.k_is_number T.b_is_number (qa (qV (i := 4) rfl (.inl rfl)) qa0)))) qa0)))))))) (qsOne (qRet qS)) qsNil)
    (qsCons (qSetLc (i := 2) (own := [("wire", 3), ("item", 4)]) rfl sc_row_error.nd rfl rfl (sw_true rfl rfl rfl (by decide +kernel)) (qEnum T.n_enumerate (qa (qV (i := 1) rfl (.inl rfl)) qa0)) (blkOk_by (N := N_row_error) (sc := defScope s_row_error) (own := [("wire", 3), ("item", 4)]) (by decide +kernel)) (tgd_tup (tgsd_cons (tgd_name (by decide)) (tgsd_cons (tgd_name (by decide)) tgsd_nil))) (fun _ _ _ _ _ => (pg_tup rfl (pgs_cons (pg_name (i := 3) sc_row_error.nd rfl (.inl rfl)) (pgs_cons (pg_name (i := 4) sc_row_error.nd rfl (.inl rfl)) pgs_nil)))) (fun _ _ _ _ _ => (pts_one (qCmT op_gt (gt_ii _) (qBl call_abs (abs_cd _) T.n_abs (qa (qV (i := 4) rfl (.inl rfl)) qa0)) (qGi T.c_MAX_NUMBER)))) (fun _ _ _ _ _ => (qV (i := 3) rfl (.inl rfl))))
    (qsOne (qRet (qIf (qCmT (ne_opr a.hu) (ne_opd _) (qV (i := 2) rfl (.inl rfl)) (qLst qa0)) (qTup (qa qS (qa (qIx ix_seq (ix_opd _) (qV (i := 2) rfl (.inl rfl)) qI) qa0))) qN)))))
def B1_made_row : VSt :=
  (vIfS (vTr (vOp aGt (vOp dIx (vVar 2) (vVar 3)) (vOp dIx (vVar 2) (vVar 4)))) (vAsg (vTup (vCons (vOp dIx (vVar 2) (vVar 4)) (vCons (vOp dIx (vVar 2) (vVar 3)) vNil))) (gTupl 2 (gsCons (gSubs sLst (vVar 2) (vVar 3)) (gsCons (gSubs sLst (vVar 2) (vVar 4)) gsNil)))) vPass)
def L1_made_row : VSt :=
  (vFor (vIt (vVar 0)) (gP (pTup 2 (psCons (pN 3) (psCons (pN 4) psNil)))) B1_made_row)
def m_made_row : VSt :=
  (vSeq (vAsg (vBl bList (vCons (vVar 1) vNil)) (gName 2))
    (vSeq L1_made_row
    (vRet (vBl bTup (vCons (vVar 2) vNil)))))
theorem ok_made_row (T : Txt K mg) : FnG P w K mg base 1 T.a_made_row T.d_made_row P_made_row (mF 5 (m_made_row)) :=
  fnG_of T.f_made_row sc_made_row fun cdv A outer s H E a =>
    (qsCons (qSet (i := 2) sc_made_row.nd (qTy call_list_of (list_cd _) T.n_list (qa (qV (i := 1) rfl (.inl rfl)) qa0)) rfl (.inl rfl))
    (qsCons (qFor a.ps rfl (qIt (qV (i := 0) rfl (.inl rfl))) (qgP (vs := [3, 4]) (pg_tup rfl (pgs_cons (pg_name (i := 3) sc_made_row.nd rfl (.inl rfl)) (pgs_cons (pg_name (i := 4) sc_made_row.nd rfl (.inl rfl)) pgs_nil))) (tgd_tup (tgsd_cons (tgd_name (by decide)) (tgsd_cons (tgd_name (by decide)) tgsd_nil)))) (qsOne (qIfS (qCmT op_gt (gt_ii _) (qIx ix_seq (ix_opd _) (qV (i := 2) rfl (.inl rfl)) (qV (i := 3) rfl (.inl rfl))) (qIx ix_seq (ix_opd _) (qV (i := 2) rfl (.inl rfl)) (qV (i := 4) rfl (.inl rfl)))) (qsOne (qAsg (qTup (qa (qIx ix_seq (ix_opd _) (qV (i := 2) rfl (.inl rfl)) (qV (i := 4) rfl (.inl rfl))) (qa (qIx ix_seq (ix_opd _) (qV (i := 2) rfl (.inl rfl)) (qV (i := 3) rfl (.inl rfl))) qa0))) (qgT rfl (qgs (qgS set_list (lst_setd _) (qV (i := 2) rfl (.inl rfl)) (qV (i := 3) rfl (.inl rfl))) (qgs (qgS set_list (lst_setd _) (qV (i := 2) rfl (.inl rfl)) (qV (i := 4) rfl (.inl rfl))) qgs0))))) qsNil)))
    (qsOne (qRet (qTy call_tuple_of (tup_cd _) T.n_tuple (qa (qV (i := 2) rfl (.inl rfl)) qa0))))))
def E1_is_ascending : VE :=
  (vOp aLe (vVar 1) (vVar 2))
def C1_is_ascending : VE :=
  (vLc (vZip (vCons (vVar 0) (vCons (vSl (vVar 0) (oSome (vC (.int 1))) oNone) vNil))) [1, 2] (pTup 2 (psCons (pN 1) (psCons (pN 2) psNil))) vYes E1_is_ascending)
def m_is_ascending : VSt :=
  (vRet (vBl bAll (vCons C1_is_ascending vNil)))
theorem ok_is_ascending (T : Txt K mg) : FnG P w K mg base 1 T.a_is_ascending T.d_is_ascending P_is_ascending (mF 3 (m_is_ascending)) :=
  fnG_of T.f_is_ascending sc_is_ascending fun cdv A outer s H E a =>
    (qsOne (qRet (qBl (cr_all rfl) (all_cd _) T.n_all (qa (qLc (own := [("one", 1), ("other", 2)]) rfl sc_is_ascending.nd (qZip T.n_zip (qa (qV (i := 0) rfl (.inl rfl)) (qa (qSl (qV (i := 0) rfl (.inl rfl)) (qo qI) qo0) qa0))) (blkOk_by (N := N_is_ascending) (sc := defScope s_is_ascending) (own := [("one", 1), ("other", 2)]) (by decide +kernel)) (tgd_tup (tgsd_cons (tgd_name (by decide)) (tgsd_cons (tgd_name (by decide)) tgsd_nil))) (fun _ _ _ _ _ => (pg_tup rfl (pgs_cons (pg_name (i := 1) sc_is_ascending.nd rfl (.inl rfl)) (pgs_cons (pg_name (i := 2) sc_is_ascending.nd rfl (.inl rfl)) pgs_nil)))) (fun _ _ _ _ _ => (qYes _ _)) (fun _ _ _ _ _ => (qCm op_le (le_ii _) (qV (i := 1) rfl (.inl rfl)) (qV (i := 2) rfl (.inl rfl))))) qa0))))
def E1_is_standard : VE :=
  (vOp aLt (vVar 1) (vVar 2))
def C1_is_standard : VE :=
  (vLc (vIt (vVar 0)) [1, 2] (pTup 2 (psCons (pN 1) (psCons (pN 2) psNil))) vYes E1_is_standard)
def m_is_standard : VSt :=
  (vRet (vBl bAll (vCons C1_is_standard vNil)))
theorem ok_is_standard (T : Txt K mg) : FnG P w K mg base 1 T.a_is_standard T.d_is_standard P_is_standard (mF 3 (m_is_standard)) :=
  fnG_of T.f_is_standard sc_is_standard fun cdv A outer s H E a =>
    (qsOne (qRet (qBl (cr_all rfl) (all_cd _) T.n_all (qa (qLc (own := [("i", 1), ("j", 2)]) rfl sc_is_standard.nd (qIt (qV (i := 0) rfl (.inl rfl))) (blkOk_by (N := N_is_standard) (sc := defScope s_is_standard) (own := [("i", 1), ("j", 2)]) (by decide +kernel)) (tgd_tup (tgsd_cons (tgd_name (by decide)) (tgsd_cons (tgd_name (by decide)) tgsd_nil))) (fun _ _ _ _ _ => (pg_tup rfl (pgs_cons (pg_name (i := 1) sc_is_standard.nd rfl (.inl rfl)) (pgs_cons (pg_name (i := 2) sc_is_standard.nd rfl (.inl rfl)) pgs_nil)))) (fun _ _ _ _ _ => (qYes _ _)) (fun _ _ _ _ _ => (qCm op_lt (lt_ii _) (qV (i := 1) rfl (.inl rfl)) (qV (i := 2) rfl (.inl rfl))))) qa0))))
def m_does_sort_row (F_is_ascending F_made_row : Fn) : VSt :=
  (vRet (vCall 1 F_is_ascending (vCons (vCall 2 F_made_row (vCons (vVar 0) (vCons (vVar 1) vNil))) vNil)))
theorem ok_does_sort_row (T : Txt K mg) {F_is_ascending F_made_row : Fn} (G_is_ascending : FnG P w K mg base 1 T.a_is_ascending T.d_is_ascending P_is_ascending F_is_ascending) (G_made_row : FnG P w K mg base 1 T.a_made_row T.d_made_row P_made_row F_made_row) : FnG P w K mg base 2 T.a_does_sort_row T.d_does_sort_row P_does_sort_row (mF 2 (m_does_sort_row F_is_ascending F_made_row)) :=
  fnG_of T.f_does_sort_row sc_does_sort_row fun cdv A outer s H E a =>
    (qsOne (qRet (qCall G_is_ascending (a.mono (by decide)) T.g_is_ascending T.k_is_ascending T.b_is_ascending (qa (qCall G_made_row (a.mono (by decide)) T.g_made_row T.k_made_row T.b_made_row (qa (qV (i := 0) rfl (.inl rfl)) (qa (qV (i := 1) rfl (.inl rfl)) qa0))) qa0))))
def T1_law_own_bag : VT :=
  (vTr (vOp aGt (vVar 3) (vOp dMul (vC (.int 2)) (vOp aPow (vC (.int 10)) (vC (.int 9))))))
def E1_law_own_bag : VE :=
  (vOp aFdv (vVar 3) (vC (.int 2)))
def C1_law_own_bag : VE :=
  (vLc (vRev (vBl bList (vCons (vVar 1) vNil))) [3] (pN 3) T1_law_own_bag E1_law_own_bag)
def B1_law_own_bag : VSt :=
  (vAsg (vOp aMod (vBl bInt (vCons (vOp dAdd (vOp dAdd (vOp dMul (vVar 2) (vC (.int 69621))) (vOp aMod (vBl bInt (vCons (vVar 3) vNil)) (vC (.int 2147483629)))) (vC (.int 17))) vNil)) (vC (.int 2147483647))) (gName 2))
def L1_law_own_bag : VSt :=
  (vFor (vIt (vVar 1)) (gP (pN 3)) B1_law_own_bag)
def E2_law_own_bag : VE :=
  (vIf (vTr (vOp aGe (vBl bInt (vCons (vVar 3) vNil)) (vC (.int 0)))) (vOp dMul (vBl bInt (vCons (vVar 3) vNil)) (vC (.int 2))) (vOp aSub (vC (.int 1)) (vOp dMul (vBl bInt (vCons (vVar 3) vNil)) (vC (.int 2)))))
def C2_law_own_bag : VE :=
  (vLc (vIt (vSl (vVar 0) oNone (oSome (vC (.int 63))))) [3] (pN 3) vYes E2_law_own_bag)
def m_law_own_bag : VSt :=
  (vSeq (vAsg C2_law_own_bag (gName 1))
    (vSeq (vAsg (vOp dAdd (vC (.int 918273)) (vOp dMul (vC (.int 31)) (vBl bLen (vCons (vVar 1) vNil)))) (gName 2))
    (vSeq L1_law_own_bag
    (vRet (vLst (vCons C1_law_own_bag (vCons (vC (.int 0)) (vCons (vVar 2) vNil))))))))
theorem ok_law_own_bag (T : Txt K mg) : FnG P w K mg base 1 T.a_law_own_bag T.d_law_own_bag P_law_own_bag (mF 4 (m_law_own_bag)) :=
  fnG_of T.f_law_own_bag sc_law_own_bag fun cdv A outer s H E a =>
    (qsCons (qSetLc (i := 1) (own := [("cell", 3)]) rfl sc_law_own_bag.nd rfl rfl (sw_true rfl rfl rfl (by decide +kernel)) (qIt (qSl (qV (i := 0) rfl (.inl rfl)) qo0 (qo qI))) (blkOk_by (N := N_law_own_bag) (sc := defScope s_law_own_bag) (own := [("cell", 3)]) (by decide +kernel)) (tgd_name (by decide)) (fun _ _ _ _ _ => (pg_name (i := 3) sc_law_own_bag.nd rfl (.inl rfl))) (fun _ _ _ _ _ => (qYes _ _)) (fun _ _ _ _ _ => (qIf (qCmT op_ge (ge_ii _) (qTy call_int1 (int_cd _) T.n_int (qa (qV (i := 3) rfl (.inl rfl)) qa0)) qI) (qOp mul_opr (mul_opd _) (qTy call_int1 (int_cd _) T.n_int (qa (qV (i := 3) rfl (.inl rfl)) qa0)) qI) (qOp op_sub (sub_ii _) qI (qOp mul_opr (mul_opd _) (qTy call_int1 (int_cd _) T.n_int (qa (qV (i := 3) rfl (.inl rfl)) qa0)) qI)))))
    (qsCons (qSet (i := 2) sc_law_own_bag.nd (qOp add_opr (add_opd _) qI (qOp mul_opr (mul_opd _) qI (qBl call_len (len_cd _) T.n_len (qa (qV (i := 1) rfl (.inl rfl)) qa0)))) rfl (.inl rfl))
    (qsCons (qFor a.ps rfl (qIt (qV (i := 1) rfl (.inl rfl))) (qgP (vs := [3]) (pg_name (i := 3) sc_law_own_bag.nd rfl (.inl rfl)) (tgd_name (by decide))) (qsOne (qSet (i := 2) sc_law_own_bag.nd (qOp op_modN (mod_ii _) (qTy call_int1 (int_cd _) T.n_int (qa (qOp add_opr (add_opd _) (qOp add_opr (add_opd _) (qOp mul_opr (mul_opd _) (qV (i := 2) rfl (.inl rfl)) qI) (qOp op_modN (mod_ii _) (qTy call_int1 (int_cd _) T.n_int (qa (qV (i := 3) rfl (.inl rfl)) qa0)) qI)) qI) qa0)) qI) rfl (.inl rfl))))
    (qsOne (qRet (qLst (qa (qLc (own := [("cell", 3)]) rfl sc_law_own_bag.nd (qRev T.n_reversed (qTy call_list_of (list_cd _) T.n_list (qa (qV (i := 1) rfl (.inl rfl)) qa0))) (blkOk_by (N := N_law_own_bag) (sc := defScope s_law_own_bag) (own := [("cell", 3)]) (by decide +kernel)) (tgd_name (by decide)) (fun _ _ _ _ _ => (pg_name (i := 3) sc_law_own_bag.nd rfl (.inl rfl))) (fun _ _ _ _ _ => (pts_one (qCmT op_gt (gt_ii _) (qV (i := 3) rfl (.inl rfl)) (qOp mul_opr (mul_opd _) qI (qOp op_powB (pow_ii _) qI qI))))) (fun _ _ _ _ _ => (qOp fdv_opr (fdv_ii _) (qV (i := 3) rfl (.inl rfl)) qI))) (qa qI (qa (qV (i := 2) rfl (.inl rfl)) qa0)))))))))
def S1_law_draw : VSt :=
  (vAsg (vOp aMod (vBl bInt (vCons (vOp dAdd (vOp dMul (vOp dIx (vVar 0) (vC (.int 2))) (vC (.int 48271))) (vC (.int 29))) vNil)) (vC (.int 2147483647))) (gSubs sLst (vVar 0) (vC (.int 2))))
def S2_law_draw : VSt :=
  (vIfS (vTr (vOp aGt (vOp dIx (vVar 0) (vC (.int 1))) (vC (.int 0)))) (vSeq (vAsg (vOp aMod (vBl bInt (vCons (vOp dIx (vVar 0) (vC (.int 1))) vNil)) (vVar 1)) (gName 2))
    (vSeq (vAsg (vOp aFdv (vBl bInt (vCons (vOp dIx (vVar 0) (vC (.int 1))) vNil)) (vVar 1)) (gSubs sLst (vVar 0) (vC (.int 1))))
    (vRet (vVar 2)))) vPass)
def S3_law_draw : VSt :=
  (vIfS (vAndT (vTr (vOp dEq (vOp dIx (vVar 0) (vC (.int 1))) (vC (.int 0)))) (vTr (vOp dNe (vOp dIx (vVar 0) (vC (.int 0))) (vLst vNil)))) (vAsg (vMt "list" mPop (vOp dIx (vVar 0) (vC (.int 0))) vNil) (gSubs sLst (vVar 0) (vC (.int 1)))) vPass)
def m_law_draw : VSt :=
  (vSeq S3_law_draw
    (vSeq S2_law_draw
    (vSeq S1_law_draw
    (vRet (vOp aMod (vBl bInt (vCons (vOp aFdv (vOp aMod (vBl bInt (vCons (vOp dMul (vOp dIx (vVar 0) (vC (.int 2))) (vOp dIx (vVar 0) (vC (.int 2)))) vNil)) (vC (.int 2147483629))) (vC (.int 11))) vNil)) (vVar 1))))))
theorem ok_law_draw (T : Txt K mg) : FnG P w K mg base 1 T.a_law_draw T.d_law_draw P_law_draw (mF 3 (m_law_draw)) :=
  fnG_of T.f_law_draw sc_law_draw fun cdv A outer s H E a =>
    (qsCons (qIfS (PW.pt (qAndT (qCmT (eq_opr a.hu) (eq_opd _) (qIx ix_seq (ix_opd _) (qV (i := 0) rfl (.inl rfl)) qI) qI) (qAnd1 (qCmT (ne_opr a.hu) (ne_opd _) (qIx ix_seq (ix_opd _) (qV (i := 0) rfl (.inl rfl)) qI) (qLst qa0))))) (qsOne (qAsg (qMt0 PySem.F.plainAttrs_list PySem.F.slot_list_pop PySem.F.type_list_pop mt_pop (pop_mtd _) (qIx ix_seq (ix_opd _) (qV (i := 0) rfl (.inl rfl)) qI)) (qgS set_list (lst_setd _) (qV (i := 0) rfl (.inl rfl)) qI))) qsNil)
    (qsCons (qIfS (qCmT op_gt (gt_ii _) (qIx ix_seq (ix_opd _) (qV (i := 0) rfl (.inl rfl)) qI) qI) (qsCons (qSet (i := 2) sc_law_draw.nd (qOp op_modN (mod_ii _) (qTy call_int1 (int_cd _) T.n_int (qa (qIx ix_seq (ix_opd _) (qV (i := 0) rfl (.inl rfl)) qI) qa0)) (qV (i := 1) rfl (.inl rfl))) rfl (.inl rfl))
    (qsCons (qAsg (qOp fdv_opr (fdv_ii _) (qTy call_int1 (int_cd _) T.n_int (qa (qIx ix_seq (ix_opd _) (qV (i := 0) rfl (.inl rfl)) qI) qa0)) (qV (i := 1) rfl (.inl rfl))) (qgS set_list (lst_setd _) (qV (i := 0) rfl (.inl rfl)) qI))
    (qsOne (qRet (qV (i := 2) rfl (.inl rfl)))))) qsNil)
    (qsCons (qAsg (qOp op_modN (mod_ii _) (qTy call_int1 (int_cd _) T.n_int (qa (qOp add_opr (add_opd _) (qOp mul_opr (mul_opd _) (qIx ix_seq (ix_opd _) (qV (i := 0) rfl (.inl rfl)) qI) qI) qI) qa0)) qI) (qgS set_list (lst_setd _) (qV (i := 0) rfl (.inl rfl)) qI))
    (qsOne (qRet (qOp op_modN (mod_ii _) (qTy call_int1 (int_cd _) T.n_int (qa (qOp fdv_opr (fdv_ii _) (qOp op_modN (mod_ii _) (qTy call_int1 (int_cd _) T.n_int (qa (qOp mul_opr (mul_opd _) (qIx ix_seq (ix_opd _) (qV (i := 0) rfl (.inl rfl)) qI) (qIx ix_seq (ix_opd _) (qV (i := 0) rfl (.inl rfl)) qI)) qa0)) qI) qI) qa0)) (qV (i := 1) rfl (.inl rfl))))))))
def m_law_pick (F_law_draw : Fn) : VSt :=
  (vRet (vOp dIx (vVar 1) (vCall 2 F_law_draw (vCons (vVar 0) (vCons (vBl bLen (vCons (vVar 1) vNil)) vNil)))))
theorem ok_law_pick (T : Txt K mg) {F_law_draw : Fn} (G_law_draw : FnG P w K mg base 1 T.a_law_draw T.d_law_draw P_law_draw F_law_draw) : FnG P w K mg base 2 T.a_law_pick T.d_law_pick P_law_pick (mF 2 (m_law_pick F_law_draw)) :=
  fnG_of T.f_law_pick sc_law_pick fun cdv A outer s H E a =>
    (qsOne (qRet (qIx ix_seq (ix_opd _) (qV (i := 1) rfl (.inl rfl)) (qCall G_law_draw (a.mono (by decide)) T.g_law_draw T.k_law_draw T.b_law_draw (qa (qV (i := 0) rfl (.inl rfl)) (qa (qBl call_len (len_cd _) T.n_len (qa (qV (i := 1) rfl (.inl rfl)) qa0)) qa0))))))
def m_law_pair (F_law_draw : Fn) : VSt :=
  (vSeq (vAsg (vCall 2 F_law_draw (vCons (vVar 0) (vCons (vVar 1) vNil))) (gName 2))
    (vRet (vTup (vCons (vVar 2) (vCons (vOp aMod (vBl bInt (vCons (vOp dAdd (vOp dAdd (vVar 2) (vC (.int 1))) (vCall 2 F_law_draw (vCons (vVar 0) (vCons (vOp aSub (vVar 1) (vC (.int 1))) vNil)))) vNil)) (vVar 1)) vNil)))))
theorem ok_law_pair (T : Txt K mg) {F_law_draw : Fn} (G_law_draw : FnG P w K mg base 1 T.a_law_draw T.d_law_draw P_law_draw F_law_draw) : FnG P w K mg base 2 T.a_law_pair T.d_law_pair P_law_pair (mF 3 (m_law_pair F_law_draw)) :=
  fnG_of T.f_law_pair sc_law_pair fun cdv A outer s H E a =>
    (qsCons (qSet (i := 2) sc_law_pair.nd (qCall G_law_draw (a.mono (by decide)) T.g_law_draw T.k_law_draw T.b_law_draw (qa (qV (i := 0) rfl (.inl rfl)) (qa (qV (i := 1) rfl (.inl rfl)) qa0))) rfl (.inl rfl))
    (qsOne (qRet (qTup (qa (qV (i := 2) rfl (.inl rfl)) (qa (qOp op_modN (mod_ii _) (qTy call_int1 (int_cd _) T.n_int (qa (qOp add_opr (add_opd _) (qOp add_opr (add_opd _) (qV (i := 2) rfl (.inl rfl)) qI) (qCall G_law_draw (a.mono (by decide)) T.g_law_draw T.k_law_draw T.b_law_draw (qa (qV (i := 0) rfl (.inl rfl)) (qa (qOp op_sub (sub_ii _) (qV (i := 1) rfl (.inl rfl)) qI) qa0)))) qa0)) (qV (i := 1) rfl (.inl rfl))) qa0))))))
def B1_law_great (F_law_draw : Fn) : VSt :=
  (vAsg (vOp dAdd (vOp dMul (vVar 1) (vOp aPow (vC (.int 10)) (vC (.int 7)))) (vCall 2 F_law_draw (vCons (vVar 0) (vCons (vOp aPow (vC (.int 10)) (vC (.int 7))) vNil)))) (gName 1))
def L1_law_great (F_law_draw : Fn) : VSt :=
  (vFor (vRng1 (vCons (vC (.int 5)) vNil)) (gP (pN 2)) (B1_law_great F_law_draw))
def m_law_great (F_law_draw : Fn) : VSt :=
  (vSeq (vAsg (vC (.int 0)) (gName 1))
    (vSeq (L1_law_great F_law_draw)
    (vRet (vOp aSub (vOp aMod (vBl bInt (vCons (vVar 1) vNil)) (vOp dAdd (vOp dMul (vC (.int 2)) (vOp aPow (vC (.int 10)) (vC (.int 30)))) (vC (.int 1)))) (vOp aPow (vC (.int 10)) (vC (.int 30)))))))
theorem ok_law_great (T : Txt K mg) {F_law_draw : Fn} (G_law_draw : FnG P w K mg base 1 T.a_law_draw T.d_law_draw P_law_draw F_law_draw) : FnG P w K mg base 2 T.a_law_great T.d_law_great P_law_great (mF 3 (m_law_great F_law_draw)) :=
  fnG_of T.f_law_great sc_law_great fun cdv A outer s H E a =>
    (qsCons (qSet (i := 1) sc_law_great.nd qI rfl (.inl rfl))
    (qsCons (qFor a.ps rfl (qRng1 T.n_range (qa qI qa0)) (qgP (vs := [2]) (pg_name (i := 2) sc_law_great.nd rfl (.inl rfl)) (tgd_name (by decide))) (qsOne (qSet (i := 1) sc_law_great.nd (qOp add_opr (add_opd _) (qOp mul_opr (mul_opd _) (qV (i := 1) rfl (.inl rfl)) (qOp op_powB (pow_ii _) qI qI)) (qCall G_law_draw (a.mono (by decide)) T.g_law_draw T.k_law_draw T.b_law_draw (qa (qV (i := 0) rfl (.inl rfl)) (qa (qOp op_powB (pow_ii _) qI qI) qa0)))) rfl (.inl rfl))))
    (qsOne (qRet (qOp op_sub (sub_ii _) (qOp op_modN (mod_ii _) (qTy call_int1 (int_cd _) T.n_int (qa (qV (i := 1) rfl (.inl rfl)) qa0)) (qOp add_opr (add_opd _) (qOp mul_opr (mul_opd _) qI (qOp op_powB (pow_ii _) qI qI)) qI)) (qOp op_powB (pow_ii _) qI qI))))))
def S1_law_row (F_law_draw F_law_great F_law_pick : Fn) : VSt :=
  (vIfS (vAndT (vTr (vOp dEq (vVar 2) (vC (.int 6)))) (vTr (vOp aGt (vVar 1) (vC (.int 1))))) (vSeq (vAsg (vCall 2 F_law_draw (vCons (vVar 0) (vCons (vOp aSub (vVar 1) (vC (.int 1))) vNil))) (gName 5))
    (vRet (vBl bTup (vCons (vOp dAdd (vOp dAdd (vSl (vVar 3) oNone (oSome (vVar 5))) (vLst (vCons (vOp dIx (vVar 3) (vOp dAdd (vVar 5) (vC (.int 1)))) (vCons (vOp dIx (vVar 3) (vVar 5)) vNil)))) (vSl (vVar 3) (oSome (vOp dAdd (vVar 5) (vC (.int 2)))) oNone)) vNil)))) vPass)
def S2_law_row (F_law_draw F_law_great F_law_pick : Fn) : VSt :=
  (vIfS (vTr (vOp aGt (vVar 2) (vC (.int 4)))) (vAsg (vBl bSorted (vCons (vVar 3) vNil)) (gName 3)) vPass)
def B1_law_row (F_law_draw F_law_great F_law_pick : Fn) : VSt :=
  (vIfS (vTr (vOp dEq (vVar 2) (vC (.int 0)))) (vDrop (vMt "list" mAppend (vVar 3) (vCons (vCall 2 F_law_draw (vCons (vVar 0) (vCons (vC (.int 2)) vNil))) vNil))) (vIfS (vTr (vOp dEq (vVar 2) (vC (.int 1)))) (vDrop (vMt "list" mAppend (vVar 3) (vCons (vOp aSub (vCall 2 F_law_draw (vCons (vVar 0) (vCons (vC (.int 5)) vNil))) (vC (.int 2))) vNil))) (vIfS (vTr (vOp dEq (vVar 2) (vC (.int 2)))) (vDrop (vMt "list" mAppend (vVar 3) (vCons (vCall 1 F_law_great (vCons (vVar 0) vNil)) vNil))) (vIfS (vTr (vOp dEq (vVar 2) (vC (.int 3)))) (vDrop (vMt "list" mAppend (vVar 3) (vCons (vCall 2 F_law_pick (vCons (vVar 0) (vCons (vLst (vCons (vOp aPow (vC (.int 10)) (vC (.int 30))) (vCons (vUn uNeg (vOp aPow (vC (.int 10)) (vC (.int 30)))) (vCons (vOp aSub (vOp aPow (vC (.int 10)) (vC (.int 30))) (vC (.int 1))) (vCons (vOp aSub (vC (.int 1)) (vOp aPow (vC (.int 10)) (vC (.int 30)))) (vCons (vC (.int 0)) (vCons (vOp aSub (vC (.int 2)) (vOp aPow (vC (.int 10)) (vC (.int 30)))) vNil))))))) vNil))) vNil))) (vIfS (vTr (vOp dEq (vVar 2) (vC (.int 4)))) (vDrop (vMt "list" mAppend (vVar 3) (vCons (vMt "list" mPopI (vVar 4) (vCons (vCall 2 F_law_draw (vCons (vVar 0) (vCons (vBl bLen (vCons (vVar 4) vNil)) vNil))) vNil)) vNil))) (vDrop (vMt "list" mAppend (vVar 3) (vCons (vOp aSub (vCall 2 F_law_draw (vCons (vVar 0) (vCons (vC (.int 40)) vNil))) (vC (.int 20))) vNil))))))))
def L1_law_row (F_law_draw F_law_great F_law_pick : Fn) : VSt :=
  (vFor (vRng1 (vCons (vVar 1) vNil)) (gP (pN 5)) (B1_law_row F_law_draw F_law_great F_law_pick))
def S3_law_row (F_law_draw F_law_great F_law_pick : Fn) : VSt :=
  (vPar3 2 3 4 (vCons (vCall 2 F_law_draw (vCons (vVar 0) (vCons (vC (.int 7)) vNil))) (vCons (vLst vNil) (vCons (vLR1 (vVar 1)) vNil))))
def m_law_row (F_law_draw F_law_great F_law_pick : Fn) : VSt :=
  (vSeq (S3_law_row F_law_draw F_law_great F_law_pick)
    (vSeq (L1_law_row F_law_draw F_law_great F_law_pick)
    (vSeq (S2_law_row F_law_draw F_law_great F_law_pick)
    (vSeq (S1_law_row F_law_draw F_law_great F_law_pick)
    (vRet (vBl bTup (vCons (vVar 3) vNil)))))))
theorem ok_law_row (T : Txt K mg) {F_law_draw F_law_great F_law_pick : Fn} (G_law_draw : FnG P w K mg base 1 T.a_law_draw T.d_law_draw P_law_draw F_law_draw) (G_law_great : FnG P w K mg base 2 T.a_law_great T.d_law_great P_law_great F_law_great) (G_law_pick : FnG P w K mg base 2 T.a_law_pick T.d_law_pick P_law_pick F_law_pick) : FnG P w K mg base 3 T.a_law_row T.d_law_row P_law_row (mF 6 (m_law_row F_law_draw F_law_great F_law_pick)) :=
  fnG_of T.f_law_row sc_law_row fun cdv A outer s H E a =>
    (qsCons (qPar3 (i := 2) (j := 3) (l := 4) rfl sc_law_row.nd (qa (qCall G_law_draw (a.mono (by decide)) T.g_law_draw T.k_law_draw T.b_law_draw (qa (qV (i := 0) rfl (.inl rfl)) (qa qI qa0))) (qa (qLst qa0) (qa (qLR1 rfl T.n_list T.n_range (qV (i := 1) rfl (.inl rfl))) qa0))))
    (qsCons (qFor a.ps rfl (qRng1 T.n_range (qa (qV (i := 1) rfl (.inl rfl)) qa0)) (qgP (vs := [5]) (pg_name (i := 5) sc_law_row.nd rfl (.inl rfl)) (tgd_name (by decide))) (qsOne (qIfS (qCmT (eq_opr a.hu) (eq_opd _) (qV (i := 2) rfl (.inl rfl)) qI) (qsOne (qDrop (qMt PySem.F.plainAttrs_list PySem.F.slot_list_append PySem.F.type_list_append mt_append (append_mtd _) (qV (i := 3) rfl (.inl rfl)) (qa (qCall G_law_draw (a.mono (by decide)) T.g_law_draw T.k_law_draw T.b_law_draw (qa (qV (i := 0) rfl (.inl rfl)) (qa qI qa0))) qa0)))) (qsOne (qIfS (qCmT (eq_opr a.hu) (eq_opd _) (qV (i := 2) rfl (.inl rfl)) qI) (qsOne (qDrop (qMt PySem.F.plainAttrs_list PySem.F.slot_list_append PySem.F.type_list_append mt_append (append_mtd _) (qV (i := 3) rfl (.inl rfl)) (qa (qOp op_sub (sub_ii _) (qCall G_law_draw (a.mono (by decide)) T.g_law_draw T.k_law_draw T.b_law_draw (qa (qV (i := 0) rfl (.inl rfl)) (qa qI qa0))) qI) qa0)))) (qsOne (qIfS (qCmT (eq_opr a.hu) (eq_opd _) (qV (i := 2) rfl (.inl rfl)) qI) (qsOne (qDrop (qMt PySem.F.plainAttrs_list PySem.F.slot_list_append PySem.F.type_list_append mt_append (append_mtd _) (qV (i := 3) rfl (.inl rfl)) (qa (qCall G_law_great (a.mono (by decide)) T.g_law_great T.k_law_great T.b_law_great (qa (qV (i := 0) rfl (.inl rfl)) qa0)) qa0)))) (qsOne (qIfS (qCmT (eq_opr a.hu) (eq_opd _) (qV (i := 2) rfl (.inl rfl)) qI) (qsOne (qDrop (qMt PySem.F.plainAttrs_list PySem.F.slot_list_append PySem.F.type_list_append mt_append (append_mtd _) (qV (i := 3) rfl (.inl rfl)) (qa (qCall G_law_pick (a.mono (by decide)) T.g_law_pick T.k_law_pick T.b_law_pick (qa (qV (i := 0) rfl (.inl rfl)) (qa (qLst (qa (qOp op_powB (pow_ii _) qI qI) (qa (qUn un_neg (neg_un _) (qOp op_powB (pow_ii _) qI qI)) (qa (qOp op_sub (sub_ii _) (qOp op_powB (pow_ii _) qI qI) qI) (qa (qOp op_sub (sub_ii _) qI (qOp op_powB (pow_ii _) qI qI)) (qa qI (qa (qOp op_sub (sub_ii _) qI (qOp op_powB (pow_ii _) qI qI)) qa0))))))) qa0))) qa0)))) (qsOne (qIfS (qCmT (eq_opr a.hu) (eq_opd _) (qV (i := 2) rfl (.inl rfl)) qI) (qsOne (qDrop (qMt PySem.F.plainAttrs_list PySem.F.slot_list_append PySem.F.type_list_append mt_append (append_mtd _) (qV (i := 3) rfl (.inl rfl)) (qa (qMt PySem.F.plainAttrs_list PySem.F.slot_list_pop PySem.F.type_list_pop mt_popAt (popI_mtd _) (qV (i := 4) rfl (.inl rfl)) (qa (qCall G_law_draw (a.mono (by decide)) T.g_law_draw T.k_law_draw T.b_law_draw (qa (qV (i := 0) rfl (.inl rfl)) (qa (qBl call_len (len_cd _) T.n_len (qa (qV (i := 4) rfl (.inl rfl)) qa0)) qa0))) qa0)) qa0)))) (qsOne (qDrop (qMt PySem.F.plainAttrs_list PySem.F.slot_list_append PySem.F.type_list_append mt_append (append_mtd _) (qV (i := 3) rfl (.inl rfl)) (qa (qOp op_sub (sub_ii _) (qCall G_law_draw (a.mono (by decide)) T.g_law_draw T.k_law_draw T.b_law_draw (qa (qV (i := 0) rfl (.inl rfl)) (qa qI qa0))) qI) qa0)))))))))))))))
    (qsCons (qIfS (qCmT op_gt (gt_ii _) (qV (i := 2) rfl (.inl rfl)) qI) (qsOne (qSet (i := 3) sc_law_row.nd (qBl cr_sorted2 (sorted_cd _) T.n_sorted (qa (qV (i := 3) rfl (.inl rfl)) qa0)) rfl (.inl rfl))) qsNil)
    (qsCons (qIfS (PW.pt (qAndT (qCmT (eq_opr a.hu) (eq_opd _) (qV (i := 2) rfl (.inl rfl)) qI) (qAnd1 (qCmT op_gt (gt_ii _) (qV (i := 1) rfl (.inl rfl)) qI)))) (qsCons (qSet (i := 5) sc_law_row.nd (qCall G_law_draw (a.mono (by decide)) T.g_law_draw T.k_law_draw T.b_law_draw (qa (qV (i := 0) rfl (.inl rfl)) (qa (qOp op_sub (sub_ii _) (qV (i := 1) rfl (.inl rfl)) qI) qa0))) rfl (.inl rfl))
    (qsOne (qRet (qTy call_tuple_of (tup_cd _) T.n_tuple (qa (qOp add_opr (add_opd _) (qOp add_opr (add_opd _) (qSl (qV (i := 3) rfl (.inl rfl)) qo0 (qo (qV (i := 5) rfl (.inl rfl)))) (qLst (qa (qIx ix_seq (ix_opd _) (qV (i := 3) rfl (.inl rfl)) (qOp add_opr (add_opd _) (qV (i := 5) rfl (.inl rfl)) qI)) (qa (qIx ix_seq (ix_opd _) (qV (i := 3) rfl (.inl rfl)) (qV (i := 5) rfl (.inl rfl))) qa0)))) (qSl (qV (i := 3) rfl (.inl rfl)) (qo (qOp add_opr (add_opd _) (qV (i := 5) rfl (.inl rfl)) qI)) qo0)) qa0))))) qsNil)
    (qsOne (qRet (qTy call_tuple_of (tup_cd _) T.n_tuple (qa (qV (i := 3) rfl (.inl rfl)) qa0))))))))
def B1_law_made : VSt :=
  (vIfS (vTr (vOp aLt (vOp dIx (vVar 2) (vVar 4)) (vOp dIx (vVar 2) (vVar 3)))) (vSeq (vAsg (vOp dIx (vVar 2) (vVar 3)) (gName 5))
    (vSeq (vAsg (vOp dIx (vVar 2) (vVar 4)) (gSubs sLst (vVar 2) (vVar 3)))
    (vAsg (vVar 5) (gSubs sLst (vVar 2) (vVar 4))))) vPass)
def L1_law_made : VSt :=
  (vFor (vIt (vVar 0)) (gP (pTup 2 (psCons (pN 3) (psCons (pN 4) psNil)))) B1_law_made)
def m_law_made : VSt :=
  (vSeq (vAsg (vBl bList (vCons (vVar 1) vNil)) (gName 2))
    (vSeq L1_law_made
    (vRet (vBl bTup (vCons (vVar 2) vNil)))))
theorem ok_law_made (T : Txt K mg) : FnG P w K mg base 1 T.a_law_made T.d_law_made P_law_made (mF 6 (m_law_made)) :=
  fnG_of T.f_law_made sc_law_made fun cdv A outer s H E a =>
    (qsCons (qSet (i := 2) sc_law_made.nd (qTy call_list_of (list_cd _) T.n_list (qa (qV (i := 1) rfl (.inl rfl)) qa0)) rfl (.inl rfl))
    (qsCons (qFor a.ps rfl (qIt (qV (i := 0) rfl (.inl rfl))) (qgP (vs := [3, 4]) (pg_tup rfl (pgs_cons (pg_name (i := 3) sc_law_made.nd rfl (.inl rfl)) (pgs_cons (pg_name (i := 4) sc_law_made.nd rfl (.inl rfl)) pgs_nil))) (tgd_tup (tgsd_cons (tgd_name (by decide)) (tgsd_cons (tgd_name (by decide)) tgsd_nil)))) (qsOne (qIfS (qCmT op_lt (lt_ii _) (qIx ix_seq (ix_opd _) (qV (i := 2) rfl (.inl rfl)) (qV (i := 4) rfl (.inl rfl))) (qIx ix_seq (ix_opd _) (qV (i := 2) rfl (.inl rfl)) (qV (i := 3) rfl (.inl rfl)))) (qsCons (qSet (i := 5) sc_law_made.nd (qIx ix_seq (ix_opd _) (qV (i := 2) rfl (.inl rfl)) (qV (i := 3) rfl (.inl rfl))) rfl (.inl rfl))
    (qsCons (qAsg (qIx ix_seq (ix_opd _) (qV (i := 2) rfl (.inl rfl)) (qV (i := 4) rfl (.inl rfl))) (qgS set_list (lst_setd _) (qV (i := 2) rfl (.inl rfl)) (qV (i := 3) rfl (.inl rfl))))
    (qsOne (qAsg (qV (i := 5) rfl (.inl rfl)) (qgS set_list (lst_setd _) (qV (i := 2) rfl (.inl rfl)) (qV (i := 4) rfl (.inl rfl))))))) qsNil)))
    (qsOne (qRet (qTy call_tuple_of (tup_cd _) T.n_tuple (qa (qV (i := 2) rfl (.inl rfl)) qa0))))))
def E1_law_ascends : VE :=
  (vOp aLe (vOp dIx (vVar 0) (vVar 1)) (vOp dIx (vVar 0) (vOp dAdd (vVar 1) (vC (.int 1)))))
def C1_law_ascends : VE :=
  (vLc (vRng1 (vCons (vOp aSub (vBl bLen (vCons (vVar 0) vNil)) (vC (.int 1))) vNil)) [1] (pN 1) vYes E1_law_ascends)
def m_law_ascends : VSt :=
  (vRet (vBl bAll (vCons C1_law_ascends vNil)))
theorem ok_law_ascends (T : Txt K mg) : FnG P w K mg base 1 T.a_law_ascends T.d_law_ascends P_law_ascends (mF 2 (m_law_ascends)) :=
  fnG_of T.f_law_ascends sc_law_ascends fun cdv A outer s H E a =>
    (qsOne (qRet (qBl (cr_all rfl) (all_cd _) T.n_all (qa (qLc (own := [("k", 1)]) rfl sc_law_ascends.nd (qRng1 T.n_range (qa (qOp op_sub (sub_ii _) (qBl call_len (len_cd _) T.n_len (qa (qV (i := 0) rfl (.inr (.inl rfl))) qa0)) qI) qa0)) (blkOk_by (N := N_law_ascends) (sc := defScope s_law_ascends) (own := [("k", 1)]) (by decide +kernel)) (tgd_name (by decide)) (fun _ _ _ _ _ => (pg_name (i := 1) sc_law_ascends.nd rfl (.inl rfl))) (fun _ _ _ _ _ => (qYes _ _)) (fun _ _ _ _ _ => (qCm op_le (le_ii _) (qIx ix_seq (ix_opd _) (qV (i := 0) rfl (.inr (.inl rfl))) (qV (i := 1) rfl (.inl rfl))) (qIx ix_seq (ix_opd _) (qV (i := 0) rfl (.inr (.inl rfl))) (qOp add_opr (add_opd _) (qV (i := 1) rfl (.inl rfl)) qI))))) qa0))))
def S1_law_net (F_law_pick F_law_draw F_law_pair : Fn) : VSt :=
  (vIfS (vAndT (vTr (vOp dEq (vVar 3) (vC (.int 1)))) (vTr (vOp dNe (vVar 4) (vLst vNil)))) (vSeq (vAsg (vCall 2 F_law_pick (vCons (vVar 0) (vCons (vLst (vCons (vOp aSub (vBl bLen (vCons (vVar 4) vNil)) (vC (.int 1))) (vCons (vCall 2 F_law_draw (vCons (vVar 0) (vCons (vBl bLen (vCons (vVar 4) vNil)) vNil))) vNil))) vNil))) (gName 8))
    (vAsg (vTup (vCons (vOp dIx (vOp dIx (vVar 4) (vVar 8)) (vC (.int 1))) (vCons (vOp dIx (vOp dIx (vVar 4) (vVar 8)) (vC (.int 0))) vNil))) (gSubs sLst (vVar 4) (vVar 8)))) vPass)
def B1_law_net (F_law_pick F_law_draw F_law_pair : Fn) : VSt :=
  (vSeq (vAsg (vCall 2 F_law_pair (vCons (vVar 0) (vCons (vVar 1) vNil))) (gTupl 2 (gsCons (gName 6) (gsCons (gName 7) gsNil))))
    (vIfS (vTr (vOp aLt (vVar 3) (vC (.int 2)))) (vDrop (vMt "list" mAppend (vVar 4) (vCons (vTup (vCons (vBl bMin (vCons (vVar 6) (vCons (vVar 7) vNil))) (vCons (vBl bMax (vCons (vVar 6) (vCons (vVar 7) vNil))) vNil))) vNil))) (vDrop (vMt "list" mAppend (vVar 4) (vCons (vIf (vTr (vOp dEq (vVar 3) (vC (.int 2)))) (vTup (vCons (vBl bMax (vCons (vVar 6) (vCons (vVar 7) vNil))) (vCons (vBl bMin (vCons (vVar 6) (vCons (vVar 7) vNil))) vNil))) (vTup (vCons (vVar 6) (vCons (vVar 7) vNil)))) vNil)))))
def L1_law_net (F_law_pick F_law_draw F_law_pair : Fn) : VSt :=
  (vFor (vRng1 (vCons (vVar 2) vNil)) (gP (pN 5)) (B1_law_net F_law_pick F_law_draw F_law_pair))
def S2_law_net (F_law_pick F_law_draw F_law_pair : Fn) : VSt :=
  (vAsg (vLst vNil) (gName 4))
def m_law_net (F_law_pick F_law_draw F_law_pair : Fn) : VSt :=
  (vSeq (S2_law_net F_law_pick F_law_draw F_law_pair)
    (vSeq (L1_law_net F_law_pick F_law_draw F_law_pair)
    (vSeq (S1_law_net F_law_pick F_law_draw F_law_pair)
    (vRet (vBl bTup (vCons (vVar 4) vNil))))))
theorem ok_law_net (T : Txt K mg) {F_law_pick F_law_draw F_law_pair : Fn} (G_law_pick : FnG P w K mg base 2 T.a_law_pick T.d_law_pick P_law_pick F_law_pick) (G_law_draw : FnG P w K mg base 1 T.a_law_draw T.d_law_draw P_law_draw F_law_draw) (G_law_pair : FnG P w K mg base 2 T.a_law_pair T.d_law_pair P_law_pair F_law_pair) : FnG P w K mg base 3 T.a_law_net T.d_law_net P_law_net (mF 9 (m_law_net F_law_pick F_law_draw F_law_pair)) :=
  fnG_of T.f_law_net sc_law_net fun cdv A outer s H E a =>
    (qsCons (qSet (i := 4) sc_law_net.nd (qLst qa0) rfl (.inl rfl))
    (qsCons (qFor a.ps rfl (qRng1 T.n_range (qa (qV (i := 2) rfl (.inl rfl)) qa0)) (qgP (vs := [5]) (pg_name (i := 5) sc_law_net.nd rfl (.inl rfl)) (tgd_name (by decide))) (qsCons (qAsg (qCall G_law_pair (a.mono (by decide)) T.g_law_pair T.k_law_pair T.b_law_pair (qa (qV (i := 0) rfl (.inl rfl)) (qa (qV (i := 1) rfl (.inl rfl)) qa0))) (qgT rfl (qgs (qgN (i := 6) sc_law_net.nd rfl (.inl rfl)) (qgs (qgN (i := 7) sc_law_net.nd rfl (.inl rfl)) qgs0))))
    (qsOne (qIfS (qCmT op_lt (lt_ii _) (qV (i := 3) rfl (.inl rfl)) qI) (qsOne (qDrop (qMt PySem.F.plainAttrs_list PySem.F.slot_list_append PySem.F.type_list_append mt_append (append_mtd _) (qV (i := 4) rfl (.inl rfl)) (qa (qTup (qa (qBl (cr_minS rfl) (min_cd _) T.n_min (qa (qV (i := 6) rfl (.inl rfl)) (qa (qV (i := 7) rfl (.inl rfl)) qa0))) (qa (qBl (cr_maxS rfl) (max_cd _) T.n_max (qa (qV (i := 6) rfl (.inl rfl)) (qa (qV (i := 7) rfl (.inl rfl)) qa0))) qa0))) qa0)))) (qsOne (qDrop (qMt PySem.F.plainAttrs_list PySem.F.slot_list_append PySem.F.type_list_append mt_append (append_mtd _) (qV (i := 4) rfl (.inl rfl)) (qa (qIf (qCmT (eq_opr a.hu) (eq_opd _) (qV (i := 3) rfl (.inl rfl)) qI) (qTup (qa (qBl (cr_maxS rfl) (max_cd _) T.n_max (qa (qV (i := 6) rfl (.inl rfl)) (qa (qV (i := 7) rfl (.inl rfl)) qa0))) (qa (qBl (cr_minS rfl) (min_cd _) T.n_min (qa (qV (i := 6) rfl (.inl rfl)) (qa (qV (i := 7) rfl (.inl rfl)) qa0))) qa0))) (qTup (qa (qV (i := 6) rfl (.inl rfl)) (qa (qV (i := 7) rfl (.inl rfl)) qa0)))) qa0))))))))
    (qsCons (qIfS (PW.pt (qAndT (qCmT (eq_opr a.hu) (eq_opd _) (qV (i := 3) rfl (.inl rfl)) qI) (qAnd1 (qCmT (ne_opr a.hu) (ne_opd _) (qV (i := 4) rfl (.inl rfl)) (qLst qa0))))) (qsCons (qSet (i := 8) sc_law_net.nd (qCall G_law_pick (a.mono (by decide)) T.g_law_pick T.k_law_pick T.b_law_pick (qa (qV (i := 0) rfl (.inl rfl)) (qa (qLst (qa (qOp op_sub (sub_ii _) (qBl call_len (len_cd _) T.n_len (qa (qV (i := 4) rfl (.inl rfl)) qa0)) qI) (qa (qCall G_law_draw (a.mono (by decide)) T.g_law_draw T.k_law_draw T.b_law_draw (qa (qV (i := 0) rfl (.inl rfl)) (qa (qBl call_len (len_cd _) T.n_len (qa (qV (i := 4) rfl (.inl rfl)) qa0)) qa0))) qa0))) qa0))) rfl (.inl rfl))
    (qsOne (qAsg (qTup (qa (qIx ix_seq (ix_opd _) (qIx ix_seq (ix_opd _) (qV (i := 4) rfl (.inl rfl)) (qV (i := 8) rfl (.inl rfl))) qI) (qa (qIx ix_seq (ix_opd _) (qIx ix_seq (ix_opd _) (qV (i := 4) rfl (.inl rfl)) (qV (i := 8) rfl (.inl rfl))) qI) qa0))) (qgS set_list (lst_setd _) (qV (i := 4) rfl (.inl rfl)) (qV (i := 8) rfl (.inl rfl)))))) qsNil)
    (qsOne (qRet (qTy call_tuple_of (tup_cd _) T.n_tuple (qa (qV (i := 4) rfl (.inl rfl)) qa0)))))))
def S1_law_some_net (F_law_net F_law_draw F_law_pick : Fn) : VSt :=
  (vAsg (vCall 2 F_law_pick (vCons (vVar 0) (vCons (vLst (vCons (vC (.int 0)) (vCons (vC (.int 1)) (vCons (vOp dAdd (vC (.int 2)) (vCall 2 F_law_draw (vCons (vVar 0) (vCons (vC (.int 8)) vNil)))) (vCons (vCall 2 F_law_draw (vCons (vVar 0) (vCons (vC (.int 61)) vNil))) (vCons (vC (.int 60)) vNil)))))) vNil))) (gName 2))
def S2_law_some_net (F_law_net F_law_draw F_law_pick : Fn) : VSt :=
  (vIfS (vTr (vOp aLt (vVar 1) (vC (.int 2)))) (vRet (vTup vNil)) vPass)
def m_law_some_net (F_law_net F_law_draw F_law_pick : Fn) : VSt :=
  (vSeq (S2_law_some_net F_law_net F_law_draw F_law_pick)
    (vSeq (S1_law_some_net F_law_net F_law_draw F_law_pick)
    (vRet (vCall 4 F_law_net (vCons (vVar 0) (vCons (vVar 1) (vCons (vVar 2) (vCons (vCall 2 F_law_draw (vCons (vVar 0) (vCons (vC (.int 5)) vNil))) vNil))))))))
theorem ok_law_some_net (T : Txt K mg) {F_law_net F_law_draw F_law_pick : Fn} (G_law_net : FnG P w K mg base 3 T.a_law_net T.d_law_net P_law_net F_law_net) (G_law_draw : FnG P w K mg base 1 T.a_law_draw T.d_law_draw P_law_draw F_law_draw) (G_law_pick : FnG P w K mg base 2 T.a_law_pick T.d_law_pick P_law_pick F_law_pick) : FnG P w K mg base 4 T.a_law_some_net T.d_law_some_net P_law_some_net (mF 3 (m_law_some_net F_law_net F_law_draw F_law_pick)) :=
  fnG_of T.f_law_some_net sc_law_some_net fun cdv A outer s H E a =>
    (qsCons (qIfS (qCmT op_lt (lt_ii _) (qV (i := 1) rfl (.inl rfl)) qI) (qsOne (qRet (qTup qa0))) qsNil)
    (qsCons (qSet (i := 2) sc_law_some_net.nd (qCall G_law_pick (a.mono (by decide)) T.g_law_pick T.k_law_pick T.b_law_pick (qa (qV (i := 0) rfl (.inl rfl)) (qa (qLst (qa qI (qa qI (qa (qOp add_opr (add_opd _) qI (qCall G_law_draw (a.mono (by decide)) T.g_law_draw T.k_law_draw T.b_law_draw (qa (qV (i := 0) rfl (.inl rfl)) (qa qI qa0)))) (qa (qCall G_law_draw (a.mono (by decide)) T.g_law_draw T.k_law_draw T.b_law_draw (qa (qV (i := 0) rfl (.inl rfl)) (qa qI qa0))) (qa qI qa0)))))) qa0))) rfl (.inl rfl))
    (qsOne (qRet (qCall G_law_net (a.mono (by decide)) T.g_law_net T.k_law_net T.b_law_net (qa (qV (i := 0) rfl (.inl rfl)) (qa (qV (i := 1) rfl (.inl rfl)) (qa (qV (i := 2) rfl (.inl rfl)) (qa (qCall G_law_draw (a.mono (by decide)) T.g_law_draw T.k_law_draw T.b_law_draw (qa (qV (i := 0) rfl (.inl rfl)) (qa qI qa0))) qa0)))))))))
def S1_law_is_run_right (F_is_ascending F_row_error F_made_row F_is_standard F_does_sort_row F_net_error F_law_ascends F_law_made : Fn) : VSt :=
  (vIfS (vOrT (vTr (vOp dNe (vVar 9) (vOp dMul (vLst (vCons (vVar 8) vNil)) (vC (.int 4))))) (vTr (vOp dNe (vBl bReprD (vCons (vLst (vCons (vCall 2 F_row_error (vCons (vVar 0) (vCons (vVar 12) vNil))) (vCons (vCall 1 F_is_ascending (vCons (vVar 12) vNil)) vNil))) vNil)) (vBl bReprD (vCons (vLst (vCons (vC .non) (vCons (vVar 5) vNil))) vNil))))) (vRet (vC (.bl false))) vPass)
def S2_law_is_run_right (F_is_ascending F_row_error F_made_row F_is_standard F_does_sort_row F_net_error F_law_ascends F_law_made : Fn) : VSt :=
  (vAsg (vCall 2 F_made_row (vCons (vVar 1) (vCons (vVar 2) vNil))) (gName 12))
def B1_law_is_run_right (F_is_ascending F_row_error F_made_row F_is_standard F_does_sort_row F_net_error F_law_ascends F_law_made : Fn) : VSt :=
  (vSeq (vAsg (vLst (vCons (vCall 2 F_net_error (vCons (vVar 0) (vCons (vVar 1) vNil))) (vCons (vCall 2 F_row_error (vCons (vVar 0) (vCons (vVar 2) vNil))) (vCons (vCall 2 F_made_row (vCons (vVar 1) (vCons (vVar 2) vNil))) (vCons (vCall 2 F_does_sort_row (vCons (vVar 1) (vCons (vVar 2) vNil))) vNil))))) (gName 11))
    (vSeq (vDrop (vMt "list" mAppend (vVar 9) (vCons (vBl bReprD (vCons (vOp dAdd (vVar 11) (vLst (vCons (vCall 1 F_is_ascending (vCons (vVar 2) vNil)) (vCons (vCall 1 F_is_ascending (vCons (vVar 3) vNil)) (vCons (vCall 1 F_is_standard (vCons (vVar 1) vNil)) vNil))))) vNil)) vNil)))
    (vSeq (vAsg (vLst (vCons (vCallK 2 F_net_error (kwP 0 2 2 [1, 0]) vNil (vCons (vVar 1) (vCons (vVar 0) vNil))) (vCons (vCallK 2 F_row_error (kwP 0 2 2 [1, 0]) vNil (vCons (vVar 2) (vCons (vVar 0) vNil))) (vCons (vCallK 2 F_made_row (kwP 0 2 2 [1, 0]) vNil (vCons (vVar 2) (vCons (vVar 1) vNil))) vNil)))) (gName 11))
    (vSeq (vAsg (vOp dAdd (vVar 11) (vLst (vCons (vCallK 2 F_does_sort_row (kwP 0 2 2 [1, 0]) vNil (vCons (vVar 2) (vCons (vVar 1) vNil))) (vCons (vCallK 1 F_is_ascending (kwP 0 1 1 [0]) vNil (vCons (vVar 2) vNil)) (vCons (vCallK 1 F_is_ascending (kwP 0 1 1 [0]) vNil (vCons (vVar 3) vNil)) vNil))))) (gName 11))
    (vDrop (vMt "list" mAppend (vVar 9) (vCons (vBl bReprD (vCons (vOp dAdd (vVar 11) (vLst (vCons (vCallK 1 F_is_standard (kwP 0 1 1 [0]) vNil (vCons (vVar 1) vNil)) vNil))) vNil)) vNil)))))))
def L1_law_is_run_right (F_is_ascending F_row_error F_made_row F_is_standard F_does_sort_row F_net_error F_law_ascends F_law_made : Fn) : VSt :=
  (vFor (vRng1 (vCons (vC (.int 2)) vNil)) (gP (pN 10)) (B1_law_is_run_right F_is_ascending F_row_error F_made_row F_is_standard F_does_sort_row F_net_error F_law_ascends F_law_made))
def S3_law_is_run_right (F_is_ascending F_row_error F_made_row F_is_standard F_does_sort_row F_net_error F_law_ascends F_law_made : Fn) : VSt :=
  (vAsg (vLst vNil) (gName 9))
def S4_law_is_run_right (F_is_ascending F_row_error F_made_row F_is_standard F_does_sort_row F_net_error F_law_ascends F_law_made : Fn) : VSt :=
  (vAsg (vBl bReprD (vCons (vLst (vCons (vC .non) (vCons (vC .non) (vCons (vVar 3) (vCons (vVar 5) (vCons (vVar 6) (vCons (vVar 5) (vCons (vVar 7) vNil)))))))) vNil)) (gName 8))
def E1_law_is_run_right (F_is_ascending F_row_error F_made_row F_is_standard F_does_sort_row F_net_error F_law_ascends F_law_made : Fn) : VE :=
  (vOp aLt (vVar 13) (vVar 14))
def C1_law_is_run_right (F_is_ascending F_row_error F_made_row F_is_standard F_does_sort_row F_net_error F_law_ascends F_law_made : Fn) : VE :=
  (vLc (vIt (vVar 1)) [13, 14] (pTup 2 (psCons (pN 13) (psCons (pN 14) psNil))) vYes (E1_law_is_run_right F_is_ascending F_row_error F_made_row F_is_standard F_does_sort_row F_net_error F_law_ascends F_law_made))
def S5_law_is_run_right (F_is_ascending F_row_error F_made_row F_is_standard F_does_sort_row F_net_error F_law_ascends F_law_made : Fn) : VSt :=
  (vAsg (vBl bAll (vCons (C1_law_is_run_right F_is_ascending F_row_error F_made_row F_is_standard F_does_sort_row F_net_error F_law_ascends F_law_made) vNil)) (gName 7))
def S6_law_is_run_right (F_is_ascending F_row_error F_made_row F_is_standard F_does_sort_row F_net_error F_law_ascends F_law_made : Fn) : VSt :=
  (vPar 5 6 (vCons (vCall 1 F_law_ascends (vCons (vVar 3) vNil)) (vCons (vCall 1 F_law_ascends (vCons (vVar 2) vNil)) vNil)))
def S7_law_is_run_right (F_is_ascending F_row_error F_made_row F_is_standard F_does_sort_row F_net_error F_law_ascends F_law_made : Fn) : VSt :=
  (vPar 3 4 (vCons (vCall 2 F_law_made (vCons (vVar 1) (vCons (vVar 2) vNil))) (vCons (vBl bReprD (vCons (vLst (vCons (vVar 1) (vCons (vVar 2) vNil))) vNil)) vNil)))
def m_law_is_run_right (F_is_ascending F_row_error F_made_row F_is_standard F_does_sort_row F_net_error F_law_ascends F_law_made : Fn) : VSt :=
  (vSeq (S7_law_is_run_right F_is_ascending F_row_error F_made_row F_is_standard F_does_sort_row F_net_error F_law_ascends F_law_made)
    (vSeq (S6_law_is_run_right F_is_ascending F_row_error F_made_row F_is_standard F_does_sort_row F_net_error F_law_ascends F_law_made)
    (vSeq (S5_law_is_run_right F_is_ascending F_row_error F_made_row F_is_standard F_does_sort_row F_net_error F_law_ascends F_law_made)
    (vSeq (S4_law_is_run_right F_is_ascending F_row_error F_made_row F_is_standard F_does_sort_row F_net_error F_law_ascends F_law_made)
    (vSeq (S3_law_is_run_right F_is_ascending F_row_error F_made_row F_is_standard F_does_sort_row F_net_error F_law_ascends F_law_made)
    (vSeq (L1_law_is_run_right F_is_ascending F_row_error F_made_row F_is_standard F_does_sort_row F_net_error F_law_ascends F_law_made)
    (vSeq (S2_law_is_run_right F_is_ascending F_row_error F_made_row F_is_standard F_does_sort_row F_net_error F_law_ascends F_law_made)
    (vSeq (S1_law_is_run_right F_is_ascending F_row_error F_made_row F_is_standard F_does_sort_row F_net_error F_law_ascends F_law_made)
    (vRet (vOp dEq (vBl bReprD (vCons (vLst (vCons (vVar 1) (vCons (vVar 2) vNil))) vNil)) (vVar 4)))))))))))
theorem ok_law_is_run_right (T : Txt K mg) {F_is_ascending F_row_error F_made_row F_is_standard F_does_sort_row F_net_error F_law_ascends F_law_made : Fn} (G_is_ascending : FnG P w K mg base 1 T.a_is_ascending T.d_is_ascending P_is_ascending F_is_ascending) (G_row_error : FnG P w K mg base 2 T.a_row_error T.d_row_error P_row_error F_row_error) (G_made_row : FnG P w K mg base 1 T.a_made_row T.d_made_row P_made_row F_made_row) (G_is_standard : FnG P w K mg base 1 T.a_is_standard T.d_is_standard P_is_standard F_is_standard) (G_does_sort_row : FnG P w K mg base 2 T.a_does_sort_row T.d_does_sort_row P_does_sort_row F_does_sort_row) (G_net_error : FnG P w K mg base 4 T.a_net_error T.d_net_error P_net_error F_net_error) (G_law_ascends : FnG P w K mg base 1 T.a_law_ascends T.d_law_ascends P_law_ascends F_law_ascends) (G_law_made : FnG P w K mg base 1 T.a_law_made T.d_law_made P_law_made F_law_made) : FnG P w K mg base 5 T.a_law_is_run_right T.d_law_is_run_right P_law_is_run_right (mF 15 (m_law_is_run_right F_is_ascending F_row_error F_made_row F_is_standard F_does_sort_row F_net_error F_law_ascends F_law_made)) :=
  fnG_of T.f_law_is_run_right sc_law_is_run_right fun cdv A outer s H E a =>
    (qsCons (qPar2 (i := 3) (j := 4) rfl sc_law_is_run_right.nd (qa (qCall G_law_made (a.mono (by decide)) T.g_law_made T.k_law_made T.b_law_made (qa (qV (i := 1) rfl (.inl rfl)) (qa (qV (i := 2) rfl (.inl rfl)) qa0))) (qa (qBl (cr_reprD (SysIn.h (base := base)) a.gd a.rp) (reprD_cd _) T.n_repr (qa (qLst (qa (qV (i := 1) rfl (.inl rfl)) (qa (qV (i := 2) rfl (.inl rfl)) qa0))) qa0)) qa0)))
    (qsCons (qPar2 (i := 5) (j := 6) rfl sc_law_is_run_right.nd (qa (qCall G_law_ascends (a.mono (by decide)) T.g_law_ascends T.k_law_ascends T.b_law_ascends (qa (qV (i := 3) rfl (.inl rfl)) qa0)) (qa (qCall G_law_ascends (a.mono (by decide)) T.g_law_ascends T.k_law_ascends T.b_law_ascends (qa (qV (i := 2) rfl (.inl rfl)) qa0)) qa0)))
    (qsCons (qSet (i := 7) sc_law_is_run_right.nd (qBl (cr_all rfl) (all_cd _) T.n_all (qa (qLc (own := [("i", 13), ("j", 14)]) rfl sc_law_is_run_right.nd (qIt (qV (i := 1) rfl (.inl rfl))) (blkOk_by (N := N_law_is_run_right) (sc := defScope s_law_is_run_right) (own := [("i", 13), ("j", 14)]) (by decide +kernel)) (tgd_tup (tgsd_cons (tgd_name (by decide)) (tgsd_cons (tgd_name (by decide)) tgsd_nil))) (fun _ _ _ _ _ => (pg_tup rfl (pgs_cons (pg_name (i := 13) sc_law_is_run_right.nd rfl (.inl rfl)) (pgs_cons (pg_name (i := 14) sc_law_is_run_right.nd rfl (.inl rfl)) pgs_nil)))) (fun _ _ _ _ _ => (qYes _ _)) (fun _ _ _ _ _ => (qCm op_lt (lt_ii _) (qV (i := 13) rfl (.inl rfl)) (qV (i := 14) rfl (.inl rfl))))) qa0)) rfl (.inl rfl))
    (qsCons (qSet (i := 8) sc_law_is_run_right.nd (qBl (cr_reprD (SysIn.h (base := base)) a.gd a.rp) (reprD_cd _) T.n_repr (qa (qLst (qa qN (qa qN (qa (qV (i := 3) rfl (.inl rfl)) (qa (qV (i := 5) rfl (.inl rfl)) (qa (qV (i := 6) rfl (.inl rfl)) (qa (qV (i := 5) rfl (.inl rfl)) (qa (qV (i := 7) rfl (.inl rfl)) qa0)))))))) qa0)) rfl (.inl rfl))
    (qsCons (qSet (i := 9) sc_law_is_run_right.nd (qLst qa0) rfl (.inl rfl))
    (qsCons (qFor a.ps rfl (qRng1 T.n_range (qa qI qa0)) (qgP (vs := [10]) (pg_name (i := 10) sc_law_is_run_right.nd rfl (.inl rfl)) (tgd_name (by decide))) (qsCons (qSet (i := 11) sc_law_is_run_right.nd (qLst (qa (qCall G_net_error (a.mono (by decide)) T.g_net_error T.k_net_error T.b_net_error (qa (qV (i := 0) rfl (.inl rfl)) (qa (qV (i := 1) rfl (.inl rfl)) qa0))) (qa (qCall G_row_error (a.mono (by decide)) T.g_row_error T.k_row_error T.b_row_error (qa (qV (i := 0) rfl (.inl rfl)) (qa (qV (i := 2) rfl (.inl rfl)) qa0))) (qa (qCall G_made_row (a.mono (by decide)) T.g_made_row T.k_made_row T.b_made_row (qa (qV (i := 1) rfl (.inl rfl)) (qa (qV (i := 2) rfl (.inl rfl)) qa0))) (qa (qCall G_does_sort_row (a.mono (by decide)) T.g_does_sort_row T.k_does_sort_row T.b_does_sort_row (qa (qV (i := 1) rfl (.inl rfl)) (qa (qV (i := 2) rfl (.inl rfl)) qa0))) qa0))))) rfl (.inl rfl))
    (qsCons (qDrop (qMt PySem.F.plainAttrs_list PySem.F.slot_list_append PySem.F.type_list_append mt_append (append_mtd _) (qV (i := 9) rfl (.inl rfl)) (qa (qBl (cr_reprD (SysIn.h (base := base)) a.gd a.rp) (reprD_cd _) T.n_repr (qa (qOp add_opr (add_opd _) (qV (i := 11) rfl (.inl rfl)) (qLst (qa (qCall G_is_ascending (a.mono (by decide)) T.g_is_ascending T.k_is_ascending T.b_is_ascending (qa (qV (i := 2) rfl (.inl rfl)) qa0)) (qa (qCall G_is_ascending (a.mono (by decide)) T.g_is_ascending T.k_is_ascending T.b_is_ascending (qa (qV (i := 3) rfl (.inl rfl)) qa0)) (qa (qCall G_is_standard (a.mono (by decide)) T.g_is_standard T.k_is_standard T.b_is_standard (qa (qV (i := 1) rfl (.inl rfl)) qa0)) qa0))))) qa0)) qa0)))
    (qsCons (qSet (i := 11) sc_law_is_run_right.nd (qLst (qa (qCallK0 G_net_error (a.mono (by decide)) T.g_net_error T.k_net_error (kw5 T) (qk (qV (i := 1) rfl (.inl rfl)) (qk (qV (i := 0) rfl (.inl rfl)) qk0))) (qa (qCallK0 G_row_error (a.mono (by decide)) T.g_row_error T.k_row_error (kw4 T) (qk (qV (i := 2) rfl (.inl rfl)) (qk (qV (i := 0) rfl (.inl rfl)) qk0))) (qa (qCallK0 G_made_row (a.mono (by decide)) T.g_made_row T.k_made_row (kw3 T) (qk (qV (i := 2) rfl (.inl rfl)) (qk (qV (i := 1) rfl (.inl rfl)) qk0))) qa0)))) rfl (.inl rfl))
    (qsCons (qSet (i := 11) sc_law_is_run_right.nd (qOp add_opr (add_opd _) (qV (i := 11) rfl (.inl rfl)) (qLst (qa (qCallK0 G_does_sort_row (a.mono (by decide)) T.g_does_sort_row T.k_does_sort_row (kw2 T) (qk (qV (i := 2) rfl (.inl rfl)) (qk (qV (i := 1) rfl (.inl rfl)) qk0))) (qa (qCallK0 G_is_ascending (a.mono (by decide)) T.g_is_ascending T.k_is_ascending (kw1 T) (qk (qV (i := 2) rfl (.inl rfl)) qk0)) (qa (qCallK0 G_is_ascending (a.mono (by decide)) T.g_is_ascending T.k_is_ascending (kw1 T) (qk (qV (i := 3) rfl (.inl rfl)) qk0)) qa0))))) rfl (.inl rfl))
    (qsOne (qDrop (qMt PySem.F.plainAttrs_list PySem.F.slot_list_append PySem.F.type_list_append mt_append (append_mtd _) (qV (i := 9) rfl (.inl rfl)) (qa (qBl (cr_reprD (SysIn.h (base := base)) a.gd a.rp) (reprD_cd _) T.n_repr (qa (qOp add_opr (add_opd _) (qV (i := 11) rfl (.inl rfl)) (qLst (qa (qCallK0 G_is_standard (a.mono (by decide)) T.g_is_standard T.k_is_standard (kw0 T) (qk (qV (i := 1) rfl (.inl rfl)) qk0)) qa0))) qa0)) qa0)))))))))
    (qsCons (qSet (i := 12) sc_law_is_run_right.nd (qCall G_made_row (a.mono (by decide)) T.g_made_row T.k_made_row T.b_made_row (qa (qV (i := 1) rfl (.inl rfl)) (qa (qV (i := 2) rfl (.inl rfl)) qa0))) rfl (.inl rfl))
    (qsCons (qIfS (PW.pt (qOrT (qCmT (ne_opr a.hu) (ne_opd _) (qV (i := 9) rfl (.inl rfl)) (qOp mul_opr (mul_opd _) (qLst (qa (qV (i := 8) rfl (.inl rfl)) qa0)) qI)) (qOr1 (qCmT (ne_opr a.hu) (ne_opd _) (qBl (cr_reprD (SysIn.h (base := base)) a.gd a.rp) (reprD_cd _) T.n_repr (qa (qLst (qa (qCall G_row_error (a.mono (by decide)) T.g_row_error T.k_row_error T.b_row_error (qa (qV (i := 0) rfl (.inl rfl)) (qa (qV (i := 12) rfl (.inl rfl)) qa0))) (qa (qCall G_is_ascending (a.mono (by decide)) T.g_is_ascending T.k_is_ascending T.b_is_ascending (qa (qV (i := 12) rfl (.inl rfl)) qa0)) qa0))) qa0)) (qBl (cr_reprD (SysIn.h (base := base)) a.gd a.rp) (reprD_cd _) T.n_repr (qa (qLst (qa qN (qa (qV (i := 5) rfl (.inl rfl)) qa0))) qa0)))))) (qsOne (qRet qB)) qsNil)
    (qsOne (qRet (qCm (eq_opr a.hu) (eq_opd _) (qBl (cr_reprD (SysIn.h (base := base)) a.gd a.rp) (reprD_cd _) T.n_repr (qa (qLst (qa (qV (i := 1) rfl (.inl rfl)) (qa (qV (i := 2) rfl (.inl rfl)) qa0))) qa0)) (qV (i := 4) rfl (.inl rfl)))))))))))))
def m_law_no_comparators : VSt :=
  (vSeq (vAsg (vLst (vCons (vTup (vCons (vC (.int 0)) (vCons (vVar 0) vNil))) (vCons (vTup (vCons (vVar 0) (vCons (vC (.int 0)) vNil))) (vCons (vTup (vCons (vC (.int 0)) (vCons (vUn uNeg (vC (.int 1))) vNil))) (vCons (vTup (vCons (vUn uNeg (vC (.int 1))) (vCons (vC (.int 0)) vNil))) (vCons (vTup (vCons (vC (.int 0)) (vCons (vC (.int 0)) vNil))) (vCons (vTup (vCons (vVar 0) (vCons (vVar 0) vNil))) (vCons (vTup (vCons (vC (.int 0)) vNil)) (vCons (vTup (vCons (vC (.int 0)) (vCons (vC (.int 1)) (vCons (vC (.int 0)) vNil)))) (vCons (vTup vNil) (vCons (vLst (vCons (vC (.int 0)) (vCons (vC (.int 1)) vNil))) (vCons (vC .non) (vCons (vC (.int 0)) (vCons (vC (.str (Str.ofString "01"))) (vCons (vTup (vCons (vC (.bl true)) (vCons (vC (.int 0)) vNil))) vNil))))))))))))))) (gName 1))
    (vRet (vOp dAdd (vVar 1) (vLst (vCons (vTup (vCons (vC (.int 0)) (vCons (vC (.bl true)) vNil))) (vCons (vTup (vCons (vC (.bl false)) (vCons (vC (.int 1)) vNil))) (vCons (vTup (vCons (vC (.int 1)) (vCons (vC (.bl false)) vNil))) (vCons (vTup (vCons (vC (.str (Str.ofString "0"))) (vCons (vC (.str (Str.ofString "1"))) vNil))) (vCons (vTup (vCons (vC (.int 0)) (vCons (vC .non) vNil))) (vCons (vDic1 (vC (.int 0)) (vC (.int 1))) (vCons (vTup (vCons (vTup (vCons (vC (.int 0)) (vCons (vC (.int 1)) vNil))) vNil)) (vCons (vTup (vCons (vC (.int 0)) (vCons (vOp aPow (vOp aPow (vC (.int 10)) (vC (.int 57))) (vC (.int 7))) vNil))) vNil))))))))))))
theorem ok_law_no_comparators (T : Txt K mg) : FnG P w K mg base 1 T.a_law_no_comparators T.d_law_no_comparators P_law_no_comparators (mF 2 (m_law_no_comparators)) :=
  fnG_of T.f_law_no_comparators sc_law_no_comparators fun cdv A outer s H E a =>
    (qsCons (qSet (i := 1) sc_law_no_comparators.nd (qLst (qa (qTup (qa qI (qa (qV (i := 0) rfl (.inl rfl)) qa0))) (qa (qTup (qa (qV (i := 0) rfl (.inl rfl)) (qa qI qa0))) (qa (qTup (qa qI (qa (qUn un_neg (neg_un _) qI) qa0))) (qa (qTup (qa (qUn un_neg (neg_un _) qI) (qa qI qa0))) (qa (qTup (qa qI (qa qI qa0))) (qa (qTup (qa (qV (i := 0) rfl (.inl rfl)) (qa (qV (i := 0) rfl (.inl rfl)) qa0))) (qa (qTup (qa qI qa0)) (qa (qTup (qa qI (qa qI (qa qI qa0)))) (qa (qTup qa0) (qa (qLst (qa qI (qa qI qa0))) (qa qN (qa qI (qa qS (qa (qTup (qa qB (qa qI qa0))) qa0))))))))))))))) rfl (.inl rfl))
    (qsOne (qRet (qOp add_opr (add_opd _) (qV (i := 1) rfl (.inl rfl)) (qLst (qa (qTup (qa qI (qa qB qa0))) (qa (qTup (qa qB (qa qI qa0))) (qa (qTup (qa qI (qa qB qa0))) (qa (qTup (qa qS (qa qS qa0))) (qa (qTup (qa qI (qa qN qa0))) (qa (qDic1 qI qI) (qa (qTup (qa (qTup (qa qI (qa qI qa0))) qa0)) (qa (qTup (qa qI (qa (qOp op_powB (pow_ii _) (qOp op_powB (pow_ii _) qI qI) qI) qa0))) qa0)))))))))))))
def m_law_is_net_error (F_net_error : Fn) : VSt :=
  (vSeq (vPar 3 2 (vCons (vBl bReprD (vCons (vVar 1) vNil)) (vCons (vBl bReprD (vCons (vVar 2) vNil)) vNil)))
    (vSeq (vAsg (vLst (vCons (vBl bReprD (vCons (vCall 2 F_net_error (vCons (vVar 0) (vCons (vVar 1) vNil))) vNil)) (vCons (vBl bReprD (vCons (vCallK 2 F_net_error (kwP 0 2 2 [1, 0]) vNil (vCons (vVar 1) (vCons (vVar 0) vNil))) vNil)) (vCons (vBl bReprD (vCons (vCall 2 F_net_error (vCons (vVar 0) (vCons (vVar 1) vNil))) vNil)) vNil)))) (gName 4))
    (vRet (vAnd (vOp dEq (vVar 4) (vOp dMul (vLst (vCons (vVar 2) vNil)) (vC (.int 3)))) (vOp dEq (vBl bReprD (vCons (vVar 1) vNil)) (vVar 3))))))
theorem ok_law_is_net_error (T : Txt K mg) {F_net_error : Fn} (G_net_error : FnG P w K mg base 4 T.a_net_error T.d_net_error P_net_error F_net_error) : FnG P w K mg base 5 T.a_law_is_net_error T.d_law_is_net_error P_law_is_net_error (mF 5 (m_law_is_net_error F_net_error)) :=
  fnG_of T.f_law_is_net_error sc_law_is_net_error fun cdv A outer s H E a =>
    (qsCons (qPar2 (i := 3) (j := 2) rfl sc_law_is_net_error.nd (qa (qBl (cr_reprD (SysIn.h (base := base)) a.gd a.rp) (reprD_cd _) T.n_repr (qa (qV (i := 1) rfl (.inl rfl)) qa0)) (qa (qBl (cr_reprD (SysIn.h (base := base)) a.gd a.rp) (reprD_cd _) T.n_repr (qa (qV (i := 2) rfl (.inl rfl)) qa0)) qa0)))
    (qsCons (qSet (i := 4) sc_law_is_net_error.nd (qLst (qa (qBl (cr_reprD (SysIn.h (base := base)) a.gd a.rp) (reprD_cd _) T.n_repr (qa (qCall G_net_error (a.mono (by decide)) T.g_net_error T.k_net_error T.b_net_error (qa (qV (i := 0) rfl (.inl rfl)) (qa (qV (i := 1) rfl (.inl rfl)) qa0))) qa0)) (qa (qBl (cr_reprD (SysIn.h (base := base)) a.gd a.rp) (reprD_cd _) T.n_repr (qa (qCallK0 G_net_error (a.mono (by decide)) T.g_net_error T.k_net_error (kw5 T) (qk (qV (i := 1) rfl (.inl rfl)) (qk (qV (i := 0) rfl (.inl rfl)) qk0))) qa0)) (qa (qBl (cr_reprD (SysIn.h (base := base)) a.gd a.rp) (reprD_cd _) T.n_repr (qa (qCall G_net_error (a.mono (by decide)) T.g_net_error T.k_net_error T.b_net_error (qa (qV (i := 0) rfl (.inl rfl)) (qa (qV (i := 1) rfl (.inl rfl)) qa0))) qa0)) qa0)))) rfl (.inl rfl))
    (qsOne (qRet (qAnd (qCm (eq_opr a.hu) (eq_opd _) (qV (i := 4) rfl (.inl rfl)) (qOp mul_opr (mul_opd _) (qLst (qa (qV (i := 2) rfl (.inl rfl)) qa0)) qI)) (qOne (qCm (eq_opr a.hu) (eq_opd _) (qBl (cr_reprD (SysIn.h (base := base)) a.gd a.rp) (reprD_cd _) T.n_repr (qa (qV (i := 1) rfl (.inl rfl)) qa0)) (qV (i := 3) rfl (.inl rfl)))))))))
def B1_law_are_nets_judged (F_law_is_net_error F_law_pick F_law_draw F_law_no_comparators : Fn) : VSt :=
  (vIfS (vNotT (vTr (vCall 3 F_law_is_net_error (vCons (vVar 1) (vCons (vVar 6) (vCons (vVar 9) vNil)))))) (vRet (vC (.bl false))) vPass)
def L1_law_are_nets_judged (F_law_is_net_error F_law_pick F_law_draw F_law_no_comparators : Fn) : VSt :=
  (vFor (vIt (vLst (vCons (vTup (vCons (vVar 8) (vCons (vC .non) vNil))) (vCons (vTup (vCons (vTup (vCons (vTup (vCons (vC (.bl false)) (vCons (vC (.bl true)) vNil))) vNil)) (vCons (vTup (vCons (vC (.str (Str.ofString "comparator"))) (vCons (vC (.int 0)) vNil))) vNil))) (vCons (vTup (vCons (vVar 8) (vCons (vC .non) vNil))) vNil))))) (gP (pTup 2 (psCons (pN 6) (psCons (pN 9) psNil)))) (B1_law_are_nets_judged F_law_is_net_error F_law_pick F_law_draw F_law_no_comparators))
def S1_law_are_nets_judged (F_law_is_net_error F_law_pick F_law_draw F_law_no_comparators : Fn) : VSt :=
  (vAsg (vIf (vTr (vOp aGt (vVar 1) (vC (.int 1)))) (vTup (vCons (vTup (vCons (vC (.int 0)) (vCons (vC (.int 1)) vNil))) vNil)) (vTup vNil)) (gName 8))
def B2_law_are_nets_judged (F_law_is_net_error F_law_pick F_law_draw F_law_no_comparators : Fn) : VSt :=
  (vIfS (vNotT (vTr (vCall 3 F_law_is_net_error (vCons (vVar 1) (vCons (vVar 6) (vCons (vC (.str (Str.ofString "form"))) vNil)))))) (vRet (vC (.bl false))) vPass)
def L2_law_are_nets_judged (F_law_is_net_error F_law_pick F_law_draw F_law_no_comparators : Fn) : VSt :=
  (vFor (vIt (vLst (vCons (vC .non) (vCons (vC (.bl true)) (vCons (vC (.int 0)) (vCons (vC (.str (Str.ofString ""))) (vCons (vC (.str (Str.ofString "0-1"))) (vCons (vLst vNil) (vCons (vBl bList (vCons (vVar 2) vNil)) (vCons (vDic1 (vC (.int 0)) (vC (.int 1))) (vCons (vLst (vCons (vVar 2) vNil)) (vCons (vSl (vOp dMul (vBl bList (vCons (vVar 2) vNil)) (vC (.int 600))) oNone (oSome (vC (.int 600)))) (vCons (vLst (vCons (vC .non) vNil)) vNil))))))))))))) (gP (pN 6)) (B2_law_are_nets_judged F_law_is_net_error F_law_pick F_law_draw F_law_no_comparators))
def B3_law_are_nets_judged (F_law_is_net_error F_law_pick F_law_draw F_law_no_comparators : Fn) : VSt :=
  (vSeq (vAsg (vCall 2 F_law_pick (vCons (vVar 0) (vCons (vLst (vCons (vC (.int 0)) (vCons (vCall 2 F_law_draw (vCons (vVar 0) (vCons (vOp dAdd (vBl bLen (vCons (vVar 2) vNil)) (vC (.int 1))) vNil))) (vCons (vBl bMax (vCons (vC (.int 0)) (vCons (vOp aSub (vBl bLen (vCons (vVar 2) vNil)) (vC (.int 1))) vNil))) (vCons (vBl bLen (vCons (vVar 2) vNil)) vNil))))) vNil))) (gName 5))
    (vSeq (vAsg (vOp dAdd (vOp dAdd (vSl (vVar 2) oNone (oSome (vVar 5))) (vTup (vCons (vVar 4) vNil))) (vSl (vVar 2) (oSome (vOp dAdd (vVar 5) (vC (.int 1)))) oNone)) (gName 6))
    (vSeq (vIfS (vNotT (vTr (vCall 3 F_law_is_net_error (vCons (vVar 1) (vCons (vVar 6) (vCons (vTup (vCons (vC (.str (Str.ofString "comparator"))) (vCons (vVar 5) vNil))) vNil)))))) (vRet (vC (.bl false))) vPass)
    (vSeq (vAsg (vCall 2 F_law_pick (vCons (vVar 0) (vCons (vVar 3) vNil))) (gName 7))
    (vIfS (vNotT (vTr (vCall 3 F_law_is_net_error (vCons (vVar 1) (vCons (vOp dAdd (vOp dAdd (vVar 6) (vSl (vVar 2) oNone (oSome (vC (.int 2))))) (vTup (vCons (vVar 7) vNil))) (vCons (vTup (vCons (vC (.str (Str.ofString "comparator"))) (vCons (vVar 5) vNil))) vNil)))))) (vRet (vC (.bl false))) vPass)))))
def L3_law_are_nets_judged (F_law_is_net_error F_law_pick F_law_draw F_law_no_comparators : Fn) : VSt :=
  (vFor (vIt (vVar 3)) (gP (pN 4)) (B3_law_are_nets_judged F_law_is_net_error F_law_pick F_law_draw F_law_no_comparators))
def S2_law_are_nets_judged (F_law_is_net_error F_law_pick F_law_draw F_law_no_comparators : Fn) : VSt :=
  (vAsg (vCall 1 F_law_no_comparators (vCons (vVar 1) vNil)) (gName 3))
def m_law_are_nets_judged (F_law_is_net_error F_law_pick F_law_draw F_law_no_comparators : Fn) : VSt :=
  (vSeq (S2_law_are_nets_judged F_law_is_net_error F_law_pick F_law_draw F_law_no_comparators)
    (vSeq (L3_law_are_nets_judged F_law_is_net_error F_law_pick F_law_draw F_law_no_comparators)
    (vSeq (L2_law_are_nets_judged F_law_is_net_error F_law_pick F_law_draw F_law_no_comparators)
    (vSeq (S1_law_are_nets_judged F_law_is_net_error F_law_pick F_law_draw F_law_no_comparators)
    (vSeq (L1_law_are_nets_judged F_law_is_net_error F_law_pick F_law_draw F_law_no_comparators)
    (vRet (vC (.bl true))))))))
theorem ok_law_are_nets_judged (T : Txt K mg) {F_law_is_net_error F_law_pick F_law_draw F_law_no_comparators : Fn} (G_law_is_net_error : FnG P w K mg base 5 T.a_law_is_net_error T.d_law_is_net_error P_law_is_net_error F_law_is_net_error) (G_law_pick : FnG P w K mg base 2 T.a_law_pick T.d_law_pick P_law_pick F_law_pick) (G_law_draw : FnG P w K mg base 1 T.a_law_draw T.d_law_draw P_law_draw F_law_draw) (G_law_no_comparators : FnG P w K mg base 1 T.a_law_no_comparators T.d_law_no_comparators P_law_no_comparators F_law_no_comparators) : FnG P w K mg base 6 T.a_law_are_nets_judged T.d_law_are_nets_judged P_law_are_nets_judged (mF 10 (m_law_are_nets_judged F_law_is_net_error F_law_pick F_law_draw F_law_no_comparators)) :=
  fnG_of T.f_law_are_nets_judged sc_law_are_nets_judged fun cdv A outer s H E a =>
    (qsCons (qSet (i := 3) sc_law_are_nets_judged.nd (qCall G_law_no_comparators (a.mono (by decide)) T.g_law_no_comparators T.k_law_no_comparators T.b_law_no_comparators (qa (qV (i := 1) rfl (.inl rfl)) qa0)) rfl (.inl rfl))
    (qsCons (qFor a.ps rfl (qIt (qV (i := 3) rfl (.inl rfl))) (qgP (vs := [4]) (pg_name (i := 4) sc_law_are_nets_judged.nd rfl (.inl rfl)) (tgd_name (by decide))) (qsCons (qSet (i := 5) sc_law_are_nets_judged.nd (qCall G_law_pick (a.mono (by decide)) T.g_law_pick T.k_law_pick T.b_law_pick (qa (qV (i := 0) rfl (.inl rfl)) (qa (qLst (qa qI (qa (qCall G_law_draw (a.mono (by decide)) T.g_law_draw T.k_law_draw T.b_law_draw (qa (qV (i := 0) rfl (.inl rfl)) (qa (qOp add_opr (add_opd _) (qBl call_len (len_cd _) T.n_len (qa (qV (i := 2) rfl (.inl rfl)) qa0)) qI) qa0))) (qa (qBl (cr_maxS rfl) (max_cd _) T.n_max (qa qI (qa (qOp op_sub (sub_ii _) (qBl call_len (len_cd _) T.n_len (qa (qV (i := 2) rfl (.inl rfl)) qa0)) qI) qa0))) (qa (qBl call_len (len_cd _) T.n_len (qa (qV (i := 2) rfl (.inl rfl)) qa0)) qa0))))) qa0))) rfl (.inl rfl))
    (qsCons (qSet (i := 6) sc_law_are_nets_judged.nd (qOp add_opr (add_opd _) (qOp add_opr (add_opd _) (qSl (qV (i := 2) rfl (.inl rfl)) qo0 (qo (qV (i := 5) rfl (.inl rfl)))) (qTup (qa (qV (i := 4) rfl (.inl rfl)) qa0))) (qSl (qV (i := 2) rfl (.inl rfl)) (qo (qOp add_opr (add_opd _) (qV (i := 5) rfl (.inl rfl)) qI)) qo0)) rfl (.inl rfl))
    (qsCons (qIfS (qNotT (qT (qCall G_law_is_net_error (a.mono (by decide)) T.g_law_is_net_error T.k_law_is_net_error T.b_law_is_net_error (qa (qV (i := 1) rfl (.inl rfl)) (qa (qV (i := 6) rfl (.inl rfl)) (qa (qTup (qa qS (qa (qV (i := 5) rfl (.inl rfl)) qa0))) qa0)))))) (qsOne (qRet qB)) qsNil)
    (qsCons (qSet (i := 7) sc_law_are_nets_judged.nd (qCall G_law_pick (a.mono (by decide)) T.g_law_pick T.k_law_pick T.b_law_pick (qa (qV (i := 0) rfl (.inl rfl)) (qa (qV (i := 3) rfl (.inl rfl)) qa0))) rfl (.inl rfl))
    (qsOne (qIfS (qNotT (qT (qCall G_law_is_net_error (a.mono (by decide)) T.g_law_is_net_error T.k_law_is_net_error T.b_law_is_net_error (qa (qV (i := 1) rfl (.inl rfl)) (qa (qOp add_opr (add_opd _) (qOp add_opr (add_opd _) (qV (i := 6) rfl (.inl rfl)) (qSl (qV (i := 2) rfl (.inl rfl)) qo0 (qo qI))) (qTup (qa (qV (i := 7) rfl (.inl rfl)) qa0))) (qa (qTup (qa qS (qa (qV (i := 5) rfl (.inl rfl)) qa0))) qa0)))))) (qsOne (qRet qB)) qsNil)))))))
    (qsCons (qFor a.ps rfl (qIt (qLst (qa qN (qa qB (qa qI (qa qS (qa qS (qa (qLst qa0) (qa (qTy call_list_of (list_cd _) T.n_list (qa (qV (i := 2) rfl (.inl rfl)) qa0)) (qa (qDic1 qI qI) (qa (qLst (qa (qV (i := 2) rfl (.inl rfl)) qa0)) (qa (qSl (qOp mul_opr (mul_opd _) (qTy call_list_of (list_cd _) T.n_list (qa (qV (i := 2) rfl (.inl rfl)) qa0)) qI) qo0 (qo qI)) (qa (qLst (qa qN qa0)) qa0))))))))))))) (qgP (vs := [6]) (pg_name (i := 6) sc_law_are_nets_judged.nd rfl (.inl rfl)) (tgd_name (by decide))) (qsOne (qIfS (qNotT (qT (qCall G_law_is_net_error (a.mono (by decide)) T.g_law_is_net_error T.k_law_is_net_error T.b_law_is_net_error (qa (qV (i := 1) rfl (.inl rfl)) (qa (qV (i := 6) rfl (.inl rfl)) (qa qS qa0)))))) (qsOne (qRet qB)) qsNil)))
    (qsCons (qSet (i := 8) sc_law_are_nets_judged.nd (qIf (qCmT op_gt (gt_ii _) (qV (i := 1) rfl (.inl rfl)) qI) (qTup (qa (qTup (qa qI (qa qI qa0))) qa0)) (qTup qa0)) rfl (.inl rfl))
    (qsCons (qFor a.ps rfl (qIt (qLst (qa (qTup (qa (qV (i := 8) rfl (.inl rfl)) (qa qN qa0))) (qa (qTup (qa (qTup (qa (qTup (qa qB (qa qB qa0))) qa0)) (qa (qTup (qa qS (qa qI qa0))) qa0))) (qa (qTup (qa (qV (i := 8) rfl (.inl rfl)) (qa qN qa0))) qa0))))) (qgP (vs := [6, 9]) (pg_tup rfl (pgs_cons (pg_name (i := 6) sc_law_are_nets_judged.nd rfl (.inl rfl)) (pgs_cons (pg_name (i := 9) sc_law_are_nets_judged.nd rfl (.inl rfl)) pgs_nil))) (tgd_tup (tgsd_cons (tgd_name (by decide)) (tgsd_cons (tgd_name (by decide)) tgsd_nil)))) (qsOne (qIfS (qNotT (qT (qCall G_law_is_net_error (a.mono (by decide)) T.g_law_is_net_error T.k_law_is_net_error T.b_law_is_net_error (qa (qV (i := 1) rfl (.inl rfl)) (qa (qV (i := 6) rfl (.inl rfl)) (qa (qV (i := 9) rfl (.inl rfl)) qa0)))))) (qsOne (qRet qB)) qsNil)))
    (qsOne (qRet qB)))))))
def B1_law_are_great_judged (F_law_is_net_error F_law_draw F_law_pick F_law_no_comparators : Fn) : VSt :=
  (vIfS (vNotT (vTr (vCall 3 F_law_is_net_error (vCons (vVar 1) (vCons (vVar 7) (vCons (vVar 8) vNil)))))) (vRet (vC (.bl false))) vPass)
def L1_law_are_great_judged (F_law_is_net_error F_law_draw F_law_pick F_law_no_comparators : Fn) : VSt :=
  (vFor (vIt (vVar 6)) (gP (pTup 2 (psCons (pN 7) (psCons (pN 8) psNil)))) (B1_law_are_great_judged F_law_is_net_error F_law_draw F_law_pick F_law_no_comparators))
def S1_law_are_great_judged (F_law_is_net_error F_law_draw F_law_pick F_law_no_comparators : Fn) : VSt :=
  (vDrop (vMt "list" mAppend (vVar 6) (vCons (vTup (vCons (vBl bList (vCons (vVar 4) vNil)) (vCons (vC (.str (Str.ofString "form"))) vNil))) vNil)))
def S2_law_are_great_judged (F_law_is_net_error F_law_draw F_law_pick F_law_no_comparators : Fn) : VSt :=
  (vDrop (vMt "list" mAppend (vVar 6) (vCons (vTup (vCons (vOp dAdd (vOp dAdd (vSl (vVar 4) oNone (oSome (vVar 5))) (vTup (vCons (vVar 3) vNil))) (vSl (vVar 4) (oSome (vOp dAdd (vVar 5) (vC (.int 1)))) oNone)) (vCons (vTup (vCons (vC (.str (Str.ofString "comparator"))) (vCons (vVar 5) vNil))) vNil))) vNil)))
def S3_law_are_great_judged (F_law_is_net_error F_law_draw F_law_pick F_law_no_comparators : Fn) : VSt :=
  (vAsg (vOp dAdd (vVar 6) (vLst (vCons (vTup (vCons (vOp dAdd (vTup (vCons (vVar 3) vNil)) (vVar 4)) (vCons (vC (.str (Str.ofString "many"))) vNil))) (vCons (vTup (vCons (vOp dAdd (vVar 4) (vTup (vCons (vVar 3) vNil))) (vCons (vC (.str (Str.ofString "many"))) vNil))) (vCons (vTup (vCons (vOp dMul (vVar 4) (vC (.int 2))) (vCons (vC (.str (Str.ofString "many"))) vNil))) (vCons (vTup (vCons (vOp dMulZ (vTup (vCons (vC .non) vNil)) (vC (.int 501))) (vCons (vC (.str (Str.ofString "many"))) vNil))) vNil)))))) (gName 6))
def S4_law_are_great_judged (F_law_is_net_error F_law_draw F_law_pick F_law_no_comparators : Fn) : VSt :=
  (vAsg (vLst (vCons (vTup (vCons (vVar 4) (vCons (vC .non) vNil))) (vCons (vTup (vCons (vOp dAdd (vVar 4) (vSl (vVar 4) oNone (oSome (vC (.int 1))))) (vCons (vC (.str (Str.ofString "many"))) vNil))) (vCons (vTup (vCons (vOp dAdd (vSl (vVar 4) oNone (oSome (vC (.int 499)))) (vTup (vCons (vVar 3) vNil))) (vCons (vTup (vCons (vC (.str (Str.ofString "comparator"))) (vCons (vC (.int 499)) vNil))) vNil))) vNil)))) (gName 6))
def S5_law_are_great_judged (F_law_is_net_error F_law_draw F_law_pick F_law_no_comparators : Fn) : VSt :=
  (vAsg (vCall 2 F_law_draw (vCons (vVar 0) (vCons (vC (.int 500)) vNil))) (gName 5))
def S6_law_are_great_judged (F_law_is_net_error F_law_draw F_law_pick F_law_no_comparators : Fn) : VSt :=
  (vAsg (vSl (vOp dMul (vOp dAdd (vVar 2) (vTup (vCons (vTup (vCons (vC (.int 1)) (vCons (vC (.int 0)) vNil))) vNil))) (vC (.int 500))) oNone (oSome (vC (.int 500)))) (gName 4))
def S7_law_are_great_judged (F_law_is_net_error F_law_draw F_law_pick F_law_no_comparators : Fn) : VSt :=
  (vAsg (vCall 2 F_law_pick (vCons (vVar 0) (vCons (vCall 1 F_law_no_comparators (vCons (vVar 1) vNil)) vNil))) (gName 3))
def m_law_are_great_judged (F_law_is_net_error F_law_draw F_law_pick F_law_no_comparators : Fn) : VSt :=
  (vSeq (S7_law_are_great_judged F_law_is_net_error F_law_draw F_law_pick F_law_no_comparators)
    (vSeq (S6_law_are_great_judged F_law_is_net_error F_law_draw F_law_pick F_law_no_comparators)
    (vSeq (S5_law_are_great_judged F_law_is_net_error F_law_draw F_law_pick F_law_no_comparators)
    (vSeq (S4_law_are_great_judged F_law_is_net_error F_law_draw F_law_pick F_law_no_comparators)
    (vSeq (S3_law_are_great_judged F_law_is_net_error F_law_draw F_law_pick F_law_no_comparators)
    (vSeq (S2_law_are_great_judged F_law_is_net_error F_law_draw F_law_pick F_law_no_comparators)
    (vSeq (S1_law_are_great_judged F_law_is_net_error F_law_draw F_law_pick F_law_no_comparators)
    (vSeq (L1_law_are_great_judged F_law_is_net_error F_law_draw F_law_pick F_law_no_comparators)
    (vRet (vC (.bl true)))))))))))
theorem ok_law_are_great_judged (T : Txt K mg) {F_law_is_net_error F_law_draw F_law_pick F_law_no_comparators : Fn} (G_law_is_net_error : FnG P w K mg base 5 T.a_law_is_net_error T.d_law_is_net_error P_law_is_net_error F_law_is_net_error) (G_law_draw : FnG P w K mg base 1 T.a_law_draw T.d_law_draw P_law_draw F_law_draw) (G_law_pick : FnG P w K mg base 2 T.a_law_pick T.d_law_pick P_law_pick F_law_pick) (G_law_no_comparators : FnG P w K mg base 1 T.a_law_no_comparators T.d_law_no_comparators P_law_no_comparators F_law_no_comparators) : FnG P w K mg base 6 T.a_law_are_great_judged T.d_law_are_great_judged P_law_are_great_judged (mF 9 (m_law_are_great_judged F_law_is_net_error F_law_draw F_law_pick F_law_no_comparators)) :=
  fnG_of T.f_law_are_great_judged sc_law_are_great_judged fun cdv A outer s H E a =>
    (qsCons (qSet (i := 3) sc_law_are_great_judged.nd (qCall G_law_pick (a.mono (by decide)) T.g_law_pick T.k_law_pick T.b_law_pick (qa (qV (i := 0) rfl (.inl rfl)) (qa (qCall G_law_no_comparators (a.mono (by decide)) T.g_law_no_comparators T.k_law_no_comparators T.b_law_no_comparators (qa (qV (i := 1) rfl (.inl rfl)) qa0)) qa0))) rfl (.inl rfl))
    (qsCons (qSet (i := 4) sc_law_are_great_judged.nd (qSl (qOp mul_opr (mul_opd _) (qOp add_opr (add_opd _) (qV (i := 2) rfl (.inl rfl)) (qTup (qa (qTup (qa qI (qa qI qa0))) qa0))) qI) qo0 (qo qI)) rfl (.inl rfl))
    (qsCons (qSet (i := 5) sc_law_are_great_judged.nd (qCall G_law_draw (a.mono (by decide)) T.g_law_draw T.k_law_draw T.b_law_draw (qa (qV (i := 0) rfl (.inl rfl)) (qa qI qa0))) rfl (.inl rfl))
    (qsCons (qSet (i := 6) sc_law_are_great_judged.nd (qLst (qa (qTup (qa (qV (i := 4) rfl (.inl rfl)) (qa qN qa0))) (qa (qTup (qa (qOp add_opr (add_opd _) (qV (i := 4) rfl (.inl rfl)) (qSl (qV (i := 4) rfl (.inl rfl)) qo0 (qo qI))) (qa qS qa0))) (qa (qTup (qa (qOp add_opr (add_opd _) (qSl (qV (i := 4) rfl (.inl rfl)) qo0 (qo qI)) (qTup (qa (qV (i := 3) rfl (.inl rfl)) qa0))) (qa (qTup (qa qS (qa qI qa0))) qa0))) qa0)))) rfl (.inl rfl))
    (qsCons (qSet (i := 6) sc_law_are_great_judged.nd (qOp add_opr (add_opd _) (qV (i := 6) rfl (.inl rfl)) (qLst (qa (qTup (qa (qOp add_opr (add_opd _) (qTup (qa (qV (i := 3) rfl (.inl rfl)) qa0)) (qV (i := 4) rfl (.inl rfl))) (qa qS qa0))) (qa (qTup (qa (qOp add_opr (add_opd _) (qV (i := 4) rfl (.inl rfl)) (qTup (qa (qV (i := 3) rfl (.inl rfl)) qa0))) (qa qS qa0))) (qa (qTup (qa (qOp mul_opr (mul_opd _) (qV (i := 4) rfl (.inl rfl)) qI) (qa qS qa0))) (qa (qTup (qa (qOp mulZ_opr (mulZ_opdd _) (qTup (qa qN qa0)) qI) (qa qS qa0))) qa0)))))) rfl (.inl rfl))
    (qsCons (qDrop (qMt PySem.F.plainAttrs_list PySem.F.slot_list_append PySem.F.type_list_append mt_append (append_mtd _) (qV (i := 6) rfl (.inl rfl)) (qa (qTup (qa (qOp add_opr (add_opd _) (qOp add_opr (add_opd _) (qSl (qV (i := 4) rfl (.inl rfl)) qo0 (qo (qV (i := 5) rfl (.inl rfl)))) (qTup (qa (qV (i := 3) rfl (.inl rfl)) qa0))) (qSl (qV (i := 4) rfl (.inl rfl)) (qo (qOp add_opr (add_opd _) (qV (i := 5) rfl (.inl rfl)) qI)) qo0)) (qa (qTup (qa qS (qa (qV (i := 5) rfl (.inl rfl)) qa0))) qa0))) qa0)))
    (qsCons (qDrop (qMt PySem.F.plainAttrs_list PySem.F.slot_list_append PySem.F.type_list_append mt_append (append_mtd _) (qV (i := 6) rfl (.inl rfl)) (qa (qTup (qa (qTy call_list_of (list_cd _) T.n_list (qa (qV (i := 4) rfl (.inl rfl)) qa0)) (qa qS qa0))) qa0)))
    (qsCons (qFor a.ps rfl (qIt (qV (i := 6) rfl (.inl rfl))) (qgP (vs := [7, 8]) (pg_tup rfl (pgs_cons (pg_name (i := 7) sc_law_are_great_judged.nd rfl (.inl rfl)) (pgs_cons (pg_name (i := 8) sc_law_are_great_judged.nd rfl (.inl rfl)) pgs_nil))) (tgd_tup (tgsd_cons (tgd_name (by decide)) (tgsd_cons (tgd_name (by decide)) tgsd_nil)))) (qsOne (qIfS (qNotT (qT (qCall G_law_is_net_error (a.mono (by decide)) T.g_law_is_net_error T.k_law_is_net_error T.b_law_is_net_error (qa (qV (i := 1) rfl (.inl rfl)) (qa (qV (i := 7) rfl (.inl rfl)) (qa (qV (i := 8) rfl (.inl rfl)) qa0)))))) (qsOne (qRet qB)) qsNil)))
    (qsOne (qRet qB))))))))))
def m_law_is_row_error (F_row_error : Fn) : VSt :=
  (vSeq (vPar 3 2 (vCons (vBl bReprD (vCons (vVar 1) vNil)) (vCons (vBl bReprD (vCons (vVar 2) vNil)) vNil)))
    (vSeq (vAsg (vLst (vCons (vBl bReprD (vCons (vCall 2 F_row_error (vCons (vVar 0) (vCons (vVar 1) vNil))) vNil)) (vCons (vBl bReprD (vCons (vCallK 2 F_row_error (kwP 0 2 2 [1, 0]) vNil (vCons (vVar 1) (vCons (vVar 0) vNil))) vNil)) (vCons (vBl bReprD (vCons (vCall 2 F_row_error (vCons (vVar 0) (vCons (vVar 1) vNil))) vNil)) vNil)))) (gName 4))
    (vRet (vAnd (vOp dEq (vVar 4) (vOp dMul (vLst (vCons (vVar 2) vNil)) (vC (.int 3)))) (vOp dEq (vBl bReprD (vCons (vVar 1) vNil)) (vVar 3))))))
theorem ok_law_is_row_error (T : Txt K mg) {F_row_error : Fn} (G_row_error : FnG P w K mg base 2 T.a_row_error T.d_row_error P_row_error F_row_error) : FnG P w K mg base 3 T.a_law_is_row_error T.d_law_is_row_error P_law_is_row_error (mF 5 (m_law_is_row_error F_row_error)) :=
  fnG_of T.f_law_is_row_error sc_law_is_row_error fun cdv A outer s H E a =>
    (qsCons (qPar2 (i := 3) (j := 2) rfl sc_law_is_row_error.nd (qa (qBl (cr_reprD (SysIn.h (base := base)) a.gd a.rp) (reprD_cd _) T.n_repr (qa (qV (i := 1) rfl (.inl rfl)) qa0)) (qa (qBl (cr_reprD (SysIn.h (base := base)) a.gd a.rp) (reprD_cd _) T.n_repr (qa (qV (i := 2) rfl (.inl rfl)) qa0)) qa0)))
    (qsCons (qSet (i := 4) sc_law_is_row_error.nd (qLst (qa (qBl (cr_reprD (SysIn.h (base := base)) a.gd a.rp) (reprD_cd _) T.n_repr (qa (qCall G_row_error (a.mono (by decide)) T.g_row_error T.k_row_error T.b_row_error (qa (qV (i := 0) rfl (.inl rfl)) (qa (qV (i := 1) rfl (.inl rfl)) qa0))) qa0)) (qa (qBl (cr_reprD (SysIn.h (base := base)) a.gd a.rp) (reprD_cd _) T.n_repr (qa (qCallK0 G_row_error (a.mono (by decide)) T.g_row_error T.k_row_error (kw4 T) (qk (qV (i := 1) rfl (.inl rfl)) (qk (qV (i := 0) rfl (.inl rfl)) qk0))) qa0)) (qa (qBl (cr_reprD (SysIn.h (base := base)) a.gd a.rp) (reprD_cd _) T.n_repr (qa (qCall G_row_error (a.mono (by decide)) T.g_row_error T.k_row_error T.b_row_error (qa (qV (i := 0) rfl (.inl rfl)) (qa (qV (i := 1) rfl (.inl rfl)) qa0))) qa0)) qa0)))) rfl (.inl rfl))
    (qsOne (qRet (qAnd (qCm (eq_opr a.hu) (eq_opd _) (qV (i := 4) rfl (.inl rfl)) (qOp mul_opr (mul_opd _) (qLst (qa (qV (i := 2) rfl (.inl rfl)) qa0)) qI)) (qOne (qCm (eq_opr a.hu) (eq_opd _) (qBl (cr_reprD (SysIn.h (base := base)) a.gd a.rp) (reprD_cd _) T.n_repr (qa (qV (i := 1) rfl (.inl rfl)) qa0)) (qV (i := 3) rfl (.inl rfl)))))))))
def B1_law_are_rows_judged (F_law_is_row_error F_law_pick F_law_draw : Fn) : VSt :=
  (vIfS (vNotT (vTr (vCall 3 F_law_is_row_error (vCons (vVar 1) (vCons (vVar 5) (vCons (vVar 9) vNil)))))) (vRet (vC (.bl false))) vPass)
def L1_law_are_rows_judged (F_law_is_row_error F_law_pick F_law_draw : Fn) : VSt :=
  (vFor (vIt (vLst (vCons (vTup (vCons (vVar 10) (vCons (vC .non) vNil))) (vCons (vTup (vCons (vVar 11) (vCons (vC (.str (Str.ofString "form"))) vNil))) (vCons (vTup (vCons (vVar 10) (vCons (vC .non) vNil))) (vCons (vTup (vCons (vVar 12) (vCons (vC .non) vNil))) (vCons (vTup (vCons (vVar 2) (vCons (vC .non) vNil))) vNil))))))) (gP (pTup 2 (psCons (pN 5) (psCons (pN 9) psNil)))) (B1_law_are_rows_judged F_law_is_row_error F_law_pick F_law_draw))
def E1_law_are_rows_judged (F_law_is_row_error F_law_pick F_law_draw : Fn) : VE :=
  (vIf (vTr (vOp dEq (vOp dMul (vOp aFdv (vOp dAdd (vVar 13) (vVar 1)) (vC (.int 2))) (vC (.int 2))) (vOp dAdd (vVar 13) (vVar 1)))) (vOp aPow (vC (.int 10)) (vC (.int 30))) (vUn uNeg (vOp aPow (vC (.int 10)) (vC (.int 30)))))
def C1_law_are_rows_judged (F_law_is_row_error F_law_pick F_law_draw : Fn) : VE :=
  (vLc (vRng1 (vCons (vVar 1) vNil)) [13] (pN 13) vYes (E1_law_are_rows_judged F_law_is_row_error F_law_pick F_law_draw))
def S1_law_are_rows_judged (F_law_is_row_error F_law_pick F_law_draw : Fn) : VSt :=
  (vAsg (vBl bTup (vCons (C1_law_are_rows_judged F_law_is_row_error F_law_pick F_law_draw) vNil)) (gName 12))
def S2_law_are_rows_judged (F_law_is_row_error F_law_pick F_law_draw : Fn) : VSt :=
  (vPar 10 11 (vCons (vOp dAdd (vTup (vCons (vC (.int 1)) vNil)) (vOp dMulZ (vTup (vCons (vC (.int 0)) vNil)) (vOp aSub (vVar 1) (vC (.int 1))))) (vCons (vOp dAdd (vTup (vCons (vC (.bl true)) vNil)) (vOp dMulZ (vTup (vCons (vC (.bl false)) vNil)) (vOp aSub (vVar 1) (vC (.int 1))))) vNil)))
def E2_law_are_rows_judged (F_law_is_row_error F_law_pick F_law_draw : Fn) : VE :=
  (vBl bReprD (vCons (vVar 14) vNil))
def C2_law_are_rows_judged (F_law_is_row_error F_law_pick F_law_draw : Fn) : VE :=
  (vLc (vIt (vVar 4)) [14] (pN 14) vYes (E2_law_are_rows_judged F_law_is_row_error F_law_pick F_law_draw))
def B2_law_are_rows_judged (F_law_is_row_error F_law_pick F_law_draw : Fn) : VSt :=
  (vSeq (vPar 7 8 (vCons (vCall 2 F_law_pick (vCons (vVar 0) (vCons (vLst (vCons (vC (.int 0)) (vCons (vCall 2 F_law_draw (vCons (vVar 0) (vCons (vVar 1) vNil))) (vCons (vOp aSub (vVar 1) (vC (.int 1))) vNil)))) vNil))) (vCons (vCall 2 F_law_draw (vCons (vVar 0) (vCons (vVar 1) vNil))) vNil)))
    (vSeq (vAsg (vOp dAdd (vOp dAdd (vSl (vVar 2) oNone (oSome (vVar 7))) (vTup (vCons (vVar 6) vNil))) (vSl (vVar 2) (oSome (vOp dAdd (vVar 7) (vC (.int 1)))) oNone)) (gName 5))
    (vSeq (vAsg (vIf (vTr (vOp dIn (vBl bReprD (vCons (vVar 6) vNil)) (C2_law_are_rows_judged F_law_is_row_error F_law_pick F_law_draw))) (vC (.str (Str.ofString "form"))) (vTup (vCons (vC (.str (Str.ofString "item"))) (vCons (vVar 7) vNil)))) (gName 9))
    (vSeq (vIfS (vNotT (vTr (vCall 3 F_law_is_row_error (vCons (vVar 1) (vCons (vVar 5) (vCons (vVar 9) vNil)))))) (vRet (vC (.bl false))) vPass)
    (vSeq (vAsg (vOp dAdd (vOp dAdd (vSl (vVar 5) oNone (oSome (vVar 8))) (vTup (vCons (vCall 2 F_law_pick (vCons (vVar 0) (vCons (vVar 3) vNil))) vNil))) (vSl (vVar 5) (oSome (vOp dAdd (vVar 8) (vC (.int 1)))) oNone)) (gName 5))
    (vSeq (vIfS (vAndT (vTr (vOp dEq (vVar 9) (vC (.str (Str.ofString "form"))))) (vTr (vOp dEq (vVar 8) (vVar 7)))) (vAsg (vTup (vCons (vC (.str (Str.ofString "item"))) (vCons (vVar 7) vNil))) (gName 9)) vPass)
    (vSeq (vIfS (vNotT (vTr (vCall 3 F_law_is_row_error (vCons (vVar 1) (vCons (vVar 5) (vCons (vIf (vTr (vOp dEq (vVar 9) (vC (.str (Str.ofString "form"))))) (vVar 9) (vTup (vCons (vC (.str (Str.ofString "item"))) (vCons (vBl bMin (vCons (vVar 7) (vCons (vVar 8) vNil))) vNil)))) vNil)))))) (vRet (vC (.bl false))) vPass)
    (vIfS (vNotT (vTr (vCall 3 F_law_is_row_error (vCons (vVar 1) (vCons (vSl (vVar 5) oNone (oSome (vUn uNeg (vC (.int 1))))) (vCons (vC (.str (Str.ofString "form"))) vNil)))))) (vRet (vC (.bl false))) vPass))))))))
def L2_law_are_rows_judged (F_law_is_row_error F_law_pick F_law_draw : Fn) : VSt :=
  (vFor (vIt (vOp dAdd (vVar 3) (vVar 4))) (gP (pN 6)) (B2_law_are_rows_judged F_law_is_row_error F_law_pick F_law_draw))
def S3_law_are_rows_judged (F_law_is_row_error F_law_pick F_law_draw : Fn) : VSt :=
  (vIfS (vNotT (vTr (vCall 3 F_law_is_row_error (vCons (vVar 1) (vCons (vSl (vVar 2) oNone (oSome (vUn uNeg (vC (.int 1))))) (vCons (vC (.str (Str.ofString "form"))) vNil)))))) (vRet (vC (.bl false))) vPass)
def S4_law_are_rows_judged (F_law_is_row_error F_law_pick F_law_draw : Fn) : VSt :=
  (vIfS (vTr (vOp dEq (vVar 1) (vC (.int 0)))) (vRet (vCall 3 F_law_is_row_error (vCons (vC (.int 0)) (vCons (vTup vNil) (vCons (vC .non) vNil))))) vPass)
def B3_law_are_rows_judged (F_law_is_row_error F_law_pick F_law_draw : Fn) : VSt :=
  (vIfS (vNotT (vTr (vCall 3 F_law_is_row_error (vCons (vVar 1) (vCons (vVar 5) (vCons (vC (.str (Str.ofString "form"))) vNil)))))) (vRet (vC (.bl false))) vPass)
def L3_law_are_rows_judged (F_law_is_row_error F_law_pick F_law_draw : Fn) : VSt :=
  (vFor (vIt (vLst (vCons (vC .non) (vCons (vC (.bl true)) (vCons (vC (.int 0)) (vCons (vC (.str (Str.ofString ""))) (vCons (vC (.str (Str.ofString "12"))) (vCons (vBl bList (vCons (vVar 2) vNil)) (vCons (vLst (vCons (vVar 2) vNil)) (vCons vDic0 (vCons (vOp dAdd (vVar 2) (vTup (vCons (vC (.int 0)) vNil))) (vCons (vOp dAdd (vVar 2) (vTup (vCons (vOp dAdd (vOp aPow (vC (.int 10)) (vC (.int 30))) (vC (.int 1))) vNil))) (vCons (vOp dAdd (vVar 2) (vTup (vCons (vC .non) vNil))) vNil))))))))))))) (gP (pN 5)) (B3_law_are_rows_judged F_law_is_row_error F_law_pick F_law_draw))
def S5_law_are_rows_judged (F_law_is_row_error F_law_pick F_law_draw : Fn) : VSt :=
  (vAsg (vLst (vCons (vC (.bl true)) (vCons (vC (.bl false)) (vCons (vC .non) (vCons (vC (.str (Str.ofString "1"))) (vCons (vC (.str (Str.ofString ""))) (vCons (vTup (vCons (vC (.int 1)) vNil)) (vCons (vLst (vCons (vC (.int 1)) vNil)) (vCons vDic0 (vCons (vTup vNil) vNil)))))))))) (gName 4))
def S6_law_are_rows_judged (F_law_is_row_error F_law_pick F_law_draw : Fn) : VSt :=
  (vAsg (vLst (vCons (vOp dAdd (vOp aPow (vC (.int 10)) (vC (.int 30))) (vC (.int 1))) (vCons (vOp aSub (vUn uNeg (vOp aPow (vC (.int 10)) (vC (.int 30)))) (vC (.int 1))) (vCons (vOp aPow (vC (.int 10)) (vC (.int 31))) (vCons (vOp aPow (vOp aPow (vC (.int 10)) (vC (.int 57))) (vC (.int 7))) (vCons (vOp aSub (vC (.int 1)) (vOp aPow (vOp aPow (vC (.int 10)) (vC (.int 57))) (vC (.int 7)))) vNil)))))) (gName 3))
def m_law_are_rows_judged (F_law_is_row_error F_law_pick F_law_draw : Fn) : VSt :=
  (vSeq (S6_law_are_rows_judged F_law_is_row_error F_law_pick F_law_draw)
    (vSeq (S5_law_are_rows_judged F_law_is_row_error F_law_pick F_law_draw)
    (vSeq (L3_law_are_rows_judged F_law_is_row_error F_law_pick F_law_draw)
    (vSeq (S4_law_are_rows_judged F_law_is_row_error F_law_pick F_law_draw)
    (vSeq (S3_law_are_rows_judged F_law_is_row_error F_law_pick F_law_draw)
    (vSeq (L2_law_are_rows_judged F_law_is_row_error F_law_pick F_law_draw)
    (vSeq (S2_law_are_rows_judged F_law_is_row_error F_law_pick F_law_draw)
    (vSeq (S1_law_are_rows_judged F_law_is_row_error F_law_pick F_law_draw)
    (vSeq (L1_law_are_rows_judged F_law_is_row_error F_law_pick F_law_draw)
    (vRet (vC (.bl true))))))))))))
theorem ok_law_are_rows_judged (T : Txt K mg) {F_law_is_row_error F_law_pick F_law_draw : Fn} (G_law_is_row_error : FnG P w K mg base 3 T.a_law_is_row_error T.d_law_is_row_error P_law_is_row_error F_law_is_row_error) (G_law_pick : FnG P w K mg base 2 T.a_law_pick T.d_law_pick P_law_pick F_law_pick) (G_law_draw : FnG P w K mg base 1 T.a_law_draw T.d_law_draw P_law_draw F_law_draw) : FnG P w K mg base 4 T.a_law_are_rows_judged T.d_law_are_rows_judged P_law_are_rows_judged (mF 15 (m_law_are_rows_judged F_law_is_row_error F_law_pick F_law_draw)) :=
  fnG_of T.f_law_are_rows_judged sc_law_are_rows_judged fun cdv A outer s H E a =>
    (qsCons (qSet (i := 3) sc_law_are_rows_judged.nd (qLst (qa (qOp add_opr (add_opd _) (qOp op_powB (pow_ii _) qI qI) qI) (qa (qOp op_sub (sub_ii _) (qUn un_neg (neg_un _) (qOp op_powB (pow_ii _) qI qI)) qI) (qa (qOp op_powB (pow_ii _) qI qI) (qa (qOp op_powB (pow_ii _) (qOp op_powB (pow_ii _) qI qI) qI) (qa (qOp op_sub (sub_ii _) qI (qOp op_powB (pow_ii _) (qOp op_powB (pow_ii _) qI qI) qI)) qa0)))))) rfl (.inl rfl))
    (qsCons (qSet (i := 4) sc_law_are_rows_judged.nd (qLst (qa qB (qa qB (qa qN (qa qS (qa qS (qa (qTup (qa qI qa0)) (qa (qLst (qa qI qa0)) (qa qDic0 (qa (qTup qa0) qa0)))))))))) rfl (.inl rfl))
    (qsCons (qFor a.ps rfl (qIt (qLst (qa qN (qa qB (qa qI (qa qS (qa qS (qa (qTy call_list_of (list_cd _) T.n_list (qa (qV (i := 2) rfl (.inl rfl)) qa0)) (qa (qLst (qa (qV (i := 2) rfl (.inl rfl)) qa0)) (qa qDic0 (qa (qOp add_opr (add_opd _) (qV (i := 2) rfl (.inl rfl)) (qTup (qa qI qa0))) (qa (qOp add_opr (add_opd _) (qV (i := 2) rfl (.inl rfl)) (qTup (qa (qOp add_opr (add_opd _) (qOp op_powB (pow_ii _) qI qI) qI) qa0))) (qa (qOp add_opr (add_opd _) (qV (i := 2) rfl (.inl rfl)) (qTup (qa qN qa0))) qa0))))))))))))) (qgP (vs := [5]) (pg_name (i := 5) sc_law_are_rows_judged.nd rfl (.inl rfl)) (tgd_name (by decide))) (qsOne (qIfS (qNotT (qT (qCall G_law_is_row_error (a.mono (by decide)) T.g_law_is_row_error T.k_law_is_row_error T.b_law_is_row_error (qa (qV (i := 1) rfl (.inr (.inl rfl))) (qa (qV (i := 5) rfl (.inl rfl)) (qa qS qa0)))))) (qsOne (qRet qB)) qsNil)))
    (qsCons (qIfS (qCmT (eq_opr a.hu) (eq_opd _) (qV (i := 1) rfl (.inr (.inl rfl))) qI) (qsOne (qRet (qCall G_law_is_row_error (a.mono (by decide)) T.g_law_is_row_error T.k_law_is_row_error T.b_law_is_row_error (qa qI (qa (qTup qa0) (qa qN qa0)))))) qsNil)
    (qsCons (qIfS (qNotT (qT (qCall G_law_is_row_error (a.mono (by decide)) T.g_law_is_row_error T.k_law_is_row_error T.b_law_is_row_error (qa (qV (i := 1) rfl (.inr (.inl rfl))) (qa (qSl (qV (i := 2) rfl (.inl rfl)) qo0 (qo (qUn un_neg (neg_un _) qI))) (qa qS qa0)))))) (qsOne (qRet qB)) qsNil)
    (qsCons (qFor a.ps rfl (qIt (qOp add_opr (add_opd _) (qV (i := 3) rfl (.inl rfl)) (qV (i := 4) rfl (.inl rfl)))) (qgP (vs := [6]) (pg_name (i := 6) sc_law_are_rows_judged.nd rfl (.inl rfl)) (tgd_name (by decide))) (qsCons (qPar2 (i := 7) (j := 8) rfl sc_law_are_rows_judged.nd (qa (qCall G_law_pick (a.mono (by decide)) T.g_law_pick T.k_law_pick T.b_law_pick (qa (qV (i := 0) rfl (.inl rfl)) (qa (qLst (qa qI (qa (qCall G_law_draw (a.mono (by decide)) T.g_law_draw T.k_law_draw T.b_law_draw (qa (qV (i := 0) rfl (.inl rfl)) (qa (qV (i := 1) rfl (.inr (.inl rfl))) qa0))) (qa (qOp op_sub (sub_ii _) (qV (i := 1) rfl (.inr (.inl rfl))) qI) qa0)))) qa0))) (qa (qCall G_law_draw (a.mono (by decide)) T.g_law_draw T.k_law_draw T.b_law_draw (qa (qV (i := 0) rfl (.inl rfl)) (qa (qV (i := 1) rfl (.inr (.inl rfl))) qa0))) qa0)))
    (qsCons (qSet (i := 5) sc_law_are_rows_judged.nd (qOp add_opr (add_opd _) (qOp add_opr (add_opd _) (qSl (qV (i := 2) rfl (.inl rfl)) qo0 (qo (qV (i := 7) rfl (.inl rfl)))) (qTup (qa (qV (i := 6) rfl (.inl rfl)) qa0))) (qSl (qV (i := 2) rfl (.inl rfl)) (qo (qOp add_opr (add_opd _) (qV (i := 7) rfl (.inl rfl)) qI)) qo0)) rfl (.inl rfl))
    (qsCons (qSet (i := 9) sc_law_are_rows_judged.nd (qIf (qCmT op_in_seq (in_opd _) (qBl (cr_reprD (SysIn.h (base := base)) a.gd a.rp) (reprD_cd _) T.n_repr (qa (qV (i := 6) rfl (.inl rfl)) qa0)) (qLc (own := [("one", 14)]) rfl sc_law_are_rows_judged.nd (qIt (qV (i := 4) rfl (.inl rfl))) (blkOk_by (N := N_law_are_rows_judged) (sc := defScope s_law_are_rows_judged) (own := [("one", 14)]) (by decide +kernel)) (tgd_name (by decide)) (fun _ _ _ _ _ => (pg_name (i := 14) sc_law_are_rows_judged.nd rfl (.inl rfl))) (fun _ _ _ _ _ => (qYes _ _)) (fun _ _ _ _ _ => (qBl (cr_reprD (SysIn.h (base := base)) a.blk.gd a.blk.rp) (reprD_cd _) T.n_repr (qa (qV (i := 14) rfl (.inl rfl)) qa0))))) qS (qTup (qa qS (qa (qV (i := 7) rfl (.inl rfl)) qa0)))) rfl (.inl rfl))
    (qsCons (qIfS (qNotT (qT (qCall G_law_is_row_error (a.mono (by decide)) T.g_law_is_row_error T.k_law_is_row_error T.b_law_is_row_error (qa (qV (i := 1) rfl (.inr (.inl rfl))) (qa (qV (i := 5) rfl (.inl rfl)) (qa (qV (i := 9) rfl (.inl rfl)) qa0)))))) (qsOne (qRet qB)) qsNil)
    (qsCons (qSet (i := 5) sc_law_are_rows_judged.nd (qOp add_opr (add_opd _) (qOp add_opr (add_opd _) (qSl (qV (i := 5) rfl (.inl rfl)) qo0 (qo (qV (i := 8) rfl (.inl rfl)))) (qTup (qa (qCall G_law_pick (a.mono (by decide)) T.g_law_pick T.k_law_pick T.b_law_pick (qa (qV (i := 0) rfl (.inl rfl)) (qa (qV (i := 3) rfl (.inl rfl)) qa0))) qa0))) (qSl (qV (i := 5) rfl (.inl rfl)) (qo (qOp add_opr (add_opd _) (qV (i := 8) rfl (.inl rfl)) qI)) qo0)) rfl (.inl rfl))
    (qsCons (qIfS (PW.pt (qAndT (qCmT (eq_opr a.hu) (eq_opd _) (qV (i := 9) rfl (.inl rfl)) qS) (qAnd1 (qCmT (eq_opr a.hu) (eq_opd _) (qV (i := 8) rfl (.inl rfl)) (qV (i := 7) rfl (.inl rfl)))))) (qsOne (qSet (i := 9) sc_law_are_rows_judged.nd (qTup (qa qS (qa (qV (i := 7) rfl (.inl rfl)) qa0))) rfl (.inl rfl))) qsNil)
    (qsCons (qIfS (qNotT (qT (qCall G_law_is_row_error (a.mono (by decide)) T.g_law_is_row_error T.k_law_is_row_error T.b_law_is_row_error (qa (qV (i := 1) rfl (.inr (.inl rfl))) (qa (qV (i := 5) rfl (.inl rfl)) (qa (qIf (qCmT (eq_opr a.hu) (eq_opd _) (qV (i := 9) rfl (.inl rfl)) qS) (qV (i := 9) rfl (.inl rfl)) (qTup (qa qS (qa (qBl (cr_minS rfl) (min_cd _) T.n_min (qa (qV (i := 7) rfl (.inl rfl)) (qa (qV (i := 8) rfl (.inl rfl)) qa0))) qa0)))) qa0)))))) (qsOne (qRet qB)) qsNil)
    (qsOne (qIfS (qNotT (qT (qCall G_law_is_row_error (a.mono (by decide)) T.g_law_is_row_error T.k_law_is_row_error T.b_law_is_row_error (qa (qV (i := 1) rfl (.inr (.inl rfl))) (qa (qSl (qV (i := 5) rfl (.inl rfl)) qo0 (qo (qUn un_neg (neg_un _) qI))) (qa qS qa0)))))) (qsOne (qRet qB)) qsNil))))))))))
    (qsCons (qPar2 (i := 10) (j := 11) rfl sc_law_are_rows_judged.nd (qa (qOp add_opr (add_opd _) (qTup (qa qI qa0)) (qOp mulZ_opr (mulZ_opdd _) (qTup (qa qI qa0)) (qOp op_sub (sub_ii _) (qV (i := 1) rfl (.inr (.inl rfl))) qI))) (qa (qOp add_opr (add_opd _) (qTup (qa qB qa0)) (qOp mulZ_opr (mulZ_opdd _) (qTup (qa qB qa0)) (qOp op_sub (sub_ii _) (qV (i := 1) rfl (.inr (.inl rfl))) qI))) qa0)))
    (qsCons (qSet (i := 12) sc_law_are_rows_judged.nd (qTy call_tuple_of (tup_cd _) T.n_tuple (qa (qLc (own := [("w", 13)]) rfl sc_law_are_rows_judged.nd (qRng1 T.n_range (qa (qV (i := 1) rfl (.inr (.inl rfl))) qa0)) (blkOk_by (N := N_law_are_rows_judged) (sc := defScope s_law_are_rows_judged) (own := [("w", 13)]) (by decide +kernel)) (tgd_name (by decide)) (fun _ _ _ _ _ => (pg_name (i := 13) sc_law_are_rows_judged.nd rfl (.inl rfl))) (fun _ _ _ _ _ => (qYes _ _)) (fun _ _ _ _ _ => (qIf (qCmT (eq_opr a.blk.hu) (eq_opd _) (qOp mul_opr (mul_opd _) (qOp fdv_opr (fdv_ii _) (qOp add_opr (add_opd _) (qV (i := 13) rfl (.inl rfl)) (qV (i := 1) rfl (.inr (.inl rfl)))) qI) qI) (qOp add_opr (add_opd _) (qV (i := 13) rfl (.inl rfl)) (qV (i := 1) rfl (.inr (.inl rfl))))) (qOp op_powB (pow_ii _) qI qI) (qUn un_neg (neg_un _) (qOp op_powB (pow_ii _) qI qI))))) qa0)) rfl (.inl rfl))
    (qsCons (qFor a.ps rfl (qIt (qLst (qa (qTup (qa (qV (i := 10) rfl (.inl rfl)) (qa qN qa0))) (qa (qTup (qa (qV (i := 11) rfl (.inl rfl)) (qa qS qa0))) (qa (qTup (qa (qV (i := 10) rfl (.inl rfl)) (qa qN qa0))) (qa (qTup (qa (qV (i := 12) rfl (.inl rfl)) (qa qN qa0))) (qa (qTup (qa (qV (i := 2) rfl (.inl rfl)) (qa qN qa0))) qa0))))))) (qgP (vs := [5, 9]) (pg_tup rfl (pgs_cons (pg_name (i := 5) sc_law_are_rows_judged.nd rfl (.inl rfl)) (pgs_cons (pg_name (i := 9) sc_law_are_rows_judged.nd rfl (.inl rfl)) pgs_nil))) (tgd_tup (tgsd_cons (tgd_name (by decide)) (tgsd_cons (tgd_name (by decide)) tgsd_nil)))) (qsOne (qIfS (qNotT (qT (qCall G_law_is_row_error (a.mono (by decide)) T.g_law_is_row_error T.k_law_is_row_error T.b_law_is_row_error (qa (qV (i := 1) rfl (.inr (.inl rfl))) (qa (qV (i := 5) rfl (.inl rfl)) (qa (qV (i := 9) rfl (.inl rfl)) qa0)))))) (qsOne (qRet qB)) qsNil)))
    (qsOne (qRet qB)))))))))))
def S1_law_is_great_run (F_law_is_run_right F_joined_nets F_law_made F_law_draw F_law_net F_law_pick : Fn) : VSt :=
  (vPar 6 7 (vCons (vCall 2 F_joined_nets (vCons (vVar 6) (vCons (vOp dAdd (vVar 4) (vTup (vCons (vVar 10) vNil))) vNil))) (vCons (vOp dAdd (vOp dAdd (vVar 7) (vVar 4)) (vTup (vCons (vVar 10) vNil))) vNil)))
def B1_law_is_great_run (F_law_is_run_right F_joined_nets F_law_made F_law_draw F_law_net F_law_pick : Fn) : VSt :=
  (vIfS (vTr (vOp dNe (vOp dIx (vVar 9) (vVar 11)) (vOp dIx (vVar 9) (vOp dAdd (vVar 11) (vC (.int 1)))))) (vAsg (vIf (vTr (vOp aGt (vOp dIx (vVar 9) (vVar 11)) (vOp dIx (vVar 9) (vOp dAdd (vVar 11) (vC (.int 1)))))) (vTup (vCons (vVar 11) (vCons (vOp dAdd (vVar 11) (vC (.int 1))) vNil))) (vTup (vCons (vOp dAdd (vVar 11) (vC (.int 1))) (vCons (vVar 11) vNil)))) (gName 10)) vPass)
def L1_law_is_great_run (F_law_is_run_right F_joined_nets F_law_made F_law_draw F_law_net F_law_pick : Fn) : VSt :=
  (vFor (vRng1 (vCons (vOp aSub (vVar 1) (vC (.int 1))) vNil)) (gP (pN 11)) (B1_law_is_great_run F_law_is_run_right F_joined_nets F_law_made F_law_draw F_law_net F_law_pick))
def S2_law_is_great_run (F_law_is_run_right F_joined_nets F_law_made F_law_draw F_law_net F_law_pick : Fn) : VSt :=
  (vPar 9 10 (vCons (vCall 2 F_law_made (vCons (vOp dAdd (vVar 7) (vVar 4)) (vCons (vVar 5) vNil))) (vCons (vTup (vCons (vC (.int 1)) (vCons (vC (.int 0)) vNil))) vNil)))
def S3_law_is_great_run (F_law_is_run_right F_joined_nets F_law_made F_law_draw F_law_net F_law_pick : Fn) : VSt :=
  (vIfS (vOrT (vTr (vOp dNe (vBl bReprD (vCons (vVar 6) vNil)) (vBl bReprD (vCons (vVar 7) vNil)))) (vNotT (vTr (vCall 3 F_law_is_run_right (vCons (vVar 1) (vCons (vVar 6) (vCons (vVar 5) vNil))))))) (vRet (vC (.bl false))) vPass)
def B2_law_is_great_run (F_law_is_run_right F_joined_nets F_law_made F_law_draw F_law_net F_law_pick : Fn) : VSt :=
  (vPar 6 7 (vCons (vCall 2 F_joined_nets (vCons (vVar 6) (vCons (vVar 6) vNil))) (vCons (vOp dMul (vVar 7) (vC (.int 2))) vNil)))
def L2_law_is_great_run (F_law_is_run_right F_joined_nets F_law_made F_law_draw F_law_net F_law_pick : Fn) : VSt :=
  (vFor (vRng1 (vCons (vC (.int 2)) vNil)) (gP (pN 8)) (B2_law_is_great_run F_law_is_run_right F_joined_nets F_law_made F_law_draw F_law_net F_law_pick))
def S4_law_is_great_run (F_law_is_run_right F_joined_nets F_law_made F_law_draw F_law_net F_law_pick : Fn) : VSt :=
  (vAsg (vOp dMul (vVar 3) (vC (.int 2))) (gName 7))
def E1_law_is_great_run (F_law_is_run_right F_joined_nets F_law_made F_law_draw F_law_net F_law_pick : Fn) : VE :=
  (vCall 2 F_law_draw (vCons (vVar 0) (vCons (vC (.int 9)) vNil)))
def C1_law_is_great_run (F_law_is_run_right F_joined_nets F_law_made F_law_draw F_law_net F_law_pick : Fn) : VE :=
  (vLc (vRng1 (vCons (vVar 1) vNil)) [12] (pN 12) vYes (E1_law_is_great_run F_law_is_run_right F_joined_nets F_law_made F_law_draw F_law_net F_law_pick))
def S5_law_is_great_run (F_law_is_run_right F_joined_nets F_law_made F_law_draw F_law_net F_law_pick : Fn) : VSt :=
  (vPar 5 6 (vCons (vBl bTup (vCons (C1_law_is_great_run F_law_is_run_right F_joined_nets F_law_made F_law_draw F_law_net F_law_pick) vNil)) (vCons (vCall 2 F_joined_nets (vCons (vVar 3) (vCons (vVar 3) vNil))) vNil)))
def S6_law_is_great_run (F_law_is_run_right F_joined_nets F_law_made F_law_draw F_law_net F_law_pick : Fn) : VSt :=
  (vPar 3 4 (vCons (vCall 4 F_law_net (vCons (vVar 0) (vCons (vVar 1) (vCons (vC (.int 60)) (vCons (vVar 2) vNil))))) (vCons (vCall 4 F_law_net (vCons (vVar 0) (vCons (vVar 1) (vCons (vC (.int 19)) (vCons (vVar 2) vNil))))) vNil)))
def S7_law_is_great_run (F_law_is_run_right F_joined_nets F_law_made F_law_draw F_law_net F_law_pick : Fn) : VSt :=
  (vAsg (vCall 2 F_law_pick (vCons (vVar 0) (vCons (vLst (vCons (vC (.int 0)) (vCons (vC (.int 0)) (vCons (vC (.int 3)) vNil)))) vNil))) (gName 2))
def m_law_is_great_run (F_law_is_run_right F_joined_nets F_law_made F_law_draw F_law_net F_law_pick : Fn) : VSt :=
  (vSeq (S7_law_is_great_run F_law_is_run_right F_joined_nets F_law_made F_law_draw F_law_net F_law_pick)
    (vSeq (S6_law_is_great_run F_law_is_run_right F_joined_nets F_law_made F_law_draw F_law_net F_law_pick)
    (vSeq (S5_law_is_great_run F_law_is_run_right F_joined_nets F_law_made F_law_draw F_law_net F_law_pick)
    (vSeq (S4_law_is_great_run F_law_is_run_right F_joined_nets F_law_made F_law_draw F_law_net F_law_pick)
    (vSeq (L2_law_is_great_run F_law_is_run_right F_joined_nets F_law_made F_law_draw F_law_net F_law_pick)
    (vSeq (S3_law_is_great_run F_law_is_run_right F_joined_nets F_law_made F_law_draw F_law_net F_law_pick)
    (vSeq (S2_law_is_great_run F_law_is_run_right F_joined_nets F_law_made F_law_draw F_law_net F_law_pick)
    (vSeq (L1_law_is_great_run F_law_is_run_right F_joined_nets F_law_made F_law_draw F_law_net F_law_pick)
    (vSeq (S1_law_is_great_run F_law_is_run_right F_joined_nets F_law_made F_law_draw F_law_net F_law_pick)
    (vRet (vAnd (vOp dEq (vBl bReprD (vCons (vVar 6) vNil)) (vBl bReprD (vCons (vVar 7) vNil))) (vCall 3 F_law_is_run_right (vCons (vVar 1) (vCons (vVar 6) (vCons (vVar 5) vNil)))))))))))))))
theorem ok_law_is_great_run (T : Txt K mg) {F_law_is_run_right F_joined_nets F_law_made F_law_draw F_law_net F_law_pick : Fn} (G_law_is_run_right : FnG P w K mg base 5 T.a_law_is_run_right T.d_law_is_run_right P_law_is_run_right F_law_is_run_right) (G_joined_nets : FnG P w K mg base 1 T.a_joined_nets T.d_joined_nets P_joined_nets F_joined_nets) (G_law_made : FnG P w K mg base 1 T.a_law_made T.d_law_made P_law_made F_law_made) (G_law_draw : FnG P w K mg base 1 T.a_law_draw T.d_law_draw P_law_draw F_law_draw) (G_law_net : FnG P w K mg base 3 T.a_law_net T.d_law_net P_law_net F_law_net) (G_law_pick : FnG P w K mg base 2 T.a_law_pick T.d_law_pick P_law_pick F_law_pick) : FnG P w K mg base 6 T.a_law_is_great_run T.d_law_is_great_run P_law_is_great_run (mF 13 (m_law_is_great_run F_law_is_run_right F_joined_nets F_law_made F_law_draw F_law_net F_law_pick)) :=
  fnG_of T.f_law_is_great_run sc_law_is_great_run fun cdv A outer s H E a =>
    (qsCons (qSet (i := 2) sc_law_is_great_run.nd (qCall G_law_pick (a.mono (by decide)) T.g_law_pick T.k_law_pick T.b_law_pick (qa (qV (i := 0) rfl (.inr (.inl rfl))) (qa (qLst (qa qI (qa qI (qa qI qa0)))) qa0))) rfl (.inl rfl))
    (qsCons (qPar2 (i := 3) (j := 4) rfl sc_law_is_great_run.nd (qa (qCall G_law_net (a.mono (by decide)) T.g_law_net T.k_law_net T.b_law_net (qa (qV (i := 0) rfl (.inr (.inl rfl))) (qa (qV (i := 1) rfl (.inl rfl)) (qa qI (qa (qV (i := 2) rfl (.inl rfl)) qa0))))) (qa (qCall G_law_net (a.mono (by decide)) T.g_law_net T.k_law_net T.b_law_net (qa (qV (i := 0) rfl (.inr (.inl rfl))) (qa (qV (i := 1) rfl (.inl rfl)) (qa qI (qa (qV (i := 2) rfl (.inl rfl)) qa0))))) qa0)))
    (qsCons (qPar2 (i := 5) (j := 6) rfl sc_law_is_great_run.nd (qa (qTy call_tuple_of (tup_cd _) T.n_tuple (qa (qLc (own := [("w", 12)]) rfl sc_law_is_great_run.nd (qRng1 T.n_range (qa (qV (i := 1) rfl (.inl rfl)) qa0)) (blkOk_by (N := N_law_is_great_run) (sc := defScope s_law_is_great_run) (own := [("w", 12)]) (by decide +kernel)) (tgd_name (by decide)) (fun _ _ _ _ _ => (pg_name (i := 12) sc_law_is_great_run.nd rfl (.inl rfl))) (fun _ _ _ _ _ => (qYes _ _)) (fun _ _ _ _ _ => (qCall G_law_draw (a.blk.mono (by decide)) T.g_law_draw T.k_law_draw T.b_law_draw (qa (qV (i := 0) rfl (.inr (.inl rfl))) (qa qI qa0))))) qa0)) (qa (qCall G_joined_nets (a.mono (by decide)) T.g_joined_nets T.k_joined_nets T.b_joined_nets (qa (qV (i := 3) rfl (.inl rfl)) (qa (qV (i := 3) rfl (.inl rfl)) qa0))) qa0)))
    (qsCons (qSet (i := 7) sc_law_is_great_run.nd (qOp mul_opr (mul_opd _) (qV (i := 3) rfl (.inl rfl)) qI) rfl (.inl rfl))
    (qsCons (qFor a.ps rfl (qRng1 T.n_range (qa qI qa0)) (qgP (vs := [8]) (pg_name (i := 8) sc_law_is_great_run.nd rfl (.inl rfl)) (tgd_name (by decide))) (qsOne (qPar2 (i := 6) (j := 7) rfl sc_law_is_great_run.nd (qa (qCall G_joined_nets (a.mono (by decide)) T.g_joined_nets T.k_joined_nets T.b_joined_nets (qa (qV (i := 6) rfl (.inl rfl)) (qa (qV (i := 6) rfl (.inl rfl)) qa0))) (qa (qOp mul_opr (mul_opd _) (qV (i := 7) rfl (.inl rfl)) qI) qa0)))))
    (qsCons (qIfS (PW.pt (qOrT (qCmT (ne_opr a.hu) (ne_opd _) (qBl (cr_reprD (SysIn.h (base := base)) a.gd a.rp) (reprD_cd _) T.n_repr (qa (qV (i := 6) rfl (.inl rfl)) qa0)) (qBl (cr_reprD (SysIn.h (base := base)) a.gd a.rp) (reprD_cd _) T.n_repr (qa (qV (i := 7) rfl (.inl rfl)) qa0))) (qOr1 (qNotT (qT (qCall G_law_is_run_right (a.mono (by decide)) T.g_law_is_run_right T.k_law_is_run_right T.b_law_is_run_right (qa (qV (i := 1) rfl (.inl rfl)) (qa (qV (i := 6) rfl (.inl rfl)) (qa (qV (i := 5) rfl (.inl rfl)) qa0))))))))) (qsOne (qRet qB)) qsNil)
    (qsCons (qPar2 (i := 9) (j := 10) rfl sc_law_is_great_run.nd (qa (qCall G_law_made (a.mono (by decide)) T.g_law_made T.k_law_made T.b_law_made (qa (qOp add_opr (add_opd _) (qV (i := 7) rfl (.inl rfl)) (qV (i := 4) rfl (.inl rfl))) (qa (qV (i := 5) rfl (.inl rfl)) qa0))) (qa (qTup (qa qI (qa qI qa0))) qa0)))
    (qsCons (qFor a.ps rfl (qRng1 T.n_range (qa (qOp op_sub (sub_ii _) (qV (i := 1) rfl (.inl rfl)) qI) qa0)) (qgP (vs := [11]) (pg_name (i := 11) sc_law_is_great_run.nd rfl (.inl rfl)) (tgd_name (by decide))) (qsOne (qIfS (qCmT (ne_opr a.hu) (ne_opd _) (qIx ix_seq (ix_opd _) (qV (i := 9) rfl (.inl rfl)) (qV (i := 11) rfl (.inl rfl))) (qIx ix_seq (ix_opd _) (qV (i := 9) rfl (.inl rfl)) (qOp add_opr (add_opd _) (qV (i := 11) rfl (.inl rfl)) qI))) (qsOne (qSet (i := 10) sc_law_is_great_run.nd (qIf (qCmT op_gt (gt_ii _) (qIx ix_seq (ix_opd _) (qV (i := 9) rfl (.inl rfl)) (qV (i := 11) rfl (.inl rfl))) (qIx ix_seq (ix_opd _) (qV (i := 9) rfl (.inl rfl)) (qOp add_opr (add_opd _) (qV (i := 11) rfl (.inl rfl)) qI))) (qTup (qa (qV (i := 11) rfl (.inl rfl)) (qa (qOp add_opr (add_opd _) (qV (i := 11) rfl (.inl rfl)) qI) qa0))) (qTup (qa (qOp add_opr (add_opd _) (qV (i := 11) rfl (.inl rfl)) qI) (qa (qV (i := 11) rfl (.inl rfl)) qa0)))) rfl (.inl rfl))) qsNil)))
    (qsCons (qPar2 (i := 6) (j := 7) rfl sc_law_is_great_run.nd (qa (qCall G_joined_nets (a.mono (by decide)) T.g_joined_nets T.k_joined_nets T.b_joined_nets (qa (qV (i := 6) rfl (.inl rfl)) (qa (qOp add_opr (add_opd _) (qV (i := 4) rfl (.inl rfl)) (qTup (qa (qV (i := 10) rfl (.inl rfl)) qa0))) qa0))) (qa (qOp add_opr (add_opd _) (qOp add_opr (add_opd _) (qV (i := 7) rfl (.inl rfl)) (qV (i := 4) rfl (.inl rfl))) (qTup (qa (qV (i := 10) rfl (.inl rfl)) qa0))) qa0)))
    (qsOne (qRet (qAnd (qCm (eq_opr a.hu) (eq_opd _) (qBl (cr_reprD (SysIn.h (base := base)) a.gd a.rp) (reprD_cd _) T.n_repr (qa (qV (i := 6) rfl (.inl rfl)) qa0)) (qBl (cr_reprD (SysIn.h (base := base)) a.gd a.rp) (reprD_cd _) T.n_repr (qa (qV (i := 7) rfl (.inl rfl)) qa0))) (qOne (qCall G_law_is_run_right (a.mono (by decide)) T.g_law_is_run_right T.k_law_is_run_right T.b_law_is_run_right (qa (qV (i := 1) rfl (.inl rfl)) (qa (qV (i := 6) rfl (.inl rfl)) (qa (qV (i := 5) rfl (.inl rfl)) qa0)))))))))))))))))
def B1_law_are_wide_right (F_is_ascending F_law_ascends F_law_draw : Fn) : VSt :=
  (vSeq (vAsg (vCall 1 F_law_ascends (vCons (vVar 7) vNil)) (gName 8))
    (vIfS (vTr (vOp dNe (vBl bReprD (vCons (vLst (vCons (vCall 1 F_is_ascending (vCons (vVar 7) vNil)) (vCons (vCallK 1 F_is_ascending (kwP 0 1 1 [0]) vNil (vCons (vVar 7) vNil)) vNil))) vNil)) (vBl bReprD (vCons (vLst (vCons (vVar 8) (vCons (vVar 8) vNil))) vNil)))) (vRet (vC (.bl false))) vPass))
def L1_law_are_wide_right (F_is_ascending F_law_ascends F_law_draw : Fn) : VSt :=
  (vFor (vIt (vLst (vCons (vVar 4) (vCons (vVar 6) (vCons (vBl bTup (vCons (vVar 2) vNil)) (vCons (vTup (vCons (vVar 1) vNil)) (vCons (vTup (vCons (vOp aSub (vUn uNeg (vVar 1)) (vC (.int 1))) vNil)) vNil))))))) (gP (pN 7)) (B1_law_are_wide_right F_is_ascending F_law_ascends F_law_draw))
def S1_law_are_wide_right (F_is_ascending F_law_ascends F_law_draw : Fn) : VSt :=
  (vAsg (vOp dAdd (vOp dAdd (vOp dAdd (vSl (vVar 4) oNone (oSome (vVar 5))) (vSl (vVar 4) (oSome (vOp dAdd (vVar 5) (vC (.int 1)))) (oSome (vOp dAdd (vVar 5) (vC (.int 2)))))) (vSl (vVar 4) (oSome (vVar 5)) (oSome (vOp dAdd (vVar 5) (vC (.int 1)))))) (vSl (vVar 4) (oSome (vOp dAdd (vVar 5) (vC (.int 2)))) oNone)) (gName 6))
def S2_law_are_wide_right (F_is_ascending F_law_ascends F_law_draw : Fn) : VSt :=
  (vAsg (vIf (vTr (vOp dNe (vVar 2) (vLst vNil))) (vCall 2 F_law_draw (vCons (vVar 0) (vCons (vBl bLen (vCons (vVar 2) vNil)) vNil))) (vC (.int 0))) (gName 5))
def S3_law_are_wide_right (F_is_ascending F_law_ascends F_law_draw : Fn) : VSt :=
  (vAsg (vBl bTup (vCons (vBl bSorted (vCons (vVar 2) vNil)) vNil)) (gName 4))
def B2_law_are_wide_right (F_is_ascending F_law_ascends F_law_draw : Fn) : VSt :=
  (vDrop (vMt "list" mAppend (vVar 2) (vCons (vOp dAdd (vOp dMul (vOp aSub (vCall 2 F_law_draw (vCons (vVar 0) (vCons (vC (.int 9)) vNil))) (vC (.int 4))) (vVar 1)) (vCall 2 F_law_draw (vCons (vVar 0) (vCons (vOp aPow (vC (.int 10)) (vC (.int 6))) vNil)))) vNil)))
def L2_law_are_wide_right (F_is_ascending F_law_ascends F_law_draw : Fn) : VSt :=
  (vFor (vRng1 (vCons (vCall 2 F_law_draw (vCons (vVar 0) (vCons (vC (.int 121)) vNil))) vNil)) (gP (pN 3)) (B2_law_are_wide_right F_is_ascending F_law_ascends F_law_draw))
def S4_law_are_wide_right (F_is_ascending F_law_ascends F_law_draw : Fn) : VSt :=
  (vPar 1 2 (vCons (vOp aPow (vOp aPow (vC (.int 10)) (vC (.int 60))) (vC (.int 6))) (vCons (vLst vNil) vNil)))
def m_law_are_wide_right (F_is_ascending F_law_ascends F_law_draw : Fn) : VSt :=
  (vSeq (S4_law_are_wide_right F_is_ascending F_law_ascends F_law_draw)
    (vSeq (L2_law_are_wide_right F_is_ascending F_law_ascends F_law_draw)
    (vSeq (S3_law_are_wide_right F_is_ascending F_law_ascends F_law_draw)
    (vSeq (S2_law_are_wide_right F_is_ascending F_law_ascends F_law_draw)
    (vSeq (S1_law_are_wide_right F_is_ascending F_law_ascends F_law_draw)
    (vSeq (L1_law_are_wide_right F_is_ascending F_law_ascends F_law_draw)
    (vRet (vC (.bl true)))))))))
theorem ok_law_are_wide_right (T : Txt K mg) {F_is_ascending F_law_ascends F_law_draw : Fn} (G_is_ascending : FnG P w K mg base 1 T.a_is_ascending T.d_is_ascending P_is_ascending F_is_ascending) (G_law_ascends : FnG P w K mg base 1 T.a_law_ascends T.d_law_ascends P_law_ascends F_law_ascends) (G_law_draw : FnG P w K mg base 1 T.a_law_draw T.d_law_draw P_law_draw F_law_draw) : FnG P w K mg base 2 T.a_law_are_wide_right T.d_law_are_wide_right P_law_are_wide_right (mF 9 (m_law_are_wide_right F_is_ascending F_law_ascends F_law_draw)) :=
  fnG_of T.f_law_are_wide_right sc_law_are_wide_right fun cdv A outer s H E a =>
    (qsCons (qPar2 (i := 1) (j := 2) rfl sc_law_are_wide_right.nd (qa (qOp op_powB (pow_ii _) (qOp op_powB (pow_ii _) qI qI) qI) (qa (qLst qa0) qa0)))
    (qsCons (qFor a.ps rfl (qRng1 T.n_range (qa (qCall G_law_draw (a.mono (by decide)) T.g_law_draw T.k_law_draw T.b_law_draw (qa (qV (i := 0) rfl (.inl rfl)) (qa qI qa0))) qa0)) (qgP (vs := [3]) (pg_name (i := 3) sc_law_are_wide_right.nd rfl (.inl rfl)) (tgd_name (by decide))) (qsOne (qDrop (qMt PySem.F.plainAttrs_list PySem.F.slot_list_append PySem.F.type_list_append mt_append (append_mtd _) (qV (i := 2) rfl (.inl rfl)) (qa (qOp add_opr (add_opd _) (qOp mul_opr (mul_opd _) (qOp op_sub (sub_ii _) (qCall G_law_draw (a.mono (by decide)) T.g_law_draw T.k_law_draw T.b_law_draw (qa (qV (i := 0) rfl (.inl rfl)) (qa qI qa0))) qI) (qV (i := 1) rfl (.inl rfl))) (qCall G_law_draw (a.mono (by decide)) T.g_law_draw T.k_law_draw T.b_law_draw (qa (qV (i := 0) rfl (.inl rfl)) (qa (qOp op_powB (pow_ii _) qI qI) qa0)))) qa0)))))
    (qsCons (qSet (i := 4) sc_law_are_wide_right.nd (qTy call_tuple_of (tup_cd _) T.n_tuple (qa (qBl cr_sorted2 (sorted_cd _) T.n_sorted (qa (qV (i := 2) rfl (.inl rfl)) qa0)) qa0)) rfl (.inl rfl))
    (qsCons (qSet (i := 5) sc_law_are_wide_right.nd (qIf (qCmT (ne_opr a.hu) (ne_opd _) (qV (i := 2) rfl (.inl rfl)) (qLst qa0)) (qCall G_law_draw (a.mono (by decide)) T.g_law_draw T.k_law_draw T.b_law_draw (qa (qV (i := 0) rfl (.inl rfl)) (qa (qBl call_len (len_cd _) T.n_len (qa (qV (i := 2) rfl (.inl rfl)) qa0)) qa0))) qI) rfl (.inl rfl))
    (qsCons (qSet (i := 6) sc_law_are_wide_right.nd (qOp add_opr (add_opd _) (qOp add_opr (add_opd _) (qOp add_opr (add_opd _) (qSl (qV (i := 4) rfl (.inl rfl)) qo0 (qo (qV (i := 5) rfl (.inl rfl)))) (qSl (qV (i := 4) rfl (.inl rfl)) (qo (qOp add_opr (add_opd _) (qV (i := 5) rfl (.inl rfl)) qI)) (qo (qOp add_opr (add_opd _) (qV (i := 5) rfl (.inl rfl)) qI)))) (qSl (qV (i := 4) rfl (.inl rfl)) (qo (qV (i := 5) rfl (.inl rfl))) (qo (qOp add_opr (add_opd _) (qV (i := 5) rfl (.inl rfl)) qI)))) (qSl (qV (i := 4) rfl (.inl rfl)) (qo (qOp add_opr (add_opd _) (qV (i := 5) rfl (.inl rfl)) qI)) qo0)) rfl (.inl rfl))
    (qsCons (qFor a.ps rfl (qIt (qLst (qa (qV (i := 4) rfl (.inl rfl)) (qa (qV (i := 6) rfl (.inl rfl)) (qa (qTy call_tuple_of (tup_cd _) T.n_tuple (qa (qV (i := 2) rfl (.inl rfl)) qa0)) (qa (qTup (qa (qV (i := 1) rfl (.inl rfl)) qa0)) (qa (qTup (qa (qOp op_sub (sub_ii _) (qUn un_neg (neg_un _) (qV (i := 1) rfl (.inl rfl))) qI) qa0)) qa0))))))) (qgP (vs := [7]) (pg_name (i := 7) sc_law_are_wide_right.nd rfl (.inl rfl)) (tgd_name (by decide))) (qsCons (qSet (i := 8) sc_law_are_wide_right.nd (qCall G_law_ascends (a.mono (by decide)) T.g_law_ascends T.k_law_ascends T.b_law_ascends (qa (qV (i := 7) rfl (.inl rfl)) qa0)) rfl (.inl rfl))
    (qsOne (qIfS (qCmT (ne_opr a.hu) (ne_opd _) (qBl (cr_reprD (SysIn.h (base := base)) a.gd a.rp) (reprD_cd _) T.n_repr (qa (qLst (qa (qCall G_is_ascending (a.mono (by decide)) T.g_is_ascending T.k_is_ascending T.b_is_ascending (qa (qV (i := 7) rfl (.inl rfl)) qa0)) (qa (qCallK0 G_is_ascending (a.mono (by decide)) T.g_is_ascending T.k_is_ascending (kw1 T) (qk (qV (i := 7) rfl (.inl rfl)) qk0)) qa0))) qa0)) (qBl (cr_reprD (SysIn.h (base := base)) a.gd a.rp) (reprD_cd _) T.n_repr (qa (qLst (qa (qV (i := 8) rfl (.inl rfl)) (qa (qV (i := 8) rfl (.inl rfl)) qa0))) qa0))) (qsOne (qRet qB)) qsNil))))
    (qsOne (qRet qB))))))))
def S1_law (F_law_are_wide_right F_law_are_rows_judged F_law_row F_law_pick F_law_is_great_run F_law_are_great_judged F_law_some_net F_law_draw F_law_are_nets_judged F_law_is_run_right F_law_own_bag : Fn) : VSt :=
  (vAsg (vCall 2 F_law_pick (vCons (vVar 1) (vCons (vLst (vCons (vC (.int 1)) (vCons (vC (.int 3)) (vCons (vC (.int 10)) vNil)))) vNil))) (gName 2))
def S2_law (F_law_are_wide_right F_law_are_rows_judged F_law_row F_law_pick F_law_is_great_run F_law_are_great_judged F_law_some_net F_law_draw F_law_are_nets_judged F_law_is_run_right F_law_own_bag : Fn) : VSt :=
  (vIfS (vOrT (vNotT (vTr (vCall 3 F_law_are_great_judged (vCons (vVar 1) (vCons (vVar 2) (vCons (vCall 2 F_law_some_net (vCons (vVar 1) (vCons (vVar 2) vNil))) vNil)))))) (vNotT (vTr (vCall 2 F_law_is_great_run (vCons (vVar 1) (vCons (vVar 2) vNil)))))) (vRet (vC (.bl false))) vPass)
def S3_law (F_law_are_wide_right F_law_are_rows_judged F_law_row F_law_pick F_law_is_great_run F_law_are_great_judged F_law_some_net F_law_draw F_law_are_nets_judged F_law_is_run_right F_law_own_bag : Fn) : VSt :=
  (vAsg (vOp dAdd (vC (.int 2)) (vCall 2 F_law_draw (vCons (vVar 1) (vCons (vC (.int 9)) vNil)))) (gName 2))
def S4_law (F_law_are_wide_right F_law_are_rows_judged F_law_row F_law_pick F_law_is_great_run F_law_are_great_judged F_law_some_net F_law_draw F_law_are_nets_judged F_law_is_run_right F_law_own_bag : Fn) : VSt :=
  (vIfS (vOrT (vNotT (vTr (vCall 3 F_law_are_nets_judged (vCons (vVar 1) (vCons (vVar 2) (vCons (vCall 2 F_law_some_net (vCons (vVar 1) (vCons (vVar 2) vNil))) vNil)))))) (vNotT (vTr (vCall 3 F_law_are_rows_judged (vCons (vVar 1) (vCons (vVar 2) (vCons (vCall 2 F_law_row (vCons (vVar 1) (vCons (vVar 2) vNil))) vNil))))))) (vRet (vC (.bl false))) vPass)
def S5_law (F_law_are_wide_right F_law_are_rows_judged F_law_row F_law_pick F_law_is_great_run F_law_are_great_judged F_law_some_net F_law_draw F_law_are_nets_judged F_law_is_run_right F_law_own_bag : Fn) : VSt :=
  (vAsg (vCall 2 F_law_draw (vCons (vVar 1) (vCons (vC (.int 11)) vNil))) (gName 2))
def B1_law (F_law_are_wide_right F_law_are_rows_judged F_law_row F_law_pick F_law_is_great_run F_law_are_great_judged F_law_some_net F_law_draw F_law_are_nets_judged F_law_is_run_right F_law_own_bag : Fn) : VSt :=
  (vSeq (vIfS (vNotT (vTr (vCall 3 F_law_is_run_right (vCons (vVar 2) (vCons (vCall 2 F_law_some_net (vCons (vVar 1) (vCons (vVar 2) vNil))) (vCons (vCall 2 F_law_row (vCons (vVar 1) (vCons (vVar 2) vNil))) vNil)))))) (vRet (vC (.bl false))) vPass)
    (vIfS (vNotT (vTr (vCall 3 F_law_is_run_right (vCons (vVar 2) (vCons (vCall 2 F_law_some_net (vCons (vVar 1) (vCons (vVar 2) vNil))) (vCons (vCall 2 F_law_row (vCons (vVar 1) (vCons (vVar 2) vNil))) vNil)))))) (vRet (vC (.bl false))) vPass))
def L1_law (F_law_are_wide_right F_law_are_rows_judged F_law_row F_law_pick F_law_is_great_run F_law_are_great_judged F_law_some_net F_law_draw F_law_are_nets_judged F_law_is_run_right F_law_own_bag : Fn) : VSt :=
  (vFor (vIt (vLst (vCons (vCall 2 F_law_draw (vCons (vVar 1) (vCons (vC (.int 11)) vNil))) (vCons (vOp dAdd (vC (.int 2)) (vCall 2 F_law_draw (vCons (vVar 1) (vCons (vC (.int 9)) vNil)))) (vCons (vCall 2 F_law_pick (vCons (vVar 1) (vCons (vLst (vCons (vC (.int 0)) (vCons (vC (.int 1)) (vCons (vC (.int 2)) (vCons (vC (.int 10)) vNil))))) vNil))) vNil))))) (gP (pN 2)) (B1_law F_law_are_wide_right F_law_are_rows_judged F_law_row F_law_pick F_law_is_great_run F_law_are_great_judged F_law_some_net F_law_draw F_law_are_nets_judged F_law_is_run_right F_law_own_bag))
def S6_law (F_law_are_wide_right F_law_are_rows_judged F_law_row F_law_pick F_law_is_great_run F_law_are_great_judged F_law_some_net F_law_draw F_law_are_nets_judged F_law_is_run_right F_law_own_bag : Fn) : VSt :=
  (vIfS (vTr (vOp dNe (vBl bReprD (vCons (vLst (vCons (vC (.int 10)) (vCons (vC (.int 60)) (vCons (vC (.int 500)) (vCons (vC (.int 500)) (vCons (vC (.int 1000000000000000000000000000000)) vNil)))))) vNil)) (vBl bReprD (vCons (vLst (vCons (vC (.int 10)) (vCons (vC (.int 60)) (vCons (vC (.int 500)) (vCons (vC (.int 500)) (vCons (vOp aPow (vC (.int 10)) (vC (.int 30))) vNil)))))) vNil)))) (vRet (vC (.bl false))) vPass)
def S7_law (F_law_are_wide_right F_law_are_rows_judged F_law_row F_law_pick F_law_is_great_run F_law_are_great_judged F_law_some_net F_law_draw F_law_are_nets_judged F_law_is_run_right F_law_own_bag : Fn) : VSt :=
  (vAsg (vCall 1 F_law_own_bag (vCons (vVar 0) vNil)) (gName 1))
def m_law (F_law_are_wide_right F_law_are_rows_judged F_law_row F_law_pick F_law_is_great_run F_law_are_great_judged F_law_some_net F_law_draw F_law_are_nets_judged F_law_is_run_right F_law_own_bag : Fn) : VSt :=
  (vSeq (S7_law F_law_are_wide_right F_law_are_rows_judged F_law_row F_law_pick F_law_is_great_run F_law_are_great_judged F_law_some_net F_law_draw F_law_are_nets_judged F_law_is_run_right F_law_own_bag)
    (vSeq (S6_law F_law_are_wide_right F_law_are_rows_judged F_law_row F_law_pick F_law_is_great_run F_law_are_great_judged F_law_some_net F_law_draw F_law_are_nets_judged F_law_is_run_right F_law_own_bag)
    (vSeq (L1_law F_law_are_wide_right F_law_are_rows_judged F_law_row F_law_pick F_law_is_great_run F_law_are_great_judged F_law_some_net F_law_draw F_law_are_nets_judged F_law_is_run_right F_law_own_bag)
    (vSeq (S5_law F_law_are_wide_right F_law_are_rows_judged F_law_row F_law_pick F_law_is_great_run F_law_are_great_judged F_law_some_net F_law_draw F_law_are_nets_judged F_law_is_run_right F_law_own_bag)
    (vSeq (S4_law F_law_are_wide_right F_law_are_rows_judged F_law_row F_law_pick F_law_is_great_run F_law_are_great_judged F_law_some_net F_law_draw F_law_are_nets_judged F_law_is_run_right F_law_own_bag)
    (vSeq (S3_law F_law_are_wide_right F_law_are_rows_judged F_law_row F_law_pick F_law_is_great_run F_law_are_great_judged F_law_some_net F_law_draw F_law_are_nets_judged F_law_is_run_right F_law_own_bag)
    (vSeq (S2_law F_law_are_wide_right F_law_are_rows_judged F_law_row F_law_pick F_law_is_great_run F_law_are_great_judged F_law_some_net F_law_draw F_law_are_nets_judged F_law_is_run_right F_law_own_bag)
    (vSeq (S1_law F_law_are_wide_right F_law_are_rows_judged F_law_row F_law_pick F_law_is_great_run F_law_are_great_judged F_law_some_net F_law_draw F_law_are_nets_judged F_law_is_run_right F_law_own_bag)
    (vRet (vAnd (vCall 3 F_law_are_rows_judged (vCons (vVar 1) (vCons (vVar 2) (vCons (vCall 2 F_law_row (vCons (vVar 1) (vCons (vVar 2) vNil))) vNil)))) (vCall 1 F_law_are_wide_right (vCons (vVar 1) vNil))))))))))))
theorem ok_law (T : Txt K mg) {F_law_are_wide_right F_law_are_rows_judged F_law_row F_law_pick F_law_is_great_run F_law_are_great_judged F_law_some_net F_law_draw F_law_are_nets_judged F_law_is_run_right F_law_own_bag : Fn} (G_law_are_wide_right : FnG P w K mg base 2 T.a_law_are_wide_right T.d_law_are_wide_right P_law_are_wide_right F_law_are_wide_right) (G_law_are_rows_judged : FnG P w K mg base 4 T.a_law_are_rows_judged T.d_law_are_rows_judged P_law_are_rows_judged F_law_are_rows_judged) (G_law_row : FnG P w K mg base 3 T.a_law_row T.d_law_row P_law_row F_law_row) (G_law_pick : FnG P w K mg base 2 T.a_law_pick T.d_law_pick P_law_pick F_law_pick) (G_law_is_great_run : FnG P w K mg base 6 T.a_law_is_great_run T.d_law_is_great_run P_law_is_great_run F_law_is_great_run) (G_law_are_great_judged : FnG P w K mg base 6 T.a_law_are_great_judged T.d_law_are_great_judged P_law_are_great_judged F_law_are_great_judged) (G_law_some_net : FnG P w K mg base 4 T.a_law_some_net T.d_law_some_net P_law_some_net F_law_some_net) (G_law_draw : FnG P w K mg base 1 T.a_law_draw T.d_law_draw P_law_draw F_law_draw) (G_law_are_nets_judged : FnG P w K mg base 6 T.a_law_are_nets_judged T.d_law_are_nets_judged P_law_are_nets_judged F_law_are_nets_judged) (G_law_is_run_right : FnG P w K mg base 5 T.a_law_is_run_right T.d_law_is_run_right P_law_is_run_right F_law_is_run_right) (G_law_own_bag : FnG P w K mg base 1 T.a_law_own_bag T.d_law_own_bag P_law_own_bag F_law_own_bag) : FnG P w K mg base 7 T.a_law T.d_law P_law (mF 3 (m_law F_law_are_wide_right F_law_are_rows_judged F_law_row F_law_pick F_law_is_great_run F_law_are_great_judged F_law_some_net F_law_draw F_law_are_nets_judged F_law_is_run_right F_law_own_bag)) :=
  fnG_of T.f_law sc_law fun cdv A outer s H E a =>
    (qsCons (qSet (i := 1) sc_law.nd (qCall G_law_own_bag (a.mono (by decide)) T.g_law_own_bag T.k_law_own_bag T.b_law_own_bag (qa (qV (i := 0) rfl (.inl rfl)) qa0)) rfl (.inl rfl))
    (qsCons (qIfS (qCmT (ne_opr a.hu) (ne_opd _) (qBl (cr_reprD (SysIn.h (base := base)) a.gd a.rp) (reprD_cd _) T.n_repr (qa (qLst (qa (qGi T.c_MAX_WIRES) (qa (qGi T.c_MAX_NET) (qa (qGi T.c_MAX_GREAT_NET) (qa (qGi T.c_MAX_LISTED) (qa (qGi T.c_MAX_NUMBER) qa0)))))) qa0)) (qBl (cr_reprD (SysIn.h (base := base)) a.gd a.rp) (reprD_cd _) T.n_repr (qa (qLst (qa qI (qa qI (qa qI (qa qI (qa (qOp op_powB (pow_ii _) qI qI) qa0)))))) qa0))) (qsOne (qRet qB)) qsNil)
    (qsCons (qFor a.ps rfl (qIt (qLst (qa (qCall G_law_draw (a.mono (by decide)) T.g_law_draw T.k_law_draw T.b_law_draw (qa (qV (i := 1) rfl (.inl rfl)) (qa qI qa0))) (qa (qOp add_opr (add_opd _) qI (qCall G_law_draw (a.mono (by decide)) T.g_law_draw T.k_law_draw T.b_law_draw (qa (qV (i := 1) rfl (.inl rfl)) (qa qI qa0)))) (qa (qCall G_law_pick (a.mono (by decide)) T.g_law_pick T.k_law_pick T.b_law_pick (qa (qV (i := 1) rfl (.inl rfl)) (qa (qLst (qa qI (qa qI (qa qI (qa qI qa0))))) qa0))) qa0))))) (qgP (vs := [2]) (pg_name (i := 2) sc_law.nd rfl (.inl rfl)) (tgd_name (by decide))) (qsCons (qIfS (qNotT (qT (qCall G_law_is_run_right (a.mono (by decide)) T.g_law_is_run_right T.k_law_is_run_right T.b_law_is_run_right (qa (qV (i := 2) rfl (.inl rfl)) (qa (qCall G_law_some_net (a.mono (by decide)) T.g_law_some_net T.k_law_some_net T.b_law_some_net (qa (qV (i := 1) rfl (.inl rfl)) (qa (qV (i := 2) rfl (.inl rfl)) qa0))) (qa (qCall G_law_row (a.mono (by decide)) T.g_law_row T.k_law_row T.b_law_row (qa (qV (i := 1) rfl (.inl rfl)) (qa (qV (i := 2) rfl (.inl rfl)) qa0))) qa0)))))) (qsOne (qRet qB)) qsNil)
    (qsOne (qIfS (qNotT (qT (qCall G_law_is_run_right (a.mono (by decide)) T.g_law_is_run_right T.k_law_is_run_right T.b_law_is_run_right (qa (qV (i := 2) rfl (.inl rfl)) (qa (qCall G_law_some_net (a.mono (by decide)) T.g_law_some_net T.k_law_some_net T.b_law_some_net (qa (qV (i := 1) rfl (.inl rfl)) (qa (qV (i := 2) rfl (.inl rfl)) qa0))) (qa (qCall G_law_row (a.mono (by decide)) T.g_law_row T.k_law_row T.b_law_row (qa (qV (i := 1) rfl (.inl rfl)) (qa (qV (i := 2) rfl (.inl rfl)) qa0))) qa0)))))) (qsOne (qRet qB)) qsNil))))
    (qsCons (qSet (i := 2) sc_law.nd (qCall G_law_draw (a.mono (by decide)) T.g_law_draw T.k_law_draw T.b_law_draw (qa (qV (i := 1) rfl (.inl rfl)) (qa qI qa0))) rfl (.inl rfl))
    (qsCons (qIfS (PW.pt (qOrT (qNotT (qT (qCall G_law_are_nets_judged (a.mono (by decide)) T.g_law_are_nets_judged T.k_law_are_nets_judged T.b_law_are_nets_judged (qa (qV (i := 1) rfl (.inl rfl)) (qa (qV (i := 2) rfl (.inl rfl)) (qa (qCall G_law_some_net (a.mono (by decide)) T.g_law_some_net T.k_law_some_net T.b_law_some_net (qa (qV (i := 1) rfl (.inl rfl)) (qa (qV (i := 2) rfl (.inl rfl)) qa0))) qa0)))))) (qOr1 (qNotT (qT (qCall G_law_are_rows_judged (a.mono (by decide)) T.g_law_are_rows_judged T.k_law_are_rows_judged T.b_law_are_rows_judged (qa (qV (i := 1) rfl (.inl rfl)) (qa (qV (i := 2) rfl (.inl rfl)) (qa (qCall G_law_row (a.mono (by decide)) T.g_law_row T.k_law_row T.b_law_row (qa (qV (i := 1) rfl (.inl rfl)) (qa (qV (i := 2) rfl (.inl rfl)) qa0))) qa0))))))))) (qsOne (qRet qB)) qsNil)
    (qsCons (qSet (i := 2) sc_law.nd (qOp add_opr (add_opd _) qI (qCall G_law_draw (a.mono (by decide)) T.g_law_draw T.k_law_draw T.b_law_draw (qa (qV (i := 1) rfl (.inl rfl)) (qa qI qa0)))) rfl (.inl rfl))
    (qsCons (qIfS (PW.pt (qOrT (qNotT (qT (qCall G_law_are_great_judged (a.mono (by decide)) T.g_law_are_great_judged T.k_law_are_great_judged T.b_law_are_great_judged (qa (qV (i := 1) rfl (.inl rfl)) (qa (qV (i := 2) rfl (.inl rfl)) (qa (qCall G_law_some_net (a.mono (by decide)) T.g_law_some_net T.k_law_some_net T.b_law_some_net (qa (qV (i := 1) rfl (.inl rfl)) (qa (qV (i := 2) rfl (.inl rfl)) qa0))) qa0)))))) (qOr1 (qNotT (qT (qCall G_law_is_great_run (a.mono (by decide)) T.g_law_is_great_run T.k_law_is_great_run T.b_law_is_great_run (qa (qV (i := 1) rfl (.inl rfl)) (qa (qV (i := 2) rfl (.inl rfl)) qa0)))))))) (qsOne (qRet qB)) qsNil)
    (qsCons (qSet (i := 2) sc_law.nd (qCall G_law_pick (a.mono (by decide)) T.g_law_pick T.k_law_pick T.b_law_pick (qa (qV (i := 1) rfl (.inl rfl)) (qa (qLst (qa qI (qa qI (qa qI qa0)))) qa0))) rfl (.inl rfl))
    (qsOne (qRet (qAnd (qCall G_law_are_rows_judged (a.mono (by decide)) T.g_law_are_rows_judged T.k_law_are_rows_judged T.b_law_are_rows_judged (qa (qV (i := 1) rfl (.inl rfl)) (qa (qV (i := 2) rfl (.inl rfl)) (qa (qCall G_law_row (a.mono (by decide)) T.g_law_row T.k_law_row T.b_law_row (qa (qV (i := 1) rfl (.inl rfl)) (qa (qV (i := 2) rfl (.inl rfl)) qa0))) qa0)))) (qOne (qCall G_law_are_wide_right (a.mono (by decide)) T.g_law_are_wide_right T.k_law_are_wide_right T.b_law_are_wide_right (qa (qV (i := 1) rfl (.inl rfl)) qa0))))))))))))))
def F_joined_nets : Fn := mF 2 (m_joined_nets)
def F_is_number : Fn := mF 1 (m_is_number)
def F_is_within : Fn := mF 3 (m_is_within F_is_number)
def F_is_comparator : Fn := mF 2 (m_is_comparator F_is_within)
def F_net_error : Fn := mF 5 (m_net_error F_is_comparator)
def F_row_error : Fn := mF 5 (m_row_error F_is_number)
def F_made_row : Fn := mF 5 (m_made_row)
def F_is_ascending : Fn := mF 3 (m_is_ascending)
def F_is_standard : Fn := mF 3 (m_is_standard)
def F_does_sort_row : Fn := mF 2 (m_does_sort_row F_is_ascending F_made_row)
def F_law_own_bag : Fn := mF 4 (m_law_own_bag)
def F_law_draw : Fn := mF 3 (m_law_draw)
def F_law_pick : Fn := mF 2 (m_law_pick F_law_draw)
def F_law_pair : Fn := mF 3 (m_law_pair F_law_draw)
def F_law_great : Fn := mF 3 (m_law_great F_law_draw)
def F_law_row : Fn := mF 6 (m_law_row F_law_draw F_law_great F_law_pick)
def F_law_made : Fn := mF 6 (m_law_made)
def F_law_ascends : Fn := mF 2 (m_law_ascends)
def F_law_net : Fn := mF 9 (m_law_net F_law_pick F_law_draw F_law_pair)
def F_law_some_net : Fn := mF 3 (m_law_some_net F_law_net F_law_draw F_law_pick)
def F_law_is_run_right : Fn := mF 15 (m_law_is_run_right F_is_ascending F_row_error F_made_row F_is_standard F_does_sort_row F_net_error F_law_ascends F_law_made)
def F_law_no_comparators : Fn := mF 2 (m_law_no_comparators)
def F_law_is_net_error : Fn := mF 5 (m_law_is_net_error F_net_error)
def F_law_are_nets_judged : Fn := mF 10 (m_law_are_nets_judged F_law_is_net_error F_law_pick F_law_draw F_law_no_comparators)
def F_law_are_great_judged : Fn := mF 9 (m_law_are_great_judged F_law_is_net_error F_law_draw F_law_pick F_law_no_comparators)
def F_law_is_row_error : Fn := mF 5 (m_law_is_row_error F_row_error)
def F_law_are_rows_judged : Fn := mF 15 (m_law_are_rows_judged F_law_is_row_error F_law_pick F_law_draw)
def F_law_is_great_run : Fn := mF 13 (m_law_is_great_run F_law_is_run_right F_joined_nets F_law_made F_law_draw F_law_net F_law_pick)
def F_law_are_wide_right : Fn := mF 9 (m_law_are_wide_right F_is_ascending F_law_ascends F_law_draw)
def F_law : Fn := mF 3 (m_law F_law_are_wide_right F_law_are_rows_judged F_law_row F_law_pick F_law_is_great_run F_law_are_great_judged F_law_some_net F_law_draw F_law_are_nets_judged F_law_is_run_right F_law_own_bag)
theorem G_joined_nets (T : Txt K mg) : FnG P w K mg base 1 T.a_joined_nets T.d_joined_nets P_joined_nets F_joined_nets := ok_joined_nets T
theorem G_is_number (T : Txt K mg) : FnG P w K mg base 1 T.a_is_number T.d_is_number P_is_number F_is_number := ok_is_number T
theorem G_is_within (T : Txt K mg) : FnG P w K mg base 2 T.a_is_within T.d_is_within P_is_within F_is_within := ok_is_within T (G_is_number T)
theorem G_is_comparator (T : Txt K mg) : FnG P w K mg base 3 T.a_is_comparator T.d_is_comparator P_is_comparator F_is_comparator := ok_is_comparator T (G_is_within T)
theorem G_net_error (T : Txt K mg) : FnG P w K mg base 4 T.a_net_error T.d_net_error P_net_error F_net_error := ok_net_error T (G_is_comparator T)
theorem G_row_error (T : Txt K mg) : FnG P w K mg base 2 T.a_row_error T.d_row_error P_row_error F_row_error := ok_row_error T (G_is_number T)
theorem G_made_row (T : Txt K mg) : FnG P w K mg base 1 T.a_made_row T.d_made_row P_made_row F_made_row := ok_made_row T
theorem G_is_ascending (T : Txt K mg) : FnG P w K mg base 1 T.a_is_ascending T.d_is_ascending P_is_ascending F_is_ascending := ok_is_ascending T
theorem G_is_standard (T : Txt K mg) : FnG P w K mg base 1 T.a_is_standard T.d_is_standard P_is_standard F_is_standard := ok_is_standard T
theorem G_does_sort_row (T : Txt K mg) : FnG P w K mg base 2 T.a_does_sort_row T.d_does_sort_row P_does_sort_row F_does_sort_row := ok_does_sort_row T (G_is_ascending T) (G_made_row T)
theorem G_law_own_bag (T : Txt K mg) : FnG P w K mg base 1 T.a_law_own_bag T.d_law_own_bag P_law_own_bag F_law_own_bag := ok_law_own_bag T
theorem G_law_draw (T : Txt K mg) : FnG P w K mg base 1 T.a_law_draw T.d_law_draw P_law_draw F_law_draw := ok_law_draw T
theorem G_law_pick (T : Txt K mg) : FnG P w K mg base 2 T.a_law_pick T.d_law_pick P_law_pick F_law_pick := ok_law_pick T (G_law_draw T)
theorem G_law_pair (T : Txt K mg) : FnG P w K mg base 2 T.a_law_pair T.d_law_pair P_law_pair F_law_pair := ok_law_pair T (G_law_draw T)
theorem G_law_great (T : Txt K mg) : FnG P w K mg base 2 T.a_law_great T.d_law_great P_law_great F_law_great := ok_law_great T (G_law_draw T)
theorem G_law_row (T : Txt K mg) : FnG P w K mg base 3 T.a_law_row T.d_law_row P_law_row F_law_row := ok_law_row T (G_law_draw T) (G_law_great T) (G_law_pick T)
theorem G_law_made (T : Txt K mg) : FnG P w K mg base 1 T.a_law_made T.d_law_made P_law_made F_law_made := ok_law_made T
theorem G_law_ascends (T : Txt K mg) : FnG P w K mg base 1 T.a_law_ascends T.d_law_ascends P_law_ascends F_law_ascends := ok_law_ascends T
theorem G_law_net (T : Txt K mg) : FnG P w K mg base 3 T.a_law_net T.d_law_net P_law_net F_law_net := ok_law_net T (G_law_pick T) (G_law_draw T) (G_law_pair T)
theorem G_law_some_net (T : Txt K mg) : FnG P w K mg base 4 T.a_law_some_net T.d_law_some_net P_law_some_net F_law_some_net := ok_law_some_net T (G_law_net T) (G_law_draw T) (G_law_pick T)
theorem G_law_is_run_right (T : Txt K mg) : FnG P w K mg base 5 T.a_law_is_run_right T.d_law_is_run_right P_law_is_run_right F_law_is_run_right := ok_law_is_run_right T (G_is_ascending T) (G_row_error T) (G_made_row T) (G_is_standard T) (G_does_sort_row T) (G_net_error T) (G_law_ascends T) (G_law_made T)
theorem G_law_no_comparators (T : Txt K mg) : FnG P w K mg base 1 T.a_law_no_comparators T.d_law_no_comparators P_law_no_comparators F_law_no_comparators := ok_law_no_comparators T
theorem G_law_is_net_error (T : Txt K mg) : FnG P w K mg base 5 T.a_law_is_net_error T.d_law_is_net_error P_law_is_net_error F_law_is_net_error := ok_law_is_net_error T (G_net_error T)
theorem G_law_are_nets_judged (T : Txt K mg) : FnG P w K mg base 6 T.a_law_are_nets_judged T.d_law_are_nets_judged P_law_are_nets_judged F_law_are_nets_judged := ok_law_are_nets_judged T (G_law_is_net_error T) (G_law_pick T) (G_law_draw T) (G_law_no_comparators T)
theorem G_law_are_great_judged (T : Txt K mg) : FnG P w K mg base 6 T.a_law_are_great_judged T.d_law_are_great_judged P_law_are_great_judged F_law_are_great_judged := ok_law_are_great_judged T (G_law_is_net_error T) (G_law_draw T) (G_law_pick T) (G_law_no_comparators T)
theorem G_law_is_row_error (T : Txt K mg) : FnG P w K mg base 3 T.a_law_is_row_error T.d_law_is_row_error P_law_is_row_error F_law_is_row_error := ok_law_is_row_error T (G_row_error T)
theorem G_law_are_rows_judged (T : Txt K mg) : FnG P w K mg base 4 T.a_law_are_rows_judged T.d_law_are_rows_judged P_law_are_rows_judged F_law_are_rows_judged := ok_law_are_rows_judged T (G_law_is_row_error T) (G_law_pick T) (G_law_draw T)
theorem G_law_is_great_run (T : Txt K mg) : FnG P w K mg base 6 T.a_law_is_great_run T.d_law_is_great_run P_law_is_great_run F_law_is_great_run := ok_law_is_great_run T (G_law_is_run_right T) (G_joined_nets T) (G_law_made T) (G_law_draw T) (G_law_net T) (G_law_pick T)
theorem G_law_are_wide_right (T : Txt K mg) : FnG P w K mg base 2 T.a_law_are_wide_right T.d_law_are_wide_right P_law_are_wide_right F_law_are_wide_right := ok_law_are_wide_right T (G_is_ascending T) (G_law_ascends T) (G_law_draw T)
theorem G_law (T : Txt K mg) : FnG P w K mg base 7 T.a_law T.d_law P_law F_law := ok_law T (G_law_are_wide_right T) (G_law_are_rows_judged T) (G_law_row T) (G_law_pick T) (G_law_is_great_run T) (G_law_are_great_judged T) (G_law_some_net T) (G_law_draw T) (G_law_are_nets_judged T) (G_law_is_run_right T) (G_law_own_bag T)
theorem chain (T : Txt K mg) : FnG P w K mg base 7 T.a_law T.d_law P_law F_law := G_law T
end K01

namespace K01
open PySem Vq
theorem inRng_small {i : Int} (h0 : -1000000 ≤ i) (h1 : i ≤ 1000000) : inRng i = true := by
  unfold inRng
  exact decide_eq_true (by omega)
theorem divOk_small {i : Int} (h0 : 1 ≤ i) (h1 : i ≤ 1000000000) : divOk i = true := by
  unfold divOk
  simp
  left
  omega
theorem mul_sm {x y : Int} (h0 : -1000000 ≤ y) (h1 : y ≤ 1000000) : mulOk x y = true := by
  unfold mulOk
  have : decide (-(2 ^ 64) < y ∧ y < 2 ^ 64) = true := decide_eq_true (by omega)
  rw [this]
  simp
theorem mul_ms {x y : Int} (h0 : -10000000000 ≤ x) (h1 : x ≤ 10000000000) : mulOk x y = true := by
  unfold mulOk
  have : decide (-(2 ^ 64) < x ∧ x < 2 ^ 64) = true := decide_eq_true (by omega)
  rw [this]
  simp
/-! ### the bag -/
theorem d_s3 {h : VH} {b c : Nat} (q : Hb b c h) (n : Int) : ∃ B h', S3_law_draw [some (.ref b), some (.int n), none] h = .ok (.nx, [some (.ref b), some (.int n), none], h') ∧ IsBag h' b c B ∧ Keep b c h h' := by
  obtain ⟨B, q⟩ := q
  by_cases hm : B.m = 0
  · have z := dNe_L (h := h ++ [.lst []]) (n := c) (m := h.length) (a := B.rc.reverse) (b := []) (q.app _).lkc (by simp)
    have q1 := q.app [.lst []]
    cases hr : B.rc with
    | nil =>
      refine ⟨B, h ++ [.lst []], ?_, q1, .app (.refl ⟨B, q⟩) _⟩
      simp -implicitDefEqProofs [S3_law_draw, q.lkb, L2.atI, L2.ixN, hm, z, hr]
    | cons a r =>
      have hl : r.length ≤ 63 := by
        have := B.hl
        rw [hr] at this
        exact Nat.le_of_succ_le this
      have q2 : IsBag (putBag (h ++ [.lst []]) b c ⟨r, B.m, B.x, hl⟩) b c ⟨r, B.m, B.x, hl⟩ := q1.put _
      have st := q2.set1 a
      simp only [put_put q.ne] at st
      have pp := q1.pop hr hl
      refine ⟨⟨r, a, B.x, hl⟩, putBag (h ++ [.lst []]) b c ⟨r, a, B.x, hl⟩, ?_, q1.put _, ?_⟩
      · have lk2 := q2.lkb
        have ty := q1.tyc
        have lk1 := q1.lkb
        simp only [hm] at st
        simp -implicitDefEqProofs [S3_law_draw, q.lkb, lk1, L2.atI, L2.ixN, hm, z, hr, pp, st, ty]
      · have k := Keep.put q1 ⟨r, a, B.x, hl⟩ []
        rw [List.append_nil] at k
        exact (Hb.keep ⟨B, q⟩ _).trans k
  · refine ⟨B, h, ?_, q, .refl ⟨B, q⟩⟩
    simp -implicitDefEqProofs [S3_law_draw, q.lkb, L2.atI, L2.ixN, hm]
theorem s_draw {h : VH} {b c : Nat} (q : Hb b c h) {n : Int} (hn : 0 < n) (hd : n ≤ 1000000000) : ∃ d h', F_law_draw [.ref b, .int n] h = .ok (.int d, h') ∧ 0 ≤ d ∧ d < n ∧ Keep b c h h' := by
  obtain ⟨B, h1, e1, q1, k1⟩ := d_s3 q n
  have hdv := divOk_small hn hd
  have h0 : n ≠ 0 := by omega
  by_cases hp : 0 < B.m
  · have st := q1.set1 (B.m.fdiv n)
    have k2 := Keep.put q1 ⟨B.rc, B.m.fdiv n, B.x, B.hl⟩ []
    rw [List.append_nil] at k2
    have e2 : S2_law_draw [some (.ref b), some (.int n), none] h1 = .ok (.rt (.int (B.m.fmod n)), [some (.ref b), some (.int n), some (.int (B.m.fmod n))], putBag h1 b c ⟨B.rc, B.m.fdiv n, B.x, B.hl⟩) := by
      simp -implicitDefEqProofs [S2_law_draw, q1.lkb, L2.atI, L2.ixN, hp, aMod_i h0, aFdv_i hdv, st]
    refine ⟨B.m.fmod n, _, mF_rt (s' := [some (.ref b), some (.int n), some (.int (B.m.fmod n))]) ?_, Int.fmod_nonneg_of_pos _ hn, Int.fmod_lt_of_pos _ hn, k1.trans k2⟩
    show m_law_draw [some (.ref b), some (.int n), none] h = _
    unfold m_law_draw
    rw [seq_nx e1, seq_rt e2]
  · have e2 : S2_law_draw [some (.ref b), some (.int n), none] h1 = .ok (.nx, [some (.ref b), some (.int n), none], h1) := by
      simp -implicitDefEqProofs [S2_law_draw, q1.lkb, L2.atI, L2.ixN, hp]
    have hx : mulOk B.x 48271 = true := mul_sm (by decide) (by decide)
    obtain ⟨y, hy⟩ : ∃ y, y = (B.x * 48271 + 29).fmod 2147483647 := ⟨_, rfl⟩
    have y1 : 0 ≤ y ∧ y < 2147483647 := by
      rw [hy]
      exact ⟨Int.fmod_nonneg_of_pos _ (by decide), Int.fmod_lt_of_pos _ (by decide)⟩
    have st := q1.set2 y
    have e3 : S1_law_draw [some (.ref b), some (.int n), none] h1 = .ok (.nx, [some (.ref b), some (.int n), none], putBag h1 b c ⟨B.rc, B.m, y, B.hl⟩) := by
      have z : (2147483647 : Int) ≠ 0 := by decide
      simp -implicitDefEqProofs [S1_law_draw, q1.lkb, L2.atI, L2.ixN, dMul_i hx, aMod_i z, ← hy, st]
    have k2 := Keep.put q1 ⟨B.rc, B.m, y, B.hl⟩ []
    rw [List.append_nil] at k2
    have q2 := q1.put ⟨B.rc, B.m, y, B.hl⟩
    have lk2 : lk (putBag h1 b c ⟨B.rc, B.m, y, B.hl⟩) b = some [.ref c, .int B.m, .int y] := q2.lkb
    have hyy : mulOk y y = true := mul_ms (by omega) (by omega)
    have d11 : divOk 11 = true := by decide
    have z : (2147483629 : Int) ≠ 0 := by decide
    refine ⟨(((y * y).fmod 2147483629).fdiv 11).fmod n, _, mF_rt (s' := [some (.ref b), some (.int n), none]) ?_, Int.fmod_nonneg_of_pos _ hn, Int.fmod_lt_of_pos _ hn, k1.trans k2⟩
    show m_law_draw [some (.ref b), some (.int n), none] h = _
    unfold m_law_draw
    rw [seq_nx e1, seq_nx e2, seq_nx e3]
    simp -implicitDefEqProofs [lk2, L2.atI, L2.ixN, dMul_i hyy, aMod_i z, aFdv_i d11, aMod_i h0]
theorem s_pick {h : VH} {b c n : Nat} (q : Hb b c h) {l : List D} (e : lk h n = some l) (hb : n ≠ b) (hc : n ≠ c) (h0 : l ≠ []) (hs : l.length ≤ 1000000000) : ∃ d h', F_law_pick [.ref b, .ref n] h = .ok (d, h') ∧ d ∈ l ∧ Keep b c h h' := by
  have hp : 0 < l.length := List.length_pos_iff.mpr h0
  obtain ⟨i, h', e1, h1, h2, k⟩ := s_draw q (n := l.length) (by omega) (by omega)
  have e2 : lk h' n = some l := k.cells hb hc e
  have hlt : i.toNat < l.length := by omega
  have ia : L2.atI l i = some (l[i.toNat]'hlt) := atI_nn h1 hlt
  refine ⟨l[i.toNat]'hlt, h', mF_rt (s' := [some (.ref b), some (.ref n)]) ?_, List.getElem_mem _, k⟩
  simp -implicitDefEqProofs [m_law_pick, e, e1, e2, ia]
theorem s_pickL {h : VH} {b c : Nat} (q : Hb b c h) (l : List D) (h0 : l ≠ []) (hs : l.length ≤ 1000000) : ∃ d h', F_law_pick [.ref b, .ref h.length] (h ++ [.lst l]) = .ok (d, h') ∧ d ∈ l ∧ Keep b c h h' := by
  obtain ⟨d, h', e, hd, k⟩ := s_pick (q.app [.lst l]) (lk_at h l []) (by have := q.b_lt; omega) (by have := q.c_lt; omega) h0 (by omega)
  exact ⟨d, h', e, hd, (q.keep _).trans k⟩
/-- a pair of two wires -/
theorem s_pair {h : VH} {b c : Nat} (q : Hb b c h) {n : Int} (hn : 2 ≤ n) (hd : n ≤ 1000000) : ∃ i j h', F_law_pair [.ref b, .int n] h = .ok (.tup [.int i, .int j], h') ∧ 0 ≤ i ∧ i < n ∧ 0 ≤ j ∧ j < n ∧ i ≠ j ∧ Keep b c h h' := by
  obtain ⟨i, h1, e1, i0, i1, k1⟩ := s_draw q (n := n) (by omega) (by omega)
  obtain ⟨d, h2, e2, d0, d1, k2⟩ := s_draw k1.bag (n := n - 1) (by omega) (by omega)
  have h0 : n ≠ 0 := by omega
  have jf : (i + 1 + d).fmod n = if i + 1 + d < n then i + 1 + d else i + 1 + d - n := by
    split
    · exact Int.fmod_eq_of_lt (by omega) (by omega)
    · have e : i + 1 + d = (i + 1 + d - n) + n * 1 := by omega
      rw [e, Int.add_mul_fmod_self_left, Int.fmod_eq_of_lt (by omega) (by omega)]
      omega
  refine ⟨i, (i + 1 + d).fmod n, h2, mF_rt (s' := [some (.ref b), some (.int n), some (.int i)]) ?_, i0, i1, by rw [jf]; split <;> omega, by rw [jf]; split <;> omega, by rw [jf]; split <;> omega, k1.trans k2⟩
  simp -implicitDefEqProofs [m_law_pair, e1, e2, aMod_i h0]
end K01

namespace K01
open PySem Vq
def encI (i : Int) : Int := if 0 ≤ i then i * 2 else 1 - i * 2
def encL (ns : List Int) : List Int := ns.map encI
def V3 (ns : List Int) : VH := [.ro (ns.map .int), .lst (ns.map .int), .lst ((encL ns).map .int)]
def keepL (ns : List Int) : List Int := ((encL ns).reverse.filter fun y => decide (2000000000 < y)).map fun y => y.fdiv 2
theorem pow109 : powOk 10 9 = true := by decide +kernel
theorem aPow9 (h : VH) : aPow (.int 10) (.int 9) h = some (.int 1000000000, h) := by
  rw [aPow_i pow109]
  rfl
theorem s_own_bag (ns : List Int) (hn : ns.length ≤ 63) : ∃ b c h', F_law_own_bag [.ref 0] (scriptH ns) = .ok (.ref b, h') ∧ Hb b c h' := by
  have cut : cutD (ns.map D.int) none (some 63) = ns.map .int := by
    have e : HT.sIx ns.length ns.length (some 63) = ns.length := by
      show (if (63 : Int) < 0 then ((63 : Int) + (ns.length : Int)).toNat else min (63 : Int).toNat ns.length) = _
      rw [if_neg (by decide)]
      exact Nat.min_eq_right hn
    have e0 : HT.sIx ns.length 0 none = 0 := rfl
    unfold cutD
    simp only [List.length_map, e, e0, Nat.sub_zero, List.drop_zero]
    exact List.take_of_length_le (by simp)
  have sl : slD (.ref 0) none (some 63) (scriptH ns) = some (.ref 1, [.ro (ns.map .int), .lst (ns.map .int)]) := by
    show some (D.ref 1, scriptH ns ++ [.lst (cutD (ns.map D.int) none (some 63))]) = _
    rw [cut]
    rfl
  have m2 : ∀ x : Int, mulOk x 2 = true := fun x => mul_sm (by decide) (by decide)
  have c2 : C2_law_own_bag [some (.ref 0), none, none, none] (scriptH ns) = .ok (.ref 2, V3 ns) := by
    unfold C2_law_own_bag
    rw [lc_lst (n := 1) (h1 := [.ro (ns.map .int), .lst (ns.map .int)]) (ys := ns) (c := .int) (fun _ => true) (fun i => .int (encI i)) (by simp [sl]) (by rfl) (by omega) (by
      intro i hi acc
      refine ⟨_, rfl, rfl, fun _ => ?_⟩
      by_cases h0 : 0 ≤ i <;> simp -implicitDefEqProofs [E2_law_own_bag, vwipe, h0, dMul_i (m2 _), encI])]
    simp only [V3, encL, List.filter_eq_self.mpr (fun _ _ => rfl), List.map_map]
    rfl
  have l2 : lk (V3 ns) 2 = some ((encL ns).map .int) := rfl
  have al : (encL ns).length = ns.length := by simp [encL]
  have z1 : (2147483629 : Int) ≠ 0 := by decide
  have z2 : (2147483647 : Int) ≠ 0 := by decide
  obtain ⟨m0, hm0⟩ : ∃ m : Int, m = 918273 + 31 * (ns.length : Int) := ⟨_, rfl⟩
  obtain ⟨s', h', e1, ⟨x, d, e2, e3⟩⟩ := for_all (it := vIt (vVar 1)) (g := gP (pN 3)) (body := B1_law_own_bag) (s := [some (.ref 0), some (.ref 2), some (.int m0), none]) (h := V3 ns) (h1 := V3 ns) (src := fun h => lk h 2) (xs := (encL ns).map .int)
    (fun _ s h => ∃ x d, s = [some (.ref 0), some (.ref 2), some (.int x), d] ∧ h = V3 ns) (by simp) (by rintro i s h ⟨x, d, rfl, rfl⟩; exact l2) ⟨_, _, rfl, rfl⟩ (by
      rintro i d s h ed ⟨x, d', rfl, rfl⟩
      have hm := List.mem_of_getElem? ed
      obtain ⟨a, _, rfl⟩ := List.mem_map.mp hm
      refine ⟨[some (.ref 0), some (.ref 2), some (.int ((x * 69621 + a.fmod 2147483629 + 17).fmod 2147483647)), some (.int a)], V3 ns, .inl ?_, ⟨_, _, rfl, rfl⟩⟩
      have hx : mulOk x 69621 = true := mul_sm (by decide) (by decide)
      rw [turn_N]
      simp -implicitDefEqProofs [B1_law_own_bag, dMul_i hx, aMod_i z1, aMod_i z2])
  subst e2 e3
  have e1 : L1_law_own_bag [some (.ref 0), some (.ref 2), some (.int m0), none] (V3 ns) = .ok (.nx, [some (.ref 0), some (.ref 2), some (.int x), d], V3 ns) := e1
  obtain ⟨h3, e4⟩ : ∃ h3, h3 = V3 ns ++ [.lst ((encL ns).map .int)] := ⟨_, rfl⟩
  have l3 : lk h3 3 = some ((encL ns).map .int) := by rw [e4]; rfl
  have n3 : (V3 ns).length = 3 := rfl
  have n4 : h3.length = 4 := by rw [e4]; rfl
  have mm : mulOk 2 1000000000 = true := by decide +kernel
  have d2 : divOk 2 = true := by decide
  have c1 : C1_law_own_bag [some (.ref 0), some (.ref 2), some (.int x), d] (V3 ns) = .ok (.ref 4, h3 ++ [.lst ((keepL ns).map .int)]) := by
    unfold C1_law_own_bag
    rw [lc_pure (h1 := h3) (ys := (encL ns).reverse) (c := .int) (src := fun h => (lk h 3).bind fun l => if l.length = ((encL ns).map D.int).length then some l.reverse else none) (fun y => decide (2000000000 < y)) (fun y => .int (y.fdiv 2))
      (by simp -implicitDefEqProofs [vRev, l2, revOf, n3, ← e4, l3]) (fun acc => by simp [lk_app l3]) (le_line (by simp; omega)) (by
      intro y hy acc
      refine ⟨_, rfl, ?_, fun _ => ?_⟩
      · simp -implicitDefEqProofs [T1_law_own_bag, vwipe, aPow9, dMul_i mm]
      · simp -implicitDefEqProofs [E1_law_own_bag, vwipe, aFdv_i d2])]
    simp only [n4, keepL, List.map_map]
    rfl
  have kl : (keepL ns).length ≤ 63 := by
    unfold keepL
    rw [List.length_map]
    refine Nat.le_trans (List.length_filter_le _ _) ?_
    rw [List.length_reverse, al]
    exact hn
  obtain ⟨h5, e5⟩ : ∃ h5, h5 = h3 ++ [.lst ((keepL ns).map .int)] := ⟨_, rfl⟩
  rw [← e5] at c1
  have n5 : h5.length = 5 := by rw [e5, List.length_append, n4]; rfl
  have m31 : mulOk 31 (ns.length : Int) = true := mul_sm (by omega) (by omega)
  refine ⟨5, 4, h5 ++ [.lst [.ref 4, .int 0, .int x]], mF_rt (s' := [some (.ref 0), some (.ref 2), some (.int x), d]) ?_, ⟨⟨(keepL ns).reverse, 0, x, by rw [List.length_reverse]; exact kl⟩, ?_, ?_, by decide⟩⟩
  · rw [hm0] at e1
    simp -implicitDefEqProofs [m_law_own_bag, c2, l2, al, dMul_i m31, e1, c1, n5]
  · rw [List.getElem?_append_right (by omega), n5]
    rfl
  · rw [List.getElem?_append_left (by omega), e5, List.getElem?_append_right (by omega), n4]
    simp [Bag.cells]
/-! ### great numbers -/
theorem pow107 : powOk 10 7 = true := by decide +kernel
theorem aPow7 (h : VH) : aPow (.int 10) (.int 7) h = some (.int 10000000, h) := by
  rw [aPow_i pow107]
  rfl
theorem pow1030 : powOk 10 30 = true := by decide +kernel
def E30 : Int := 1000000000000000000000000000000
theorem aPow30 (h : VH) : aPow (.int 10) (.int 30) h = some (.int E30, h) := by
  rw [aPow_i pow1030]
  rfl
theorem s_great {h : VH} {b c : Nat} (q : Hb b c h) : ∃ i h', F_law_great [.ref b] h = .ok (.int i, h') ∧ -E30 ≤ i ∧ i ≤ E30 ∧ Keep b c h h' := by
  have hit : (vRng1 (vCons (vC (.int 5)) vNil)) [some (.ref b), some (.int 0), none] h = .ok (fun _ => some (rangeD 0 1 (5 : Int).toNat), h) := vRng1_of rfl (by decide)
  obtain ⟨s', h1, el, ⟨f, x, rfl⟩, kk⟩ := for_all (g := gP (pN 2)) (body := B1_law_great F_law_draw) (fun i s h' => (∃ f x, s = [some (.ref b), some (.int f), x]) ∧ Keep b c h h') hit (fun _ _ _ _ => rfl) ⟨⟨0, none, rfl⟩, .refl q⟩ (by
      rintro i d s h' ed ⟨⟨f, x, rfl⟩, kk⟩
      obtain ⟨e, h2, eb, h4, h5, k5⟩ := s_draw kk.bag (n := 10000000) (by decide) (by decide)
      have hm : mulOk f 10000000 = true := by
        unfold mulOk
        simp
      refine ⟨[some (.ref b), some (.int (f * 10000000 + e)), some d], h2, .inl ?_, ⟨_, _, rfl⟩, kk.trans k5⟩
      rw [turn_N]
      simp -implicitDefEqProofs [B1_law_great, aPow7, dMul_i hm, eb])
  have el : L1_law_great F_law_draw [some (.ref b), some (.int 0), none] h = _ := el
  have m2 : mulOk 2 E30 = true := by decide +kernel
  have z : 2 * E30 + 1 ≠ 0 := by decide +kernel
  have zp : 0 < 2 * E30 + 1 := by decide +kernel
  have r0 := Int.fmod_nonneg_of_pos f zp
  have r1 := Int.fmod_lt_of_pos f zp
  refine ⟨f.fmod (2 * E30 + 1) - E30, h1, mF_rt (s' := [some (.ref b), some (.int f), x]) ?_, by omega, by omega, kk⟩
  simp -implicitDefEqProofs [m_law_great, el, aPow30, dMul_i m2, aMod_i z]
end K01

namespace K01
open PySem Vq
/-- a row's numbers -/
structure Lim (row : List Int) : Prop where
  lim : ∀ x ∈ row, -E30 ≤ x ∧ x ≤ E30
theorem E30_ge : (1000000000000 : Int) ≤ E30 := by decide +kernel
theorem Lim.snoc {row : List Int} (x : Lim row) {v : Int} (h : -E30 ≤ v ∧ v ≤ E30) : Lim (row ++ [v]) := ⟨fun y hy => by
  rcases List.mem_append.mp hy with q | q
  · exact x.lim y q
  · rw [List.mem_singleton.mp q]
    exact h⟩
theorem Lim.perm {a b : List Int} (x : Lim a) (p : b.Perm a) : Lim b := ⟨fun y hy => x.lim y (p.mem_iff.mp hy)⟩
theorem Lim.sub {a b : List Int} (x : Lim a) (p : ∀ y ∈ b, y ∈ a) : Lim b := ⟨fun y hy => x.lim y (p y hy)⟩
theorem erase_map : ∀ (l : List Int) (i : Nat), (l.map D.int).eraseIdx i = (l.eraseIdx i).map .int
  | [], _ => by simp
  | a :: r, 0 => by simp
  | a :: r, i + 1 => by simp [erase_map r i]
abbrev RF {α : Type} (f : Fn → Fn → Fn → α) : α := f F_law_draw F_law_great F_law_pick
/-- what the loop of _law_row keeps -/
structure RowInv (h0 : VH) (b c m : Nat) (kind : Int) (n k : Nat) (h : VH) : Prop where
  keep : Keep b c h0 h
  items : ∃ row : List Int, h[m]? = some (.lst (row.map .int)) ∧ row.length = k ∧ Lim row
  rest : ∃ r : List Int, h[m + 1]? = some (.lst (r.map .int)) ∧ (kind = 4 → r.length + k = n) ∧ ∀ x ∈ r, 0 ≤ x ∧ x ≤ 1000
theorem row_put {h0 h h' : VH} {b c m : Nat} {kind : Int} {n k : Nat} (q0 : Hb b c h0) (hm : h0.length ≤ m) (i : RowInv h0 b c m kind n k h) (hk : kind ≠ 4) (kk : Keep b c h h') {v : Int} (hv : -E30 ≤ v ∧ v ≤ E30) (hn : k < 1000) :
    ∃ h2, mAppend (.ref m) [.int v] h' = some (.non, h2) ∧ RowInv h0 b c m kind n (k + 1) h2 := by
  obtain ⟨row, e1, e2, e3⟩ := i.items
  obtain ⟨r, g1, g2, g3⟩ := i.rest
  have hb := q0.b_lt
  have hc := q0.c_lt
  have e1' := Keep.cell q0 hm kk e1
  have g1' := Keep.cell q0 (Nat.le_succ_of_le hm) kk g1
  refine ⟨_, mAppend_of e1' (by simp; omega), (i.keep.trans kk).set hm (by omega) (by omega), ⟨row ++ [v], ?_, by simp [e2], e3.snoc hv⟩, ⟨r, ?_, fun z => absurd z hk, g3⟩⟩
  · rw [set_get e1']
    simp
  · rw [List.getElem?_set_ne (by omega)]
    exact g1'
theorem row_body {h0 h : VH} {b c m : Nat} {kind : Int} {n k : Nat} (q0 : Hb b c h0) (hm : h0.length ≤ m) (i : RowInv h0 b c m kind n k h) (hn : n ≤ 1000) (hk : k < n) (w : Option D) :
    ∃ h', RF B1_law_row [some (.ref b), some (.int n), some (.int kind), some (.ref m), some (.ref (m + 1)), w] h = .ok (.nx, [some (.ref b), some (.int n), some (.int kind), some (.ref m), some (.ref (m + 1)), w], h') ∧ RowInv h0 b c m kind n (k + 1) h' := by
  have eg := E30_ge
  obtain ⟨row, e1, e2, e3⟩ := id i.items
  have ty := tyL_of (lk_of e1)
  by_cases c0 : kind = 0
  · obtain ⟨d, h1, ed, d0, d1, k1⟩ := s_draw i.keep.bag (n := 2) (by decide) (by decide)
    obtain ⟨h2, ea, j⟩ := row_put q0 hm i (by omega) k1 (v := d) (by omega) (by omega)
    refine ⟨h2, ?_, j⟩
    simp -implicitDefEqProofs [RF, B1_law_row, c0, ty, ed, ea]
  by_cases c1 : kind = 1
  · obtain ⟨d, h1, ed, d0, d1, k1⟩ := s_draw i.keep.bag (n := 5) (by decide) (by decide)
    obtain ⟨h2, ea, j⟩ := row_put q0 hm i (by omega) k1 (v := d - 2) (by omega) (by omega)
    refine ⟨h2, ?_, j⟩
    simp -implicitDefEqProofs [RF, B1_law_row, c1, ty, ed, ea]
  by_cases c2 : kind = 2
  · obtain ⟨d, h1, ed, d0, d1, k1⟩ := s_great i.keep.bag
    obtain ⟨h2, ea, j⟩ := row_put q0 hm i (by omega) k1 (v := d) (by omega) (by omega)
    refine ⟨h2, ?_, j⟩
    simp -implicitDefEqProofs [RF, B1_law_row, c2, ty, ed, ea]
  by_cases c3 : kind = 3
  · obtain ⟨d, h1, ed, hd, k1⟩ := s_pickL i.keep.bag [.int E30, .int (-E30), .int (E30 - 1), .int (1 - E30), .int 0, .int (2 - E30)] (by simp) (by simp)
    have : ∃ v, d = .int v ∧ -E30 ≤ v ∧ v ≤ E30 := by
      simp at hd
      rcases hd with rfl | rfl | rfl | rfl | rfl | rfl <;> exact ⟨_, rfl, by omega, by omega⟩
    obtain ⟨v, rfl, hv⟩ := this
    obtain ⟨h2, ea, j⟩ := row_put q0 hm i (by omega) k1 hv (by omega)
    refine ⟨h2, ?_, j⟩
    simp -implicitDefEqProofs [RF, B1_law_row, c3, ty, aPow30, ed, ea]
  by_cases c4 : kind = 4
  · obtain ⟨r, g1, g2, g3⟩ := id i.rest
    have hb := q0.b_lt
    have hc := q0.c_lt
    have hr := g2 c4
    have lkr := lk_of g1
    have tyr := tyL_of lkr
    obtain ⟨d, h1, ed, d0, d1, k1⟩ := s_draw i.keep.bag (n := r.length) (by omega) (by omega)
    have e1' := Keep.cell q0 hm k1 e1
    have g1' := Keep.cell q0 (Nat.le_succ_of_le hm) k1 g1
    have hlt : d.toNat < r.length := by omega
    have pp := mPopI_of (i := d) (d := .int r[d.toNat]) g1' d0 (by omega) (by simp [hlt])
    have hv := g3 r[d.toNat] (List.getElem_mem _)
    have e1s : (h1.set (m + 1) (.lst ((r.map D.int).eraseIdx d.toNat)))[m]? = some (.lst (row.map .int)) := by
      rw [List.getElem?_set_ne (by omega)]
      exact e1'
    have ap := mAppend_of (d := .int r[d.toNat]) e1s (by simp; omega)
    obtain ⟨h2, eh2⟩ : ∃ h2, h2 = h1.set (m + 1) (.lst ((r.map D.int).eraseIdx d.toNat)) := ⟨_, rfl⟩
    have k2 : Keep b c h0 h2 := by
      rw [eh2]
      exact (i.keep.trans k1).set (Nat.le_succ_of_le hm) (by omega) (by omega)
    have g2' : h2[m + 1]? = some (.lst ((r.map D.int).eraseIdx d.toNat)) := by
      rw [eh2]
      exact set_get g1'
    rw [← eh2] at e1s ap
    have pp : mPopI (.ref (m + 1)) [.int d] h1 = some (.int r[d.toNat], h2) := by
      rw [eh2]
      exact pp
    refine ⟨h2.set m (.lst (row.map D.int ++ [.int r[d.toNat]])), ?_, k2.set hm (by omega) (by omega), ⟨row ++ [r[d.toNat]], ?_, by simp [e2], e3.snoc (by omega)⟩, ⟨r.eraseIdx d.toNat, ?_, fun _ => ?_, fun x hx => g3 x (List.mem_of_mem_eraseIdx hx)⟩⟩
    · simp -implicitDefEqProofs [RF, B1_law_row, c4, ty, tyr, lkr, ed, pp, ap]
    · rw [set_get e1s]
      simp
    · rw [List.getElem?_set_ne (by omega), g2']
      rw [erase_map]
    · rw [List.length_eraseIdx_of_lt hlt]
      omega
  · obtain ⟨d, h1, ed, d0, d1, k1⟩ := s_draw i.keep.bag (n := 40) (by decide) (by decide)
    obtain ⟨h2, ea, j⟩ := row_put q0 hm i c4 k1 (v := d - 20) (by omega) (by omega)
    refine ⟨h2, ?_, j⟩
    simp -implicitDefEqProofs [RF, B1_law_row, c0, c1, c2, c3, c4, ty, ed, ea]
theorem row_loop {h0 h : VH} {b c m : Nat} {kind : Int} {n : Nat} (q0 : Hb b c h0) (hm : h0.length ≤ m) (i : RowInv h0 b c m kind n 0 h) (hn : n ≤ 1000) :
    ∃ w h', RF L1_law_row [some (.ref b), some (.int n), some (.int kind), some (.ref m), some (.ref (m + 1)), none] h = .ok (.nx, [some (.ref b), some (.int n), some (.int kind), some (.ref m), some (.ref (m + 1)), w], h') ∧ RowInv h0 b c m kind n n h' := by
  have hit : (vRng1 (vCons (vVar 1) vNil)) [some (.ref b), some (.int n), some (.int kind), some (.ref m), some (.ref (m + 1)), none] h = .ok (fun _ => some (rangeD 0 1 (n : Int).toNat), h) :=
    vRng1_of (by simp) (inRng_small (by omega) (by omega))
  obtain ⟨s', h', e, ⟨w, rfl⟩, j⟩ := for_all (g := gP (pN 5)) (body := RF B1_law_row) (fun k s h => (∃ w, s = [some (.ref b), some (.int n), some (.int kind), some (.ref m), some (.ref (m + 1)), w]) ∧ RowInv h0 b c m kind n k h) hit (fun _ _ _ _ => rfl) ⟨⟨_, rfl⟩, i⟩ (by
    rintro k d s h ed ⟨⟨w, rfl⟩, i⟩
    have hk : k < n := by
      have := (List.getElem?_eq_some_iff.mp ed).1
      simpa using this
    obtain ⟨h', e, j⟩ := row_body q0 hm i hn hk (some d)
    exact ⟨_, h', .inl (by rw [turn_N]; exact e), ⟨_, rfl⟩, j⟩)
  rw [show (rangeD 0 1 (n : Int).toNat).length = n by simp] at j
  exact ⟨w, h', e, j⟩
def tupI (l : List Int) : D := .tup (l.map .int)
theorem s_row {h : VH} {b c : Nat} (q : Hb b c h) {n : Nat} (hn : n ≤ 1000) : ∃ row h', F_law_row [.ref b, .int n] h = .ok (tupI row, h') ∧ row.length = n ∧ Lim row ∧ Keep b c h h' := by
  obtain ⟨kind, h1, e1, k0, k7, q1⟩ := s_draw q (n := 7) (by decide) (by decide)
  have hle := q1.le
  have rg : rgB 0 n = true := by
    unfold rgB inRng
    simp
    omega
  have e3 : RF S3_law_row [some (.ref b), some (.int n), none, none, none, none] h = .ok (.nx, [some (.ref b), some (.int n), some (.int kind), some (.ref h1.length), some (.ref (h1.length + 1)), none], h1 ++ [.lst []] ++ [.lst (rangeD 0 1 n)]) := by
    simp -implicitDefEqProofs [RF, S3_law_row, e1, vLR1, rg]
  have inv0 : RowInv h b c h1.length kind n 0 (h1 ++ [.lst []] ++ [.lst (rangeD 0 1 n)]) := by
    refine ⟨(q1.app _).app _, ⟨[], by simp, rfl, ⟨by simp⟩⟩, ⟨(List.range n).map fun (k : Nat) => (k : Int), ?_, fun _ => by simp, fun x hx => ?_⟩⟩
    · rw [List.getElem?_append_right (by simp)]
      simp only [rangeD_one, List.map_map]
      simp
    · obtain ⟨k, hk, rfl⟩ := List.mem_map.mp hx
      have := List.mem_range.mp hk
      omega
  obtain ⟨w, h2, e4, inv⟩ := row_loop q hle inv0 hn
  obtain ⟨row, g1, g2, g3⟩ := inv.items
  have lk1 := lk_of g1
  unfold F_law_row
  -- sorted or not
  have s2 : ∃ m row' h3, RF S2_law_row [some (.ref b), some (.int n), some (.int kind), some (.ref h1.length), some (.ref (h1.length + 1)), w] h2 = .ok (.nx, [some (.ref b), some (.int n), some (.int kind), some (.ref m), some (.ref (h1.length + 1)), w], h3) ∧ h3[m]? = some (.lst (row'.map .int)) ∧ row'.length = n ∧ Lim row' ∧ Keep b c h h3 ∧ h.length ≤ m := by
    by_cases c4 : 4 < kind
    · refine ⟨h2.length, srtI row, h2 ++ [.lst ((srtI row).map .int)], ?_, by simp, by rw [(srtI_perm row).length_eq, g2], g3.perm (srtI_perm row), inv.keep.app _, inv.keep.le⟩
      have sb := bSorted_I lk1
      generalize srtI row = l at *
      simp -implicitDefEqProofs [RF, S2_law_row, c4, sb]
    · refine ⟨h1.length, row, h2, ?_, g1, g2, g3, inv.keep, hle⟩
      simp -implicitDefEqProofs [RF, S2_law_row, c4]
  obtain ⟨m, row', h3, e5, r1, r2, r3, r4, r5⟩ := s2
  have lk3 := lk_of r1
  by_cases c6 : kind = 6 ∧ 1 < n
  · obtain ⟨c6, n1⟩ := c6
    subst c6
    have n1' : (1 : Int) < n := by omega
    obtain ⟨v, h4, e6, v0, v1, q4⟩ := s_draw r4.bag (n := (n : Int) - 1) (by omega) (by omega)
    have r1' := Keep.cell q r5 q4 r1
    have lk4 := lk_of r1'
    have hv : v.toNat < row'.length := by omega
    have hv1 : (v + 1).toNat < row'.length := by omega
    have a0 : L2.atI (row'.map D.int) v = some (.int row'[v.toNat]) := by rw [atI_nn v0 (by simpa using hv)]; simp
    have a1 : L2.atI (row'.map D.int) (v + 1) = some (.int row'[(v + 1).toNat]) := by rw [atI_nn (by omega) (by simpa using hv1)]; simp
    have sl1 := slD_to lk4 v0
    obtain ⟨h5, eh5⟩ : ∃ h5, h5 = h4 ++ [.lst ((row'.map D.int).take v.toNat)] := ⟨_, rfl⟩
    rw [← eh5] at sl1
    have lk5 : lk h5 m = some (row'.map .int) := by rw [eh5]; exact lk_app lk4 _
    have c5 : h5[h4.length]? = some (.lst ((row'.map D.int).take v.toNat)) := by rw [eh5]; simp
    obtain ⟨h6, eh6⟩ : ∃ h6, h6 = h5 ++ [.lst [.int row'[(v + 1).toNat], .int row'[v.toNat]]] := ⟨_, rfl⟩
    have ad1 := dAdd_L (h := h6) (n := h4.length) (m := h5.length) (a := (row'.map D.int).take v.toNat) (b := [.int row'[(v + 1).toNat], .int row'[v.toNat]])
      (by rw [eh6, List.getElem?_append_left (lt_of_get c5)]; exact c5) (by rw [eh6]; simp) (by simp; omega)
    obtain ⟨h7, eh7⟩ : ∃ h7, h7 = h6 ++ [.lst ((row'.map D.int).take v.toNat ++ [.int row'[(v + 1).toNat], .int row'[v.toNat]])] := ⟨_, rfl⟩
    rw [← eh7] at ad1
    have lk7 : lk h7 m = some (row'.map .int) := by rw [eh7, eh6]; exact lk_app (lk_app lk5 _) _
    have sl2 := slD_from (i := v + 2) lk7 (by omega)
    obtain ⟨h8, eh8⟩ : ∃ h8, h8 = h7 ++ [.lst ((row'.map D.int).drop (v + 2).toNat)] := ⟨_, rfl⟩
    rw [← eh8] at sl2
    have c7 : h7[h6.length]? = some (.lst ((row'.map D.int).take v.toNat ++ [.int row'[(v + 1).toNat], .int row'[v.toNat]])) := by rw [eh7]; simp
    have ad2 := dAdd_L (h := h8) (n := h6.length) (m := h7.length) (by rw [eh8, List.getElem?_append_left (lt_of_get c7)]; exact c7) (by rw [eh8]; simp; rfl) (by simp; omega)
    obtain ⟨row2, erow2⟩ : ∃ row2, row2 = row'.take v.toNat ++ [row'[(v + 1).toNat], row'[v.toNat]] ++ row'.drop (v + 2).toNat := ⟨_, rfl⟩
    have em : (row'.map D.int).take v.toNat ++ [.int row'[(v + 1).toNat], .int row'[v.toNat]] ++ (row'.map D.int).drop (v + 2).toNat = row2.map .int := by
      rw [erow2]
      simp [List.map_take, List.map_drop]
    rw [em] at ad2
    have lk9 := lk_at h8 (row2.map D.int) []
    refine ⟨row2, h8 ++ [.lst (row2.map .int)], mF_rt (s' := [some (.ref b), some (.int n), some (.int 6), some (.ref m), some (.ref (h1.length + 1)), some (.int v)]) ?_, ?_, r3.sub fun y hy => ?_, ?_⟩
    · show m_law_row _ _ _ [some (.ref b), some (.int n), none, none, none, none] h = _
      unfold m_law_row
      have eS : RF S1_law_row [some (.ref b), some (.int n), some (.int 6), some (.ref m), some (.ref (h1.length + 1)), w] h3 = .ok (.rt (tupI row2), [some (.ref b), some (.int n), some (.int 6), some (.ref m), some (.ref (h1.length + 1)), some (.int v)], h8 ++ [.lst (row2.map .int)]) := by
        simp -implicitDefEqProofs [RF, S1_law_row, n1', e6, sl1, lk5, a0, a1, ← eh6, ad1, sl2, ad2, lk9, tupI]
      rw [seq_nx e3, seq_nx e4, seq_nx e5, seq_rt eS]
    · rw [erow2]
      simp
      omega
    · rw [erow2] at hy
      simp only [List.mem_append, List.mem_cons, List.not_mem_nil, or_false] at hy
      rcases hy with (hy | hy | hy) | hy
      · exact List.mem_of_mem_take hy
      · rw [hy]; exact List.getElem_mem _
      · rw [hy]; exact List.getElem_mem _
      · exact List.mem_of_mem_drop hy
    · rw [eh8, eh7, eh6, eh5]
      exact (((((r4.trans q4).app _).app _).app _).app _).app _
  · have eS : RF S1_law_row [some (.ref b), some (.int n), some (.int kind), some (.ref m), some (.ref (h1.length + 1)), w] h3 = .ok (.nx, [some (.ref b), some (.int n), some (.int kind), some (.ref m), some (.ref (h1.length + 1)), w], h3) := by
      by_cases k6 : kind = 6
      · have n1 : ¬ (1 : Int) < n := by omega
        simp -implicitDefEqProofs [RF, S1_law_row, k6, n1]
      · simp -implicitDefEqProofs [RF, S1_law_row, k6]
    refine ⟨row', h3, mF_rt (s' := [some (.ref b), some (.int n), some (.int kind), some (.ref m), some (.ref (h1.length + 1)), w]) ?_, r2, r3, r4⟩
    show m_law_row _ _ _ [some (.ref b), some (.int n), none, none, none, none] h = _
    unfold m_law_row
    rw [seq_nx e3, seq_nx e4, seq_nx e5, seq_nx eS]
    simp -implicitDefEqProofs [lk3, tupI]
end K01

namespace K01
open PySem Vq
/-! ### runs -/
def netD (l : List (Int × Int)) : D := .tup (l.map pD)
def gt (row : List Int) (i : Nat) : Int := row.getD i 0
theorem atR {row : List Int} {i : Int} (h0 : 0 ≤ i) (hi : i < row.length) : L2.atI (row.map D.int) i = some (.int (gt row i.toNat)) := by
  rw [atI_nn h0 (by simp; omega)]
  have : i.toNat < row.length := by omega
  simp [gt, this]
/-- comparators of n wires -/
def Wires (n : Nat) (net : List (Int × Int)) : Prop := ∀ p ∈ net, 0 ≤ p.1 ∧ p.1 < n ∧ 0 ≤ p.2 ∧ p.2 < n ∧ p.1 ≠ p.2
def made1 (row : List Int) (p : Int × Int) : List Int := if gt row p.2.toNat < gt row p.1.toNat then (row.set p.1.toNat (gt row p.2.toNat)).set p.2.toNat (gt row p.1.toNat) else row
def madeR (net : List (Int × Int)) (row : List Int) : List Int := net.foldl made1 row
theorem made1_len (row : List Int) (p : Int × Int) : (made1 row p).length = row.length := by
  unfold made1
  split <;> simp
theorem madeR_len : ∀ (net : List (Int × Int)) (row : List Int), (madeR net row).length = row.length
  | [], _ => rfl
  | p :: r, row => by
    show (madeR r (made1 row p)).length = _
    rw [madeR_len r, made1_len]
theorem madeR_snoc (net : List (Int × Int)) (p : Int × Int) (row : List Int) : madeR (net ++ [p]) row = made1 (madeR net row) p := by
  unfold madeR
  rw [List.foldl_append]
  rfl
theorem turn_P (i j : Nat) (body : VSt) (p : Int × Int) (s : VS) (h : VH) : turn (gP (pTup 2 (psCons (pN i) (psCons (pN j) psNil)))) body (pD p) s h = body ((s.set i (some (.int p.1))).set j (some (.int p.2))) h := turn_of rfl
theorem get_pD {net : List (Int × Int)} {k : Nat} {d : D} (ed : (net.map pD)[k]? = some d) : ∃ hk : k < net.length, d = pD net[k] := by
  simp only [List.getElem?_map] at ed
  obtain ⟨p, ep, rfl⟩ := Option.map_eq_some_iff.mp ed
  obtain ⟨hk, e⟩ := List.getElem?_eq_some_iff.mp ep
  exact ⟨hk, by rw [e]⟩
theorem cell_at (h : VH) (c : Cell) : (h ++ [c])[h.length]? = some c := by simp
theorem body_made {row : List Int} {p : Int × Int} (h0 : 0 ≤ p.1 ∧ p.1 < row.length ∧ 0 ≤ p.2 ∧ p.2 < row.length ∧ p.1 ≠ p.2) (a b : D) (h : VH) :
    B1_made_row [some a, some b, some (.ref h.length), some (.int p.1), some (.int p.2)] (h ++ [.lst (row.map .int)]) = .ok (.nx, [some a, some b, some (.ref h.length), some (.int p.1), some (.int p.2)], h ++ [.lst ((made1 row p).map .int)]) := by
  obtain ⟨h1, h2, h3, h4, h5⟩ := h0
  have a1 := atR h1 h2
  have a2 := atR h3 h4
  have lk0 := lk_at h (row.map D.int) []
  have c0 := cell_at h (.lst (row.map D.int))
  have s1 := sLst_I c0 h1 (by omega) (gt row p.2.toNat)
  rw [set_at] at s1
  have c1 := cell_at h (.lst ((row.set p.1.toNat (gt row p.2.toNat)).map D.int))
  have s2 := sLst_I c1 h3 (by simp; omega) (gt row p.1.toNat)
  rw [set_at] at s2
  by_cases hb : gt row p.2.toNat < gt row p.1.toNat
  · simp only [made1, hb, if_true]
    generalize gt row p.1.toNat = u at *
    generalize gt row p.2.toNat = v at *
    simp -implicitDefEqProofs [B1_made_row, lk0, a1, a2, hb, s1, s2, -List.map_set]
  · simp only [made1, hb, if_false]
    simp -implicitDefEqProofs [B1_made_row, lk0, a1, a2, hb]
theorem body_lmade {row : List Int} {p : Int × Int} (h0 : 0 ≤ p.1 ∧ p.1 < row.length ∧ 0 ≤ p.2 ∧ p.2 < row.length ∧ p.1 ≠ p.2) (a b : D) (x : Option D) (h : VH) :
    ∃ x', B1_law_made [some a, some b, some (.ref h.length), some (.int p.1), some (.int p.2), x] (h ++ [.lst (row.map .int)]) = .ok (.nx, [some a, some b, some (.ref h.length), some (.int p.1), some (.int p.2), x'], h ++ [.lst ((made1 row p).map .int)]) := by
  obtain ⟨h1, h2, h3, h4, h5⟩ := h0
  have a1 := atR h1 h2
  have a2 := atR h3 h4
  have lk0 := lk_at h (row.map D.int) []
  have c0 := cell_at h (.lst (row.map D.int))
  have s1 := sLst_I c0 h1 (by omega) (gt row p.2.toNat)
  rw [set_at] at s1
  have c1 := cell_at h (.lst ((row.set p.1.toNat (gt row p.2.toNat)).map D.int))
  have s2 := sLst_I c1 h3 (by simp; omega) (gt row p.1.toNat)
  rw [set_at] at s2
  by_cases hb : gt row p.2.toNat < gt row p.1.toNat
  · refine ⟨some (.int (gt row p.1.toNat)), ?_⟩
    simp only [made1, hb, if_true]
    generalize gt row p.1.toNat = u at *
    generalize gt row p.2.toNat = v at *
    simp -implicitDefEqProofs [B1_law_made, lk0, a1, a2, hb, s1, s2, -List.map_set]
  · refine ⟨x, ?_⟩
    simp only [made1, hb, if_false]
    simp -implicitDefEqProofs [B1_law_made, lk0, a1, a2, hb]
theorem x_made_row {net : List (Int × Int)} {row : List Int} (hw : Wires row.length net) (h : VH) : F_made_row [netD net, tupI row] h = .ok (tupI (madeR net row), h ++ [.lst ((madeR net row).map .int)]) := by
  obtain ⟨s', h', e, ⟨x, y, rfl⟩, rfl⟩ := for_all (it := vIt (vVar 0)) (g := gP (pTup 2 (psCons (pN 3) (psCons (pN 4) psNil)))) (body := B1_made_row) (s := [some (netD net), some (tupI row), some (.ref h.length), none, none]) (h := h ++ [.lst (row.map .int)]) (h1 := h ++ [.lst (row.map .int)]) (src := fun _ => some (net.map pD)) (xs := net.map pD)
    (fun k s h' => (∃ x y, s = [some (netD net), some (tupI row), some (.ref h.length), x, y]) ∧ h' = h ++ [.lst ((madeR (net.take k) row).map .int)]) (by simp [netD]) (fun _ _ _ _ => rfl) ⟨⟨_, _, rfl⟩, rfl⟩ (by
      rintro k d s h' ed ⟨⟨x, y, rfl⟩, rfl⟩
      obtain ⟨hk, rfl⟩ := get_pD ed
      have hp := hw net[k] (List.getElem_mem _)
      have b := body_made (row := madeR (net.take k) row) (p := net[k]) (by rw [madeR_len]; exact hp) (netD net) (tupI row) h
      refine ⟨_, _, .inl (by rw [turn_P]; exact b), ⟨_, _, rfl⟩, ?_⟩
      rw [List.take_succ_eq_append_getElem hk, madeR_snoc])
  have e : L1_made_row [some (netD net), some (tupI row), some (.ref h.length), none, none] (h ++ [.lst (row.map .int)]) = _ := e
  rw [List.length_map, List.take_length] at e
  have lk0 := lk_at h ((madeR net row).map D.int) []
  unfold F_made_row
  refine mF_rt (s' := [some (netD net), some (tupI row), some (.ref h.length), x, y]) ?_
  have ls : seqOf h (tupI row) = some (row.map .int) := rfl
  simp -implicitDefEqProofs [m_made_row, ls, e, lk0]
  rfl
theorem x_law_made {net : List (Int × Int)} {row : List Int} (hw : Wires row.length net) (h : VH) : F_law_made [netD net, tupI row] h = .ok (tupI (madeR net row), h ++ [.lst ((madeR net row).map .int)]) := by
  obtain ⟨s', h', e, ⟨x, y, z, rfl⟩, rfl⟩ := for_all (it := vIt (vVar 0)) (g := gP (pTup 2 (psCons (pN 3) (psCons (pN 4) psNil)))) (body := B1_law_made) (s := [some (netD net), some (tupI row), some (.ref h.length), none, none, none]) (h := h ++ [.lst (row.map .int)]) (h1 := h ++ [.lst (row.map .int)]) (src := fun _ => some (net.map pD)) (xs := net.map pD)
    (fun k s h' => (∃ x y z, s = [some (netD net), some (tupI row), some (.ref h.length), x, y, z]) ∧ h' = h ++ [.lst ((madeR (net.take k) row).map .int)]) (by simp [netD]) (fun _ _ _ _ => rfl) ⟨⟨_, _, _, rfl⟩, rfl⟩ (by
      rintro k d s h' ed ⟨⟨x, y, z, rfl⟩, rfl⟩
      obtain ⟨hk, rfl⟩ := get_pD ed
      have hp := hw net[k] (List.getElem_mem _)
      obtain ⟨z', b⟩ := body_lmade (row := madeR (net.take k) row) (p := net[k]) (by rw [madeR_len]; exact hp) (netD net) (tupI row) z h
      refine ⟨_, _, .inl (by rw [turn_P]; exact b), ⟨_, _, _, rfl⟩, ?_⟩
      rw [List.take_succ_eq_append_getElem hk, madeR_snoc])
  have e : L1_law_made [some (netD net), some (tupI row), some (.ref h.length), none, none, none] (h ++ [.lst (row.map .int)]) = _ := e
  rw [List.length_map, List.take_length] at e
  have lk0 := lk_at h ((madeR net row).map D.int) []
  unfold F_law_made
  refine mF_rt (s' := [some (netD net), some (tupI row), some (.ref h.length), x, y, z]) ?_
  have ls : seqOf h (tupI row) = some (row.map .int) := rfl
  simp -implicitDefEqProofs [m_law_made, ls, e, lk0]
  rfl
end K01

namespace K01
open PySem Vq
/-! ### plain facts of runs; what may be shown -/
theorem ext_gt {a b : List Int} (h : a.length = b.length) (e : ∀ w, w < a.length → gt a w = gt b w) : a = b := by
  apply List.ext_getElem h
  intro i h1 h2
  have := e i h1
  simpa [gt, List.getD_eq_getElem?_getD, h1, h2] using this
theorem gt_set {l : List Int} {i j : Nat} {v : Int} (hi : i < l.length) : gt (l.set i v) j = if i = j then v else gt l j := by
  unfold gt
  simp only [List.getD_eq_getElem?_getD]
  by_cases h : i = j
  · subst h
    simp [hi]
  · simp [h]
theorem gt_made1 {row : List Int} {p : Int × Int} (hp : 0 ≤ p.1 ∧ p.1 < row.length ∧ 0 ≤ p.2 ∧ p.2 < row.length ∧ p.1 ≠ p.2) (w : Nat) :
    gt (made1 row p) w = if w = p.1.toNat then min (gt row p.1.toNat) (gt row p.2.toNat) else if w = p.2.toNat then max (gt row p.1.toNat) (gt row p.2.toNat) else gt row w := by
  have h1 : p.1.toNat < row.length := by omega
  have h2 : p.2.toNat < row.length := by omega
  unfold made1
  by_cases c : gt row p.2.toNat < gt row p.1.toNat
  · rw [if_pos c, gt_set (by simpa using h2), gt_set h1]
    by_cases e1 : w = p.1.toNat
    · subst e1
      rw [if_neg (by omega), if_pos rfl, if_pos rfl]
      omega
    · by_cases e2 : w = p.2.toNat
      · subst e2
        rw [if_pos rfl, if_neg e1, if_pos rfl]
        omega
      · rw [if_neg (Ne.symm e2), if_neg (Ne.symm e1), if_neg e1, if_neg e2]
  · rw [if_neg c]
    by_cases e1 : w = p.1.toNat
    · subst e1
      rw [if_pos rfl]
      omega
    · by_cases e2 : w = p.2.toNat
      · subst e2
        rw [if_neg e1, if_pos rfl]
        omega
      · rw [if_neg e1, if_neg e2]
abbrev OkP (n : Nat) (p : Int × Int) : Prop := 0 ≤ p.1 ∧ p.1 < n ∧ 0 ≤ p.2 ∧ p.2 < n ∧ p.1 ≠ p.2
theorem madeR_app (a b : List (Int × Int)) (row : List Int) : madeR (a ++ b) row = madeR b (madeR a row) := by
  unfold madeR
  rw [List.foldl_append]
theorem made1_perm {row : List Int} {p : Int × Int} (hp : OkP row.length p) : (made1 row p).Perm row := by
  unfold OkP at hp
  have h1 : p.1.toNat < row.length := by omega
  have h2 : p.2.toNat < row.length := by omega
  have e1 : gt row p.1.toNat = row[p.1.toNat] := by simp [gt, h1]
  have e2 : gt row p.2.toNat = row[p.2.toNat] := by simp [gt, h2]
  unfold made1
  split
  · rw [e1, e2]
    exact List.set_set_perm h1 h2
  · exact List.Perm.refl _
theorem madeR_perm : ∀ {net : List (Int × Int)} {row : List Int}, Wires row.length net → (madeR net row).Perm row
  | [], _, _ => List.Perm.refl _
  | p :: r, row, hw => by
    have hp : OkP row.length p := hw p (List.mem_cons_self ..)
    refine (madeR_perm (net := r) (row := made1 row p) fun q hq => ?_).trans (made1_perm hp)
    rw [made1_len]
    exact hw q (List.mem_cons_of_mem _ hq)
theorem gt_map {row : List Int} (f : Int → Int) {w : Nat} (h : w < row.length) : gt (row.map f) w = f (gt row w) := by simp [gt, h]
theorem made1_map {row : List Int} {p : Int × Int} (hp : OkP row.length p) {f : Int → Int} (hf : ∀ x ∈ row, ∀ y ∈ row, x ≤ y → f x ≤ f y) : made1 (row.map f) p = (made1 row p).map f := by
  have hp' : OkP (row.map f).length p := by rw [List.length_map]; exact hp
  unfold OkP at hp
  have h1 : p.1.toNat < row.length := by omega
  have h2 : p.2.toNat < row.length := by omega
  have m1 : gt row p.1.toNat ∈ row := by simp [gt, h1]
  have m2 : gt row p.2.toNat ∈ row := by simp [gt, h2]
  refine ext_gt (by rw [made1_len, List.length_map, List.length_map, made1_len]) fun w hw => ?_
  rw [made1_len, List.length_map] at hw
  rw [gt_made1 hp', gt_map f (row := made1 row p) (w := w) (by rw [made1_len]; exact hw), gt_made1 hp, gt_map f h1, gt_map f h2, gt_map f hw]
  have a := hf _ m1 _ m2
  have b := hf _ m2 _ m1
  by_cases e1 : w = p.1.toNat
  · rw [if_pos e1, if_pos e1]
    rcases Int.le_total (gt row p.1.toNat) (gt row p.2.toNat) with z | z
    · rw [Int.min_eq_left z, Int.min_eq_left (a z)]
    · rw [Int.min_eq_right z, Int.min_eq_right (b z)]
  · rw [if_neg e1, if_neg e1]
    by_cases e2 : w = p.2.toNat
    · rw [if_pos e2, if_pos e2]
      rcases Int.le_total (gt row p.1.toNat) (gt row p.2.toNat) with z | z
      · rw [Int.max_eq_right z, Int.max_eq_right (a z)]
      · rw [Int.max_eq_left z, Int.max_eq_left (b z)]
    · rw [if_neg e2, if_neg e2]
theorem madeR_map {f : Int → Int} : ∀ {net : List (Int × Int)} {row : List Int}, Wires row.length net → (∀ x ∈ row, ∀ y ∈ row, x ≤ y → f x ≤ f y) → madeR net (row.map f) = (madeR net row).map f
  | [], _, _, _ => rfl
  | p :: r, row, hw, hf => by
    have hp : OkP row.length p := hw p (List.mem_cons_self ..)
    show madeR r (made1 (row.map f) p) = (madeR r (made1 row p)).map f
    rw [made1_map hp hf]
    refine madeR_map (fun q hq => by rw [made1_len]; exact hw q (List.mem_cons_of_mem _ hq)) fun x hx y hy => hf x ((made1_perm hp).mem_iff.mp hx) y ((made1_perm hp).mem_iff.mp hy)
theorem rising_gt {row : List Int} (h : row.Pairwise (· ≤ ·)) {i j : Nat} (hij : i < j) (hj : j < row.length) : gt row i ≤ gt row j := by
  have := List.pairwise_iff_getElem.mp h i j (by omega) hj hij
  simpa [gt, hj, show i < row.length by omega] using this
theorem madeR_rising {row : List Int} (h : row.Pairwise (· ≤ ·)) : ∀ {net : List (Int × Int)}, Wires row.length net → (∀ p ∈ net, p.1 < p.2) → madeR net row = row
  | [], _, _ => rfl
  | p :: r, hw, hlt => by
    have hp : OkP row.length p := hw p (List.mem_cons_self ..)
    have h1 := hlt p (List.mem_cons_self ..)
    unfold OkP at hp
    have e : made1 row p = row := by
      unfold made1
      have := rising_gt h (i := p.1.toNat) (j := p.2.toNat) (by omega) (by omega)
      rw [if_neg (by omega)]
    show madeR r (made1 row p) = row
    rw [e]
    exact madeR_rising h (fun q hq => hw q (List.mem_cons_of_mem _ hq)) fun q hq => hlt q (List.mem_cons_of_mem _ hq)
theorem Wires.mono {n m : Nat} {net : List (Int × Int)} (h : Wires n net) (hm : n ≤ m) : Wires m net := fun p hp => by
  have := h p hp
  omega
theorem Wires.app {n : Nat} {a b : List (Int × Int)} (h : Wires n a) (g : Wires n b) : Wires n (a ++ b) := fun p hp => by
  rcases List.mem_append.mp hp with q | q
  · exact h p q
  · exact g p q
theorem bAll_r {h : VH} {n : Nat} {l : List Bool} (e : lk h n = some (l.map .bl)) : bAll [.ref n] h = some (.bl (l.all id), h) := by
  unfold bAll pureB argBools
  simp [e]
theorem cut1 (row : List Int) : cutD (row.map D.int) (some 1) none = row.tail.map .int := by
  rw [cut_from _ (by decide)]
  cases row <;> simp
theorem x_ascending {row : List Int} (hz : row.length ≤ 1000000) (h : VH) : ∃ h', F_is_ascending [tupI row] h = .ok (.bl ((row.zip row.tail).all fun y => decide (y.1 ≤ y.2)), h') ∧ Grow h h' := by
  have c1 : C1_is_ascending [some (tupI row), none, none] h = .ok (.ref h.length, h ++ [.lst (((row.zip row.tail).map fun y => decide (y.1 ≤ y.2)).map .bl)]) := by
    have cu := cut1 row
    unfold C1_is_ascending
    rw [lc_zip (h1 := h) (ys := row) (zs := row.tail) (c := .int) (d := .int) (fun _ => true) (fun y => .bl (decide (y.1 ≤ y.2))) (by simp [tupI, slD, cu]) (by omega) (by
      intro y hy acc
      refine ⟨_, rfl, rfl, fun _ => ?_⟩
      simp -implicitDefEqProofs [E1_is_ascending, vwipe])]
    simp only [List.filter_eq_self.mpr (fun _ _ => rfl), List.map_map]
    rfl
  have ba := bAll_r (h := h ++ [.lst (((row.zip row.tail).map fun y => decide (y.1 ≤ y.2)).map .bl)]) (n := h.length) (l := (row.zip row.tail).map fun y => decide (y.1 ≤ y.2)) (lk_at h _ [])
  rw [List.all_map] at ba
  rw [show (id ∘ fun y : Int × Int => decide (y.1 ≤ y.2)) = (fun y : Int × Int => decide (y.1 ≤ y.2)) from rfl] at ba
  refine ⟨h ++ [.lst (((row.zip row.tail).map fun y => decide (y.1 ≤ y.2)).map .bl)], mF_rt (s' := [some (tupI row), none, none]) ?_, .new _ _⟩
  generalize ((row.zip row.tail).map fun y => decide (y.1 ≤ y.2)).map D.bl = l at *
  simp -implicitDefEqProofs [m_is_ascending, c1, ba]
theorem x_joined {a b : List (Int × Int)} (hz : a.length + b.length ≤ 1000000) (h : VH) : F_joined_nets [netD a, netD b] h = .ok (netD (a ++ b), h) := by
  refine mF_rt (s' := [some (netD a), some (netD b)]) ?_
  have z : a.length + b.length ≤ 16777216 := by omega
  simp -implicitDefEqProofs [m_joined_nets, netD, le_line z]
theorem E30_le : E30 ≤ 10 ^ 400 := by decide +kernel
theorem pl_lim {i : Int} (h : -E30 ≤ i ∧ i ≤ E30) : PlD 0 (.int i) := by
  have := E30_le
  exact pl_small (by omega) (by omega)
theorem pl_wire {i : Int} (h0 : 0 ≤ i) (h1 : i ≤ 1000000) : PlD 0 (.int i) := by
  have := E30_le
  have := E30_ge
  exact pl_small (by omega) (by omega)
theorem pl_row {row : List Int} (h : Lim row) : PlD 1 (tupI row) := pl_tup fun d hd => by
  obtain ⟨x, hx, rfl⟩ := List.mem_map.mp hd
  exact pl_lim (h.lim x hx)
theorem sum_const {l : List D} {c : Nat} (h : ∀ d ∈ l, sz d = c) : (l.map sz).sum = l.length * c := by
  induction l with
  | nil => simp
  | cons a r ih =>
    rw [List.map_cons, List.sum_cons, h a (List.mem_cons_self ..), ih fun d hd => h d (List.mem_cons_of_mem _ hd), List.length_cons, Nat.add_mul]
    omega
theorem sz_row {row : List Int} (h : Lim row) : sz (tupI row) = row.length + 1 := by
  unfold tupI
  rw [sz_tup (k := 0) fun d hd => by
    obtain ⟨x, hx, rfl⟩ := List.mem_map.mp hd
    exact pl_lim (h.lim x hx), sum_const (c := 1) fun d hd => by
    obtain ⟨x, hx, rfl⟩ := List.mem_map.mp hd
    exact sz_int x]
  simp
theorem pl_pD {n : Nat} (hn : n ≤ 1000) {p : Int × Int} (h : OkP n p) : PlD 1 (pD p) ∧ sz (pD p) = 3 := by
  unfold OkP at h
  have q : ∀ d ∈ [D.int p.1, D.int p.2], PlD 0 d := fun d hd => by
    simp only [List.mem_cons, List.not_mem_nil, or_false] at hd
    rcases hd with rfl | rfl
    · exact pl_wire h.1 (by omega)
    · exact pl_wire h.2.2.1 (by omega)
  refine ⟨pl_tup q, ?_⟩
  unfold pD
  rw [sz_tup q]
  simp [sz_int]
theorem pl_net {n : Nat} (hn : n ≤ 1000) {net : List (Int × Int)} (h : Wires n net) : PlD 2 (netD net) := pl_tup fun d hd => by
  obtain ⟨p, hp, rfl⟩ := List.mem_map.mp hd
  exact (pl_pD hn (h p hp)).1
theorem sz_net {n : Nat} (hn : n ≤ 1000) {net : List (Int × Int)} (h : Wires n net) : sz (netD net) = 3 * net.length + 1 := by
  unfold netD
  rw [sz_tup (k := 1) fun d hd => by
    obtain ⟨p, hp, rfl⟩ := List.mem_map.mp hd
    exact (pl_pD hn (h p hp)).1, sum_const (c := 3) fun d hd => by
    obtain ⟨p, hp, rfl⟩ := List.mem_map.mp hd
    exact (pl_pD hn (h p hp)).2]
  simp
  omega
theorem repr_same {k c s : Nat} {d : D} (hk : k ≤ 60) (p : PlD k d) (hs : c * sz d + 1 ≤ 8000) {l : List D} (hl : l = List.replicate c d) (h : VH) (m : Nat) (e : lk h m = some l) : bRepr [.ref m] h = some (.str (txtL l), h) :=
  repr_L (k := k) e (fun x hx => by
    rw [hl] at hx
    rw [List.eq_of_mem_replicate hx]
    exact p) hk (by
    rw [hl, List.map_replicate, List.sum_replicate_nat]
    exact hs)
theorem add_nets {a b : List (Int × Int)} (hz : a.length + b.length ≤ 1000000) (h : VH) : dAdd (netD a) (netD b) h = some (netD (a ++ b), h) := by
  have z : a.length + b.length ≤ 16777216 := by omega
  simp [netD, le_line z]
theorem dMul_L {h : VH} {m : Nat} {x : D} {n : Nat} (e : h[m]? = some (.lst [x])) (hn : n ≤ 1000) : dMul (.ref m) (.int n) h = some (.ref h.length, h ++ [.lst (List.replicate n x)]) := by
  have er : repD n [x] = List.replicate n x := by
    unfold repD
    induction n with
    | zero => rfl
    | succ n ih => rw [List.replicate_succ, List.flatten_cons, ih (by omega), List.replicate_succ]; rfl
  have ii0 : ∀ f, ii f (.ref m) (.int n) h = none := fun _ => rfl
  have t0 : tMulT (.ref m) (.int n) h = none := rfl
  unfold dMul orD aMul
  rw [ii0]
  simp only
  rw [t0]
  unfold tMulL
  have c1 : -(2 ^ 63) ≤ (n : Int) ∧ (n : Int) < 2 ^ 63 ∧ [x].length * (n : Int).toNat ≤ sizeLine := ⟨by omega, by omega, le_line (by simp; omega)⟩
  simp only [e]
  rw [if_pos c1]
  simp [er]
theorem dMul_3 {h : VH} {m : Nat} {x : D} (e : h[m]? = some (.lst [x])) : dMul (.ref m) (.int 3) h = some (.ref h.length, h ++ [.lst [x, x, x]]) := dMul_L (n := 3) e (by decide)
theorem dMul_2 {h : VH} {m : Nat} {x : D} (e : h[m]? = some (.lst [x])) : dMul (.ref m) (.int 2) h = some (.ref h.length, h ++ [.lst [x, x]]) := dMul_L (n := 2) e (by decide)
theorem r_made {net : List (Int × Int)} {row : List Int} (hw : Wires row.length net) (h : VH) : ∃ h', F_made_row [netD net, tupI row] h = .ok (tupI (madeR net row), h') ∧ Grow h h' := ⟨_, x_made_row hw h, .new _ _⟩
theorem r_lmade {net : List (Int × Int)} {row : List Int} (hw : Wires row.length net) (h : VH) : ∃ h', F_law_made [netD net, tupI row] h = .ok (tupI (madeR net row), h') ∧ Grow h h' := ⟨_, x_law_made hw h, .new _ _⟩
end K01

namespace K01
open PySem Vq
def minI (a b : Int) : Int := if b < a then b else a
def maxI (a b : Int) : Int := if b > a then b else a
theorem grow_set {h0 h : VH} {n : Nat} {c : Cell} (x : Grow h0 h) (hn : h0.length ≤ n) : Grow h0 (h.set n c) := by
  obtain ⟨g, rfl⟩ := x
  exact ⟨g.set (n - h0.length) c, List.set_append_right _ _ hn⟩
theorem Grow.le {h h' : VH} (x : Grow h h') : h.length ≤ h'.length := by
  obtain ⟨g, rfl⟩ := x
  simp
def Rises (row : List Int) : Prop := row.Pairwise (· ≤ ·)
theorem rises_iff {row : List Int} : Rises row ↔ ∀ w, w + 1 < row.length → gt row w ≤ gt row (w + 1) := by
  constructor
  · intro h w hw
    exact rising_gt h (by omega) hw
  · intro h
    have key : ∀ d i, i + d < row.length → gt row i ≤ gt row (i + d) := by
      intro d
      induction d with
      | zero => intro i _; exact Int.le_refl _
      | succ d ih =>
        intro i hi
        have a := ih i (by omega)
        have b := h (i + d) (by omega)
        rw [show i + d + 1 = i + (d + 1) by omega] at b
        omega
    refine List.pairwise_iff_getElem.mpr fun i j hi hj hij => ?_
    have := key (j - i) i (by omega)
    rw [show i + (j - i) = j by omega] at this
    simpa [gt, hi, hj] using this
def ascB (row : List Int) : Bool := (row.zip row.tail).all fun y => decide (y.1 ≤ y.2)
theorem ascB_iff {row : List Int} : ascB row = true ↔ Rises row := by
  rw [rises_iff]
  unfold ascB
  rw [List.all_eq_true]
  constructor
  · intro h w hw
    have := h (row[w], row[w + 1]) (List.mem_iff_getElem?.mpr ⟨w, by
      rw [List.getElem?_zip_eq_some]
      refine ⟨List.getElem?_eq_getElem (by omega), ?_⟩
      rw [List.getElem?_tail]
      exact List.getElem?_eq_getElem hw⟩)
    have this : row[w] ≤ row[w + 1] := of_decide_eq_true this
    simpa [gt, hw, show w < row.length by omega] using this
  · intro h y hy
    obtain ⟨i, hi⟩ := List.mem_iff_getElem?.mp hy
    rw [List.getElem?_zip_eq_some] at hi
    obtain ⟨h1, h2⟩ := hi
    rw [List.getElem?_tail] at h2
    obtain ⟨hl, e2⟩ := List.getElem?_eq_some_iff.mp h2
    obtain ⟨hl1, e1⟩ := List.getElem?_eq_some_iff.mp h1
    have := h i hl
    refine decide_eq_true ?_
    rw [← e1, ← e2]
    simpa [gt, hl, hl1] using this
theorem mn_is (a b : Int) (h : VH) : bMin [.int a, .int b] h = some (.int (min a b), h) := by
  have : bMin [.int a, .int b] h = some (.int (minI a b), h) := rfl
  rw [this]
  have e : minI a b = min a b := by
    unfold minI
    split <;> omega
  rw [e]
theorem mx_is (a b : Int) (h : VH) : bMax [.int a, .int b] h = some (.int (max a b), h) := by
  have : bMax [.int a, .int b] h = some (.int (maxI a b), h) := rfl
  rw [this]
  have e : maxI a b = max a b := by
    unfold maxI
    split <;> omega
  rw [e]
theorem rng_get {lo : Int} {n k : Nat} {d : D} (ed : (rangeD lo 1 n)[k]? = some d) : k < n ∧ d = .int (lo + k) := by
  rw [rangeD_get] at ed
  by_cases h : k < n
  · rw [if_pos h] at ed
    cases ed
    exact ⟨h, by rw [Int.mul_one]⟩
  · rw [if_neg h] at ed
    cases ed
theorem wires_snoc {n : Nat} {net : List (Int × Int)} {p : Int × Int} (h : Wires n net) (hp : OkP n p) : Wires n (net ++ [p]) := fun q hq => by
  rcases List.mem_append.mp hq with g | g
  · exact h q g
  · rw [List.mem_singleton.mp g]
    exact hp
def stdB (net : List (Int × Int)) : Bool := net.all fun p => decide (p.1 < p.2)
theorem x_is_standard {net : List (Int × Int)} (hz : net.length ≤ 1000000) (h : VH) : ∃ h', F_is_standard [netD net] h = .ok (.bl (stdB net), h') ∧ Grow h h' := by
  have c1 : C1_is_standard [some (netD net), none, none] h = .ok (.ref h.length, h ++ [.lst ((net.map fun p => decide (p.1 < p.2)).map .bl)]) := by
    unfold C1_is_standard
    rw [lc_tup (h1 := h) (ys := net) (c := pD) (fun _ => true) (fun p => .bl (decide (p.1 < p.2))) (by simp [netD]) (by omega) (by
      intro y hy acc
      refine ⟨_, rfl, rfl, fun _ => ?_⟩
      simp -implicitDefEqProofs [E1_is_standard, vwipe])]
    simp only [List.filter_eq_self.mpr (fun _ _ => rfl), List.map_map]
    rfl
  have ba := bAll_r (h := h ++ [.lst ((net.map fun p => decide (p.1 < p.2)).map .bl)]) (n := h.length) (l := net.map fun p => decide (p.1 < p.2)) (lk_at h _ [])
  rw [List.all_map] at ba
  refine ⟨h ++ [.lst ((net.map fun p => decide (p.1 < p.2)).map .bl)], mF_rt (s' := [some (netD net), none, none]) ?_, .new _ _⟩
  have e : (net.all (id ∘ fun p : Int × Int => decide (p.1 < p.2))) = stdB net := rfl
  rw [e] at ba
  generalize (net.map fun p => decide (p.1 < p.2)).map D.bl = l at *
  simp -implicitDefEqProofs [m_is_standard, c1, ba]
theorem x_does_sort {net : List (Int × Int)} {row : List Int} (hw : Wires row.length net) (hz : row.length ≤ 1000000) (h : VH) : ∃ h', F_does_sort_row [netD net, tupI row] h = .ok (.bl (ascB (madeR net row)), h') ∧ Grow h h' := by
  have e1 := x_made_row hw h
  obtain ⟨h1, e2, g2⟩ := x_ascending (row := madeR net row) (by rw [madeR_len]; exact hz) (h ++ [.lst ((madeR net row).map .int)])
  refine ⟨h1, mF_rt (s' := [some (netD net), some (tupI row)]) ?_, (Grow.new _ _).trans g2⟩
  have e2 : F_is_ascending [tupI (madeR net row)] (h ++ [Cell.lst ((madeR net row).map .int)]) = .ok (.bl (ascB (madeR net row)), h1) := e2
  generalize (madeR net row).map D.int = u at *
  simp -implicitDefEqProofs [m_does_sort_row, e1, e2]
theorem sz_bl (b : Bool) : sz (.bl b) = 1 := by
  have e : pyOf (.bl b) = .bool b := by
    unfold pyOf
    rw [pyD_b]
    rfl
  unfold sz
  rw [e]
  simp [size]
theorem repr_bs {h : VH} {m : Nat} {l : List Bool} (e : lk h m = some (l.map .bl)) (hz : l.length ≤ 100) : bRepr [.ref m] h = some (.str (txtL (l.map .bl)), h) :=
  repr_L (k := 0) e (fun d hd => by
    obtain ⟨b, _, rfl⟩ := List.mem_map.mp hd
    exact pl_bl b) (by decide) (by
    rw [sum_const (c := 1) fun d hd => by
      obtain ⟨b, _, rfl⟩ := List.mem_map.mp hd
      exact sz_bl b]
    simp only [List.length_map]
    omega)
theorem repr_is {h : VH} {m : Nat} {l : List Int} (e : lk h m = some (l.map .int)) (lim : Lim l) (hz : l.length ≤ 1000) : bRepr [.ref m] h = some (.str (txtL (l.map .int)), h) :=
  repr_L (k := 0) e (fun d hd => by
    obtain ⟨x, hx, rfl⟩ := List.mem_map.mp hd
    exact pl_lim (lim.lim x hx)) (by decide) (by
    rw [sum_const (c := 1) fun d hd => by
      obtain ⟨b, _, rfl⟩ := List.mem_map.mp hd
      exact sz_int b]
    simp only [List.length_map]
    omega)
theorem gt_mem {row : List Int} {k : Nat} (h : k < row.length) : gt row k ∈ row := by
  have e : gt row k = row[k] := by simp [gt, h]
  rw [e]
  exact List.getElem_mem _
theorem draw_nat {h : VH} {b c : Nat} (q : Hb b c h) {m : Int} (hm : 0 < m) (hd : m ≤ 1000000000) : ∃ (n : Nat) (h' : VH), F_law_draw [.ref b, .int m] h = .ok (.int n, h') ∧ (n : Int) < m ∧ Keep b c h h' := by
  obtain ⟨d, h1, e1, d0, d1, k1⟩ := s_draw q (n := m) hm hd
  obtain ⟨n, rfl⟩ := Int.eq_ofNat_of_zero_le d0
  exact ⟨n, h1, e1, d1, k1⟩
theorem net_put {b c n : Nat} {h0 h : VH} (q0 : Hb b c h0) {h1 : VH} (kp : Keep b c h0 h) (k1 : Keep b c h h1) {F : Nat} (hF : h0.length ≤ F) {f : List (Int × Int)} (cF : h[F]? = some (.lst (f.map pD))) (hz : f.length ≤ 1000) (p : Int × Int) :
    mAppend (.ref F) [.tup [.int p.1, .int p.2]] h1 = some (.non, h1.set F (.lst ((f ++ [p]).map pD))) ∧ Keep b c h0 (h1.set F (.lst ((f ++ [p]).map pD))) ∧ (h1.set F (.lst ((f ++ [p]).map pD)))[F]? = some (.lst ((f ++ [p]).map pD)) := by
  have cF1 : h1[F]? = some (.lst (f.map pD)) := Keep.cell q0 hF k1 cF
  have ap := mAppend_of (d := .tup [.int p.1, .int p.2]) cF1 (by simp only [List.length_map]; omega)
  have e3 : f.map pD ++ [D.tup [.int p.1, .int p.2]] = (f ++ [p]).map pD := by simp [pD]
  rw [e3] at ap
  have bl := q0.b_lt
  have cl := q0.c_lt
  exact ⟨ap, (kp.trans k1).set hF (by omega) (by omega), List.getElem?_set_self (lt_of_get cF1)⟩
theorem get_at {h : VH} {n : Nat} {c d : Cell} (e : h[n]? = some c) : (h ++ [d])[n]? = some c := by
  rw [List.getElem?_append_left (lt_of_get e)]
  exact e
end K01

namespace K01
open PySem Vq
/-! ### numbers, comparators, of any value -/
def isNum : D → Bool
  | .int _ => true
  | _ => false
def isIB : D → Bool
  | .int _ => true
  | .bl _ => true
  | _ => false
def isB : D → Bool
  | .bl _ => true
  | _ => false
def isT : D → Bool
  | .tup _ => true
  | .ftup _ => true
  | _ => false
theorem kit_i (d : D) : L2.kitB (tyNm d) "int" = some (isIB d) := by
  cases d <;> (simp only [tyNm, isIB]; decide +kernel)
theorem kit_b (d : D) : L2.kitB (tyNm d) "bool" = some (isB d) := by
  cases d <;> (simp only [tyNm, isB]; decide +kernel)
theorem kit_t (d : D) : L2.kitB (tyNm d) "tuple" = some (isT d) := by
  cases d <;> (simp only [tyNm, isT]; decide +kernel)
theorem x_is_number (d : D) (h : VH) : F_is_number [d] h = .ok (.bl (isNum d), h) := by
  have k1 := kit_i d
  have k2 := kit_b d
  refine mF_rt (s' := [some d]) ?_
  cases d <;> (simp only [isIB, isB] at k1 k2; simp -implicitDefEqProofs [m_is_number, vIsi, k1, k2, isNum])
def inW (lo hi : Int) : D → Bool
  | .int i => decide (lo ≤ i) && decide (i ≤ hi)
  | _ => false
theorem x_is_within (d : D) (lo hi : Int) (h : VH) : F_is_within [d, .int lo, .int hi] h = .ok (.bl (inW lo hi d), h) := by
  have n := x_is_number d h
  refine mF_rt (s' := [some d, some (.int lo), some (.int hi)]) ?_
  cases d with
  | int i =>
    simp only [isNum] at n
    by_cases c : lo ≤ i
    · simp -implicitDefEqProofs [m_is_within, n, inW, c]
    · simp -implicitDefEqProofs [m_is_within, n, inW, c]
  | _ => simp only [isNum] at n; simp -implicitDefEqProofs [m_is_within, n, inW]
/-- what is_comparator tells -/
def compD (n : Int) : D → Bool
  | .tup [a, b] => inW 0 (n - 1) a && inW 0 (n - 1) b && !(match a, b with | .int i, .int j => decide (i = j) | _, _ => false)
  | _ => false
def notF : D → Bool
  | .ftup _ => false
  | _ => true
theorem x_is_comparator (n : Int) (d : D) (hf : notF d = true) (h : VH) : F_is_comparator [.int n, d] h = .ok (.bl (compD n d), h) := by
  refine mF_rt (s' := [some (.int n), some d]) ?_
  have kt := kit_t d
  cases d with
  | tup l =>
    simp only [isT] at kt
    match l with
    | [a, b] =>
      have w1 := x_is_within a 0 (n - 1) h
      have w2 := x_is_within b 0 (n - 1) h
      have i0 : L2.atI [a, b] 0 = some a := rfl
      have i1 : L2.atI [a, b] 1 = some b := rfl
      cases e1 : inW 0 (n - 1) a with
      | false =>
        rw [e1] at w1
        simp -implicitDefEqProofs [m_is_comparator, vIsi, kt, i0, w1, compD, e1]
      | true =>
        rw [e1] at w1
        cases e2 : inW 0 (n - 1) b with
        | false =>
          rw [e2] at w2
          simp -implicitDefEqProofs [m_is_comparator, vIsi, kt, i0, i1, w1, w2, compD, e1, e2]
        | true =>
          rw [e2] at w2
          cases a with
          | int i =>
            cases b with
            | int j =>
              simp -implicitDefEqProofs [m_is_comparator, vIsi, kt, i0, i1, w1, w2, compD, e1, e2]
            | _ => simp [inW] at e2
          | _ => simp [inW] at e1
    | [] => simp -implicitDefEqProofs [m_is_comparator, vIsi, kt, compD]
    | [a] => simp -implicitDefEqProofs [m_is_comparator, vIsi, kt, compD]
    | a :: b :: c :: r =>
      have e : ¬ ((r.length : Int) + 1 + 1 + 1 = 2) := by omega
      simp -implicitDefEqProofs [m_is_comparator, vIsi, kt, compD, e]
  | ftup l => cases hf
  | _ => simp only [isT] at kt; simp -implicitDefEqProofs [m_is_comparator, vIsi, kt, compD]
end K01

namespace K01
open PySem Vq
/-! ### errors of nets and rows -/
def oddL (n : Int) (l : List D) : List Nat := (l.zipIdx.filter fun y => !compD n y.1).map (·.2)
def firstE (w : String) : List Nat → D
  | [] => .non
  | k :: _ => .tup [.str (Str.ofString w), .int (k : Int)]
def netE (n : Int) (l : List D) : D := if 500 < l.length then .str (Str.ofString "many") else firstE "comparator" (oddL n l)
theorem C1_neterr {n : Int} {l : List D} (hf : ∀ d ∈ l, notF d = true) (hz : l.length ≤ 1000000) (h : VH) :
    C1_net_error F_is_comparator [some (.int n), some (.tup l), none, none, none] h = .ok (.ref h.length, h ++ [.lst ((oddL n l).map fun (k : Nat) => D.int (k : Int))]) := by
  unfold C1_net_error
  rw [lc_enum (h1 := h) (ys := l) (c := id) (fun y => !compD n y.1) (fun y => .int (y.2 : Int)) (by simp) (by omega) (by
    intro y hy acc
    have hm : y.1 ∈ l := by
      obtain ⟨i, hi⟩ := List.mem_iff_getElem?.mp hy
      rw [List.getElem?_zipIdx] at hi
      obtain ⟨a, ha, rfl⟩ := Option.map_eq_some_iff.mp hi
      exact List.mem_of_getElem? ha
    have c := x_is_comparator n y.1 (hf _ hm) (h ++ [.lst acc])
    refine ⟨_, rfl, ?_, fun _ => ?_⟩
    · simp -implicitDefEqProofs [T1_net_error, vwipe, c]
    · simp -implicitDefEqProofs [E1_net_error, vwipe])]
  unfold oddL
  rw [List.map_map]
  rfl
theorem first_of {w : String} {h : VH} {n : Nat} {l : List Nat} (e : lk h n = some (l.map fun (k : Nat) => D.int (k : Int))) :
    dNe (.ref n) (.ref h.length) (h ++ [.lst []]) = some (.bl (!decide (l = [])), h ++ [.lst []]) := by
  have e1 : lk (h ++ [Cell.lst []]) n = some ((l.map fun (k : Nat) => (k : Int)).map D.int) := by
    rw [List.map_map]
    exact lk_app e _
  have q := eqLp (α := Int) (by decide) true e1 (m := h.length) (b := []) (by simp)
  have e2 : decide ((l.map fun (k : Nat) => (k : Int)) = []) = decide (l = []) := by
    cases l <;> simp
  rw [e2] at q
  exact q
theorem x_net_error_t {n : Int} {l : List D} (hf : ∀ d ∈ l, notF d = true) (hz : l.length ≤ 1000000) (h : VH) : ∃ h', F_net_error [.int n, .tup l] h = .ok (netE n l, h') ∧ Grow h h' := by
  have kt := kit_t (.tup l)
  simp only [isT] at kt
  have e3 : S3_net_error F_is_comparator [some (.int n), some (.tup l), none, none, none] h = .ok (.nx, [some (.int n), some (.tup l), none, none, none], h) := by
    simp -implicitDefEqProofs [S3_net_error, vIsi, kt]
  by_cases hm : 500 < l.length
  · have hm' : (500 : Int) < l.length := by omega
    refine ⟨h, mF_rt (s' := [some (.int n), some (.tup l), none, none, none]) ?_, .refl h⟩
    show m_net_error F_is_comparator [some (.int n), some (.tup l), none, none, none] h = _
    unfold m_net_error
    rw [seq_nx e3]
    simp -implicitDefEqProofs [S2_net_error, hm, hm', netE]
  · have hm' : ¬ (500 : Int) < l.length := by omega
    have e2 : S2_net_error F_is_comparator [some (.int n), some (.tup l), none, none, none] h = .ok (.nx, [some (.int n), some (.tup l), none, none, none], h) := by
      simp -implicitDefEqProofs [S2_net_error, hm, hm']
    have c1 := C1_neterr (n := n) hf hz h
    obtain ⟨h1, eh1⟩ : ∃ h1, h1 = h ++ [.lst ((oddL n l).map fun (k : Nat) => D.int (k : Int))] := ⟨_, rfl⟩
    have l1 : lk h1 h.length = some ((oddL n l).map fun (k : Nat) => D.int (k : Int)) := by rw [eh1]; exact lk_at _ _ []
    rw [← eh1] at c1
    have e1 : S1_net_error F_is_comparator [some (.int n), some (.tup l), none, none, none] h = .ok (.nx, [some (.int n), some (.tup l), some (.ref h.length), none, none], h1) := by
      simp -implicitDefEqProofs [S1_net_error, c1]
    have fo := first_of (w := "comparator") l1
    refine ⟨h1 ++ [.lst []], mF_rt (s' := [some (.int n), some (.tup l), some (.ref h.length), none, none]) ?_, by rw [eh1]; exact (Grow.new _ _).app _⟩
    show m_net_error F_is_comparator [some (.int n), some (.tup l), none, none, none] h = _
    unfold m_net_error
    rw [seq_nx e3, seq_nx e2, seq_nx e1]
    unfold netE
    rw [if_neg hm]
    have l2 := lk_app l1 [.lst []]
    cases ho : oddL n l with
    | nil =>
      rw [ho] at fo
      simp -implicitDefEqProofs [fo, firstE]
    | cons k r =>
      rw [ho] at fo l2
      have i0 : L2.atI ((k :: r).map fun (k : Nat) => D.int (k : Int)) 0 = some (.int (k : Int)) := atI_nn (l := (k :: r).map fun (k : Nat) => D.int (k : Int)) (i := 0) (by decide) (by simp)
      rw [decide_eq_false (by simp)] at fo
      generalize ((k :: r).map fun (k : Nat) => D.int (k : Int)) = u at *
      simp -implicitDefEqProofs [fo, l2, i0, firstE]
theorem x_net_error_o {n : Int} {d : D} (hd : isT d = false) (h : VH) : F_net_error [.int n, d] h = .ok (.str (Str.ofString "form"), h) := by
  have kt := kit_t d
  rw [hd] at kt
  refine mF_rt (s' := [some (.int n), some d, none, none, none]) ?_
  simp -implicitDefEqProofs [m_net_error, S3_net_error, vIsi, kt]
/-! ### rows -/
def absI (i : Int) : Int := if i < 0 then -i else i
def MAXN : Int := 1000000000000000000000000000000
def farL (r : List Int) : List Nat := (r.zipIdx.filter fun y => decide (MAXN < absI y.1)).map (·.2)
theorem C2_rowerr {n : Int} {l : List D} (hz : l.length ≤ 1000000) (h : VH) :
    C2_row_error F_is_number [some (.int n), some (.tup l), none, none, none] h = .ok (.ref h.length, h ++ [.lst ((l.map isNum).map .bl)]) := by
  unfold C2_row_error
  rw [lc_tup (h1 := h) (ys := l) (c := id) (fun _ => true) (fun y => .bl (isNum y)) (by simp) (by omega) (by
    intro y hy acc
    have c := x_is_number y (h ++ [.lst acc])
    refine ⟨_, rfl, rfl, fun _ => ?_⟩
    simp -implicitDefEqProofs [E2_row_error, vwipe, c])]
  simp only [List.filter_eq_self.mpr (fun _ _ => rfl), List.map_map]
  rfl
theorem x_row_error_o {n : Int} {d : D} (hd : isT d = false) (h : VH) : F_row_error [.int n, d] h = .ok (.str (Str.ofString "form"), h) := by
  have kt := kit_t d
  rw [hd] at kt
  refine mF_rt (s' := [some (.int n), some d, none, none, none]) ?_
  simp -implicitDefEqProofs [m_row_error, S2_row_error, vIsi, kt]
theorem x_row_error_f {n : Int} {l : List D} (hz : l.length ≤ 1000000) (hb : (l.length : Int) ≠ n ∨ l.all isNum = false) (h : VH) : ∃ h', F_row_error [.int n, .tup l] h = .ok (.str (Str.ofString "form"), h') ∧ Grow h h' := by
  have kt := kit_t (.tup l)
  simp only [isT] at kt
  by_cases hl : (l.length : Int) = n
  · have ha : l.all isNum = false := hb.elim (fun z => absurd hl z) id
    have c2 := C2_rowerr (n := n) hz h
    have ba := bAll_r (h := h ++ [.lst ((l.map isNum).map .bl)]) (n := h.length) (l := l.map isNum) (lk_at h _ [])
    rw [List.all_map, show l.all (id ∘ isNum) = l.all isNum from rfl, ha] at ba
    refine ⟨h ++ [.lst ((l.map isNum).map .bl)], mF_rt (s' := [some (.int n), some (.tup l), none, none, none]) ?_, .new _ _⟩
    generalize (l.map isNum).map D.bl = u at *
    simp -implicitDefEqProofs [m_row_error, S2_row_error, vIsi, kt, hl, c2, ba]
  · refine ⟨h, mF_rt (s' := [some (.int n), some (.tup l), none, none, none]) ?_, .refl h⟩
    simp -implicitDefEqProofs [m_row_error, S2_row_error, vIsi, kt, hl]
theorem C1_rowerr {n : Int} {r : List Int} (hz : r.length ≤ 1000000) (h : VH) :
    C1_row_error F_is_number [some (.int n), some (tupI r), none, none, none] h = .ok (.ref h.length, h ++ [.lst ((farL r).map fun (k : Nat) => D.int (k : Int))]) := by
  unfold C1_row_error
  rw [lc_enum (h1 := h) (ys := r) (c := .int) (fun y => decide (MAXN < absI y.1)) (fun y => .int (y.2 : Int)) (by simp [tupI]) (by omega) (by
    intro y hy acc
    refine ⟨_, rfl, ?_, fun _ => ?_⟩
    · simp -implicitDefEqProofs [T1_row_error, vwipe, MAXN, absI]
      try rfl
    · simp -implicitDefEqProofs [E1_row_error, vwipe])]
  unfold farL
  rw [List.map_map]
  rfl
theorem x_row_error_i {n : Nat} {r : List Int} (hl : r.length = n) (hz : n ≤ 1000000) (h : VH) : ∃ h', F_row_error [.int n, tupI r] h = .ok (firstE "item" (farL r), h') ∧ Grow h h' := by
  have kt := kit_t (tupI r)
  simp only [isT, tupI] at kt
  have c2 := C2_rowerr (n := n) (l := r.map .int) (by simp; omega) h
  obtain ⟨h1, eh1⟩ : ∃ h1, h1 = h ++ [.lst (((r.map D.int).map isNum).map .bl)] := ⟨_, rfl⟩
  rw [← eh1] at c2
  have ba := bAll_r (h := h1) (n := h.length) (l := (r.map D.int).map isNum) (by rw [eh1]; exact lk_at h _ [])
  have al : ((r.map D.int).map isNum).all id = true := by
    rw [List.map_map, List.all_map, List.all_eq_true]
    exact fun _ _ => rfl
  rw [al] at ba
  have hl' : ((r.map D.int).length : Int) = n := by simp [hl]
  have e2 : S2_row_error F_is_number [some (.int n), some (tupI r), none, none, none] h = .ok (.nx, [some (.int n), some (tupI r), none, none, none], h1) := by
    unfold tupI
    generalize r.map D.int = u at *
    simp -implicitDefEqProofs [S2_row_error, vIsi, kt, hl', c2, ba]
  have c1 := C1_rowerr (n := n) (r := r) (by omega) h1
  obtain ⟨h2, eh2⟩ : ∃ h2, h2 = h1 ++ [.lst ((farL r).map fun (k : Nat) => D.int (k : Int))] := ⟨_, rfl⟩
  have l2 : lk h2 h1.length = some ((farL r).map fun (k : Nat) => D.int (k : Int)) := by rw [eh2]; exact lk_at _ _ []
  rw [← eh2] at c1
  have e1 : S1_row_error F_is_number [some (.int n), some (tupI r), none, none, none] h1 = .ok (.nx, [some (.int n), some (tupI r), some (.ref h1.length), none, none], h2) := by
    simp -implicitDefEqProofs [S1_row_error, c1]
  have fo := first_of (w := "item") l2
  refine ⟨h2 ++ [.lst []], mF_rt (s' := [some (.int n), some (tupI r), some (.ref h1.length), none, none]) ?_, by rw [eh2, eh1]; exact ((Grow.new _ _).app _).app _⟩
  show m_row_error F_is_number [some (.int n), some (tupI r), none, none, none] h = _
  unfold m_row_error
  rw [seq_nx e2, seq_nx e1]
  have l3 := lk_app l2 [.lst []]
  cases ho : farL r with
  | nil =>
    rw [ho] at fo
    simp -implicitDefEqProofs [fo, firstE]
  | cons k r' =>
    rw [ho] at fo l3
    have i0 : L2.atI ((k :: r').map fun (k : Nat) => D.int (k : Int)) 0 = some (.int (k : Int)) := atI_nn (l := (k :: r').map fun (k : Nat) => D.int (k : Int)) (i := 0) (by decide) (by simp)
    rw [decide_eq_false (by simp)] at fo
    generalize ((k :: r').map fun (k : Nat) => D.int (k : Int)) = u at *
    simp -implicitDefEqProofs [fo, l3, i0, firstE]
end K01

namespace K01
open PySem Vq
theorem s_net_err {n : Int} {v due : D} {h : VH} {t u : Str} (hv : Sh h v t) (hd : Sh h due u) (he : ∀ h', ∃ h'', F_net_error [.int n, v] h' = .ok (due, h'') ∧ Grow h' h'') : ∃ h', F_law_is_net_error [.int n, v, due] h = .ok (.bl true, h') ∧ Grow h h' := by
  obtain ⟨h1, e1, g1⟩ := he h
  obtain ⟨h2, e2, g2⟩ := he h1
  obtain ⟨h3, e3, g3⟩ := he h2
  have v0 := hv.2 h (fun _ _ e => e)
  have d0 := hd.2 h (fun _ _ e => e)
  have d1 := hd.2 h1 g1.lists
  have d2 := hd.2 h2 (g1.trans g2).lists
  have d3 := hd.2 h3 ((g1.trans g2).trans g3).lists
  obtain ⟨h4, eh4⟩ : ∃ h4, h4 = h3 ++ [.lst [.str u, .str u, .str u]] := ⟨_, rfl⟩
  have l4 : lk h4 h3.length = some [.str u, .str u, .str u] := by rw [eh4]; exact lk_at _ _ []
  obtain ⟨h5, eh5⟩ : ∃ h5, h5 = h4 ++ [.lst [.str u]] := ⟨_, rfl⟩
  have m5 := dMul_3 (h := h5) (m := h4.length) (x := .str u) (by rw [eh5]; exact cell_at _ _)
  obtain ⟨h6, eh6⟩ : ∃ h6, h6 = h5 ++ [.lst [.str u, .str u, .str u]] := ⟨_, rfl⟩
  rw [← eh6] at m5
  have q := dEq_strs (h := h6) (n := h3.length) (m := h5.length) (a := [u, u, u]) (b := [u, u, u]) (by rw [eh6, eh5]; exact lk_app (lk_app l4 _) _) (by rw [eh6]; exact lk_at _ _ []) (by simp [hd.1]) (by simp [hd.1])
  rw [decide_eq_true rfl] at q
  have g6 : Grow h h6 := by
    rw [eh6, eh5, eh4]
    exact ((((g1.trans g2).trans g3).app _).app _).app _
  have v6 := hv.2 h6 g6.lists
  have eh4' := eh4.symm
  have eh5' := eh5.symm
  refine ⟨h6, mF_rt (s' := [some (.int n), some v, some (.str u), some (.str t), some (.ref h3.length)]) ?_, g6⟩
  simp only [bReprD_ap] at v0 d0 d1 d2 d3 v6
  simp -implicitDefEqProofs [m_law_is_net_error, v0, d0, e1, d1, e2, d2, e3, d3, eh4', eh5', m5, q, v6]
theorem s_row_err {n : Int} {v due : D} {h : VH} {t u : Str} (hv : Sh h v t) (hd : Sh h due u) (he : ∀ h', ∃ h'', F_row_error [.int n, v] h' = .ok (due, h'') ∧ Grow h' h'') : ∃ h', F_law_is_row_error [.int n, v, due] h = .ok (.bl true, h') ∧ Grow h h' := by
  obtain ⟨h1, e1, g1⟩ := he h
  obtain ⟨h2, e2, g2⟩ := he h1
  obtain ⟨h3, e3, g3⟩ := he h2
  have v0 := hv.2 h (fun _ _ e => e)
  have d0 := hd.2 h (fun _ _ e => e)
  have d1 := hd.2 h1 g1.lists
  have d2 := hd.2 h2 (g1.trans g2).lists
  have d3 := hd.2 h3 ((g1.trans g2).trans g3).lists
  obtain ⟨h4, eh4⟩ : ∃ h4, h4 = h3 ++ [.lst [.str u, .str u, .str u]] := ⟨_, rfl⟩
  have l4 : lk h4 h3.length = some [.str u, .str u, .str u] := by rw [eh4]; exact lk_at _ _ []
  obtain ⟨h5, eh5⟩ : ∃ h5, h5 = h4 ++ [.lst [.str u]] := ⟨_, rfl⟩
  have m5 := dMul_3 (h := h5) (m := h4.length) (x := .str u) (by rw [eh5]; exact cell_at _ _)
  obtain ⟨h6, eh6⟩ : ∃ h6, h6 = h5 ++ [.lst [.str u, .str u, .str u]] := ⟨_, rfl⟩
  rw [← eh6] at m5
  have q := dEq_strs (h := h6) (n := h3.length) (m := h5.length) (a := [u, u, u]) (b := [u, u, u]) (by rw [eh6, eh5]; exact lk_app (lk_app l4 _) _) (by rw [eh6]; exact lk_at _ _ []) (by simp [hd.1]) (by simp [hd.1])
  rw [decide_eq_true rfl] at q
  have g6 : Grow h h6 := by
    rw [eh6, eh5, eh4]
    exact ((((g1.trans g2).trans g3).app _).app _).app _
  have v6 := hv.2 h6 g6.lists
  have eh4' := eh4.symm
  have eh5' := eh5.symm
  refine ⟨h6, mF_rt (s' := [some (.int n), some v, some (.str u), some (.str t), some (.ref h3.length)]) ?_, g6⟩
  simp only [bReprD_ap] at v0 d0 d1 d2 d3 v6
  simp -implicitDefEqProofs [m_law_is_row_error, v0, d0, e1, d1, e2, d2, e3, d3, eh4', eh5', m5, q, v6]
end K01

namespace K01
open PySem Vq
/-! ### values that may be shown -/
structure Its (h : VH) (l : List D) (S : Nat) : Prop where
  ex : ∃ ps, pyQs (refQ h 6) l = some ps ∧ pyQs (refQ h 5) l = some ps ∧ gdQs ps = true ∧ PyData.depthAll ps ≤ 10 ∧ szQs ps ≤ S
theorem pyQs_app (f : Nat → Option PyData) : ∀ (a b : List D), pyQs f (a ++ b) = (pyQs f a).bind fun x => (pyQs f b).map fun y => x ++ y
  | [], b => by
    simp only [List.nil_append, pyQs, Option.bind_some]
    cases pyQs f b <;> rfl
  | d :: r, b => by
    simp only [List.cons_append, pyQs, pyQs_app f r b]
    cases pyQ f d with
    | none => rfl
    | some x =>
      simp only [Option.bind_some]
      cases pyQs f r with
      | none => rfl
      | some y =>
        simp only [Option.bind_some, Option.map_some]
        cases pyQs f b <;> rfl
theorem gdQs_app : ∀ a b : List PyData, gdQs (a ++ b) = (gdQs a && gdQs b)
  | [], b => by simp [gdQs]
  | x :: r, b => by simp only [List.cons_append, gdQs, gdQs_app r b, Bool.and_assoc]
theorem szQs_app : ∀ a b : List PyData, szQs (a ++ b) = szQs a + szQs b
  | [], b => by simp [szQs]
  | x :: r, b => by
    simp only [List.cons_append, szQs, szQs_app r b]
    omega
theorem depth_app : ∀ a b : List PyData, PyData.depthAll (a ++ b) = max (PyData.depthAll a) (PyData.depthAll b)
  | [], b => by simp [PyData.depthAll]
  | x :: r, b => by
    simp only [List.cons_append, PyData.depthAll, depth_app r b]
    omega
theorem Its.nil (h : VH) : Its h [] 0 := ⟨[], rfl, rfl, rfl, Nat.zero_le _, Nat.le_refl _⟩
theorem Its.app {h : VH} {a b : List D} {S T : Nat} (x : Its h a S) (y : Its h b T) : Its h (a ++ b) (S + T) := by
  obtain ⟨p, p1, p2, p3, p4, p5⟩ := x.ex
  obtain ⟨q, q1, q2, q3, q4, q5⟩ := y.ex
  refine ⟨p ++ q, ?_, ?_, ?_, ?_, ?_⟩
  · rw [pyQs_app, p1, q1]; rfl
  · rw [pyQs_app, p2, q2]; rfl
  · rw [gdQs_app, p3, q3]; rfl
  · rw [depth_app]; omega
  · rw [szQs_app]; omega
theorem Its.le {h : VH} {a : List D} {S T : Nat} (x : Its h a S) (hs : S ≤ T) : Its h a T := x.ex.elim fun p ⟨p1, p2, p3, p4, p5⟩ => ⟨p, p1, p2, p3, p4, Nat.le_trans p5 hs⟩
theorem Its.left {h : VH} {a b : List D} {S : Nat} (x : Its h (a ++ b) S) : Its h a S := by
  obtain ⟨p, p1, p2, p3, p4, p5⟩ := x.ex
  rw [pyQs_app] at p1 p2
  obtain ⟨u, u1, p1⟩ := Option.bind_eq_some_iff.mp p1
  obtain ⟨v, v1, rfl⟩ := Option.map_eq_some_iff.mp p1
  obtain ⟨u', u2, p2⟩ := Option.bind_eq_some_iff.mp p2
  obtain ⟨v', v2, e⟩ := Option.map_eq_some_iff.mp p2
  have l1 : ∀ {f : Nat → Option PyData} {l : List D} {ps : List PyData}, pyQs f l = some ps → ps.length = l.length := fun {f l} => by
    induction l with
    | nil => intro ps e; simp only [pyQs] at e; cases e; rfl
    | cons d r ih =>
      intro ps e
      simp only [pyQs] at e
      obtain ⟨a, ea, e⟩ := Option.bind_eq_some_iff.mp e
      obtain ⟨b, eb, rfl⟩ := Option.map_eq_some_iff.mp e
      rw [List.length_cons, List.length_cons, ih eb]
  have ee := List.append_inj e (by rw [l1 u1, l1 u2])
  rw [gdQs_app, Bool.and_eq_true] at p3
  rw [depth_app] at p4
  rw [szQs_app] at p5
  exact ⟨u, u1, by rw [← ee.1]; exact u2, p3.1, by omega, by omega⟩
theorem Its.right {h : VH} {a b : List D} {S : Nat} (x : Its h (a ++ b) S) : Its h b S := by
  obtain ⟨p, p1, p2, p3, p4, p5⟩ := x.ex
  rw [pyQs_app] at p1 p2
  obtain ⟨u, u1, p1⟩ := Option.bind_eq_some_iff.mp p1
  obtain ⟨v, v1, rfl⟩ := Option.map_eq_some_iff.mp p1
  obtain ⟨u', u2, p2⟩ := Option.bind_eq_some_iff.mp p2
  obtain ⟨v', v2, e⟩ := Option.map_eq_some_iff.mp p2
  have l1 : ∀ {f : Nat → Option PyData} {l : List D} {ps : List PyData}, pyQs f l = some ps → ps.length = l.length := fun {f l} => by
    induction l with
    | nil => intro ps e; simp only [pyQs] at e; cases e; rfl
    | cons d r ih =>
      intro ps e
      simp only [pyQs] at e
      obtain ⟨a, ea, e⟩ := Option.bind_eq_some_iff.mp e
      obtain ⟨b, eb, rfl⟩ := Option.map_eq_some_iff.mp e
      rw [List.length_cons, List.length_cons, ih eb]
  have ee := List.append_inj e (by rw [l1 u1, l1 u2])
  rw [gdQs_app, Bool.and_eq_true] at p3
  rw [depth_app] at p4
  rw [szQs_app] at p5
  exact ⟨v, v1, by rw [← ee.2]; exact v2, p3.2, by omega, by omega⟩
theorem Its.take {h : VH} {a : List D} {S : Nat} (x : Its h a S) (k : Nat) : Its h (a.take k) S := by
  rw [← List.take_append_drop k a] at x
  exact x.left
theorem Its.drop {h : VH} {a : List D} {S : Nat} (x : Its h a S) (k : Nat) : Its h (a.drop k) S := by
  rw [← List.take_append_drop k a] at x
  exact x.right
theorem Its.one {h : VH} {d : D} {p : PyData} (h1 : pyQ (refQ h 6) d = some p) (h2 : pyQ (refQ h 5) d = some p) (g : gdQ p = true) (hd : p.depth ≤ 10) {S : Nat} (hs : szQ p ≤ S) : Its h [d] S := by
  refine ⟨[p], by simp only [pyQs, h1]; rfl, by simp only [pyQs, h2]; rfl, by simp only [gdQs, g]; rfl, ?_, ?_⟩
  · simp only [PyData.depthAll]
    omega
  · simp only [szQs]
    omega
theorem Its.rep {h : VH} {d : D} {S : Nat} (x : Its h [d] S) : ∀ k : Nat, Its h (List.replicate k d) (S * k)
  | 0 => by
    rw [Nat.mul_zero]
    exact .nil h
  | k + 1 => by
    rw [List.replicate_succ, Nat.mul_succ, Nat.add_comm]
    exact x.app (Its.rep x k)
theorem Its.sh {h : VH} {l : List D} {S : Nat} (x : Its h l S) (hs : S ≤ 7990) : ∃ t, Sh h (.tup l) t := by
  obtain ⟨ps, p1, _, p3, p4, p5⟩ := x.ex
  refine sh_of (p := .tuple ps) (by simp only [pyQ, p1]; rfl) (by simp only [gdQ]; exact p3) (by simp only [PyData.depth]; omega) (by simp only [szQ]; omega)
theorem Its.shL {h : VH} {l : List D} {S : Nat} (x : Its h l S) (hs : S ≤ 7990) {n : Nat} (e : h[n]? = some (.lst l)) : ∃ t, Sh h (.ref n) t := by
  obtain ⟨ps, _, p2, p3, p4, p5⟩ := x.ex
  have el : lkL h n = some l := by
    unfold lkL
    rw [e]
  refine sh_of (p := .list ps) ?_ (by simp only [gdQ]; exact p3) (by simp only [PyData.depth]; omega) (by simp only [szQ]; omega)
  show (lkL h n).bind (fun l => (pyQs (refQ h 5) l).map PyData.list) = _
  rw [el, Option.bind_some, p2]
  rfl
theorem Its.ints (h : VH) {r : List Int} (lim : ∀ x ∈ r, x.natAbs.log2 < 1920) : Its h (r.map .int) r.length := by
  induction r with
  | nil => exact .nil h
  | cons x r ih =>
    have a : Its h [.int x] 1 := .one (p := .int x) rfl rfl (by simp only [gdQ]; exact decide_eq_true (lim x (List.mem_cons_self ..))) (Nat.zero_le _) (Nat.le_refl _)
    have := a.app (ih fun y hy => lim y (List.mem_cons_of_mem _ hy))
    rw [Nat.add_comm] at this
    exact this
theorem log_small {i : Int} (h0 : -(10 ^ 400) ≤ i) (h1 : i ≤ 10 ^ 400) : i.natAbs.log2 < 1920 := by
  have p := (pl_small h0 h1).sho
  have e : pyOf (.int i) = .int i := rfl
  rw [e] at p
  simpa only [PyData.showable, decide_eq_true_eq] using p
theorem log_lim {i : Int} (h : -E30 ≤ i ∧ i ≤ E30) : i.natAbs.log2 < 1920 := by
  have := E30_le
  exact log_small (by omega) (by omega)
theorem Its.row (h : VH) {r : List Int} (lim : Lim r) : Its h (r.map .int) r.length := .ints h fun x hx => log_lim (lim.lim x hx)
theorem Its.pair (h : VH) {p : Int × Int} (h1 : p.1.natAbs.log2 < 1920) (h2 : p.2.natAbs.log2 < 1920) : Its h [pD p] 3 :=
  .one (p := .tuple [.int p.1, .int p.2]) rfl rfl (by simp only [gdQ, gdQs, decide_eq_true h1, decide_eq_true h2]; rfl) (by simp [PyData.depth, PyData.depthAll]) (by simp [szQ, szQs])
theorem Its.net (h : VH) {n : Nat} (hn : n ≤ 1000) {net : List (Int × Int)} (w : Wires n net) : Its h (net.map pD) (3 * net.length) := by
  induction net with
  | nil => exact .nil h
  | cons p r ih =>
    have hp := w p (List.mem_cons_self ..)
    have e := E30_ge
    have a : Its h [pD p] 3 := .pair h (log_lim ⟨by omega, by omega⟩) (log_lim ⟨by omega, by omega⟩)
    exact (a.app (ih fun q hq => w q (List.mem_cons_of_mem _ hq))).le (by rw [List.length_cons]; omega)
/-! ### dues -/
theorem sh_str (h : VH) (s : String) (hg : gdQ (.str (Str.ofString s)) = true) (hz : (Str.ofString s).length ≤ 100) : ∃ t, Sh h (.str (Str.ofString s)) t :=
  sh_of (p := .str (Str.ofString s)) rfl hg (Nat.zero_le _) (by simp only [szQ]; omega)
theorem sh_form (h : VH) : ∃ t, Sh h (.str (Str.ofString "form")) t := sh_str h _ (by decide +kernel) (by decide +kernel)
theorem sh_many (h : VH) : ∃ t, Sh h (.str (Str.ofString "many")) t := sh_str h _ (by decide +kernel) (by decide +kernel)
theorem sh_non (h : VH) : ∃ t, Sh h .non t := sh_of (p := .none) rfl rfl (Nat.zero_le _) (by simp [szQ])
theorem sh_place (h : VH) (s : String) (k : Nat) (hk : k ≤ 1000000) (hg : gdQ (.str (Str.ofString s)) = true) (hz : (Str.ofString s).length ≤ 100) : ∃ t, Sh h (.tup [.str (Str.ofString s), .int (k : Int)]) t := by
  have e := E30_ge
  have lg : ((k : Nat) : Int).natAbs.log2 < 1920 := log_lim ⟨by omega, by omega⟩
  refine sh_of (p := .tuple [.str (Str.ofString s), .int (k : Int)]) rfl ?_ (by simp [PyData.depth, PyData.depthAll]) (by simp only [szQ, szQs]; omega)
  simp only [gdQ, gdQs, decide_eq_true lg] at hg ⊢
  simp [hg]
theorem sh_comp (h : VH) (k : Nat) (hk : k ≤ 1000000) : ∃ t, Sh h (.tup [.str (Str.ofString "comparator"), .int (k : Int)]) t := sh_place h _ k hk (by decide +kernel) (by decide +kernel)
theorem sh_item (h : VH) (k : Nat) (hk : k ≤ 1000000) : ∃ t, Sh h (.tup [.str (Str.ofString "item"), .int (k : Int)]) t := sh_place h _ k hk (by decide +kernel) (by decide +kernel)
/-! ### the first that is none -/
theorem odd_first {n : Int} {A B : List D} {x : D} (hA : ∀ d ∈ A, compD n d = true) (hx : compD n x = false) : ∃ r, oddL n (A ++ x :: B) = A.length :: r := by
  unfold oddL
  rw [List.zipIdx_append, List.filter_append]
  have e : (A.zipIdx.filter fun y => !compD n y.1) = [] := by
    rw [List.filter_eq_nil_iff]
    intro y hy
    have hm : y.1 ∈ A := by
      obtain ⟨i, hi⟩ := List.mem_iff_getElem?.mp hy
      rw [List.getElem?_zipIdx] at hi
      obtain ⟨a, ha, rfl⟩ := Option.map_eq_some_iff.mp hi
      exact List.mem_of_getElem? ha
    rw [hA _ hm]
    decide
  rw [e, List.nil_append, List.zipIdx_cons]
  have hx' : (!compD n x) = true := by rw [hx]; rfl
  rw [List.filter_cons_of_pos (by exact hx'), List.map_cons, Nat.zero_add]
  exact ⟨_, rfl⟩
theorem odd_none {n : Int} {A : List D} (hA : ∀ d ∈ A, compD n d = true) : oddL n A = [] := by
  unfold oddL
  have e : (A.zipIdx.filter fun y => !compD n y.1) = [] := by
    rw [List.filter_eq_nil_iff]
    intro y hy
    have hm : y.1 ∈ A := by
      obtain ⟨i, hi⟩ := List.mem_iff_getElem?.mp hy
      rw [List.getElem?_zipIdx] at hi
      obtain ⟨a, ha, rfl⟩ := Option.map_eq_some_iff.mp hi
      exact List.mem_of_getElem? ha
    rw [hA _ hm]
    decide
  rw [e]
  rfl
theorem comp_pD {n : Nat} {p : Int × Int} (h : OkP n p) : compD (n : Int) (pD p) = true := by
  unfold OkP at h
  have a : (0 : Int) ≤ p.1 := h.1
  have b : p.1 ≤ (n : Int) - 1 := by omega
  have c : (0 : Int) ≤ p.2 := h.2.2.1
  have d : p.2 ≤ (n : Int) - 1 := by omega
  simp [compD, pD, inW, a, b, c, d, h.2.2.2.2]
theorem comp_net {n : Nat} {net : List (Int × Int)} (w : Wires n net) : ∀ d ∈ net.map pD, compD (n : Int) d = true := fun d hd => by
  obtain ⟨p, hp, rfl⟩ := List.mem_map.mp hd
  exact comp_pD (w p hp)
theorem notF_net (net : List (Int × Int)) : ∀ d ∈ net.map pD, notF d = true := fun d hd => by
  obtain ⟨p, hp, rfl⟩ := List.mem_map.mp hd
  rfl
/-- a net with one item that is no comparator ahead of all others such -/
theorem judged_at {n : Nat} {h : VH} {A B : List D} {x : D} {S : Nat} (hA : ∀ d ∈ A, compD (n : Int) d = true) (hx : compD (n : Int) x = false) (hf : ∀ d ∈ A ++ x :: B, notF d = true) (hi : Its h (A ++ x :: B) S) (hS : S ≤ 7990) (hz : (A ++ x :: B).length ≤ 500) :
    ∃ h', F_law_is_net_error [.int n, .tup (A ++ x :: B), .tup [.str (Str.ofString "comparator"), .int (A.length : Int)]] h = .ok (.bl true, h') ∧ Grow h h' := by
  obtain ⟨t, st⟩ := hi.sh hS
  have zA : A.length ≤ 500 := by
    rw [List.length_append] at hz
    omega
  obtain ⟨u, su⟩ := sh_comp h A.length (by omega)
  refine s_net_err st su fun h' => ?_
  obtain ⟨h2, e, g⟩ := x_net_error_t (n := (n : Int)) hf (by omega) h'
  obtain ⟨r, er⟩ := odd_first (B := B) hA hx
  have ne : netE (n : Int) (A ++ x :: B) = .tup [.str (Str.ofString "comparator"), .int (A.length : Int)] := by
    unfold netE
    rw [if_neg (by omega), er]
    rfl
  rw [ne] at e
  exact ⟨h2, e, g⟩
theorem judged_net {n : Nat} {h : VH} {A : List D} {S : Nat} (hA : ∀ d ∈ A, compD (n : Int) d = true) (hf : ∀ d ∈ A, notF d = true) (hi : Its h A S) (hS : S ≤ 7990) (hz : A.length ≤ 500) :
    ∃ h', F_law_is_net_error [.int n, .tup A, .non] h = .ok (.bl true, h') ∧ Grow h h' := by
  obtain ⟨t, st⟩ := hi.sh hS
  obtain ⟨u, su⟩ := sh_non h
  refine s_net_err st su fun h' => ?_
  obtain ⟨h2, e, g⟩ := x_net_error_t (n := (n : Int)) hf (by omega) h'
  have ne : netE (n : Int) A = .non := by
    unfold netE
    rw [if_neg (by omega), odd_none hA]
    rfl
  rw [ne] at e
  exact ⟨h2, e, g⟩
theorem judged_many {n : Nat} {h : VH} {A : List D} {S : Nat} (hf : ∀ d ∈ A, notF d = true) (hi : Its h A S) (hS : S ≤ 7990) (hz : 500 < A.length) (hz2 : A.length ≤ 1000000) :
    ∃ h', F_law_is_net_error [.int n, .tup A, .str (Str.ofString "many")] h = .ok (.bl true, h') ∧ Grow h h' := by
  obtain ⟨t, st⟩ := hi.sh hS
  obtain ⟨u, su⟩ := sh_many h
  refine s_net_err st su fun h' => ?_
  obtain ⟨h2, e, g⟩ := x_net_error_t (n := (n : Int)) hf hz2 h'
  have ne : netE (n : Int) A = .str (Str.ofString "many") := by
    unfold netE
    rw [if_pos hz]
  rw [ne] at e
  exact ⟨h2, e, g⟩
theorem judged_form {n : Nat} {h : VH} {d : D} {t : Str} (hd : isT d = false) (st : Sh h d t) : ∃ h', F_law_is_net_error [.int n, d, .str (Str.ofString "form")] h = .ok (.bl true, h') ∧ Grow h h' := by
  obtain ⟨u, su⟩ := sh_form h
  exact s_net_err st su fun h' => ⟨h', x_net_error_o hd h', .refl h'⟩
end K01

namespace K01
open PySem Vq
/-! ### what is no comparator -/
def P57 : Int := 10 ^ 57
def BIG : Int := P57 ^ 7
theorem BIG_gt : (1000000 : Int) < BIG := by decide +kernel
theorem BIG_log : BIG.natAbs.log2 < 1920 := by decide +kernel
theorem pow57 (h : VH) : aPow (.int 10) (.int 57) h = some (.int P57, h) := by
  have e : aPow (.int 10) (.int 57) h = (if powOk 10 57 = true then some (D.int ((10 : Int) ^ (57 : Int).toNat)) else none).map fun d => (d, h) := rfl
  rw [e, if_pos (by decide +kernel)]
  rfl
theorem powBig (h : VH) : aPow (.int P57) (.int 7) h = some (.int BIG, h) := by
  have e : aPow (.int P57) (.int 7) h = (if powOk P57 7 = true then some (D.int (P57 ^ (7 : Int).toNat)) else none).map fun d => (d, h) := rfl
  rw [e, if_pos (by decide +kernel)]
  rfl
def odds1 (n : Int) (Z : Nat) : List D := [.tup [.int 0, .int n], .tup [.int n, .int 0], .tup [.int 0, .int (-1)], .tup [.int (-1), .int 0], .tup [.int 0, .int 0], .tup [.int n, .int n], .tup [.int 0], .tup [.int 0, .int 1, .int 0], .tup [], .ref Z, .non, .int 0, .str (Str.ofString "01"), .tup [.bl true, .int 0]]
def odds2 : List D := [.tup [.int 0, .bl true], .tup [.bl false, .int 1], .tup [.int 1, .bl false], .tup [.str (Str.ofString "0"), .str (Str.ofString "1")], .tup [.int 0, .non], .dic [.inl 0] [.int 1], .tup [.tup [.int 0, .int 1]], .tup [.int 0, .int BIG]]
def odds (n : Int) (Z : Nat) : List D := odds1 n Z ++ odds2
theorem x_no_comparators (n : Int) (h : VH) : ∃ Z R h', F_law_no_comparators [.int n] h = .ok (.ref R, h') ∧ Grow h h' ∧ h.length ≤ Z ∧ h.length ≤ R ∧ h'[Z]? = some (.lst [.int 0, .int 1]) ∧ h'[R]? = some (.lst (odds n Z)) := by
  obtain ⟨Z, hZ⟩ : ∃ Z, Z = h.length := ⟨_, rfl⟩
  obtain ⟨h1, eh1⟩ : ∃ h1, h1 = h ++ [.lst [.int 0, .int 1]] := ⟨_, rfl⟩
  obtain ⟨h2, eh2⟩ : ∃ h2, h2 = h1 ++ [.lst (odds1 n Z)] := ⟨_, rfl⟩
  obtain ⟨h3, eh3⟩ : ∃ h3, h3 = h2 ++ [.lst odds2] := ⟨_, rfl⟩
  obtain ⟨h4, eh4⟩ : ∃ h4, h4 = h3 ++ [.lst (odds n Z)] := ⟨_, rfl⟩
  have c2 : h2[h1.length]? = some (.lst (odds1 n Z)) := by rw [eh2]; exact cell_at _ _
  have c3 : h3[h2.length]? = some (.lst odds2) := by rw [eh3]; exact cell_at _ _
  have ad := dAdd_L (h := h3) (n := h1.length) (m := h2.length) (by rw [eh3]; exact get_at c2) c3 (by simp [odds1, odds2])
  have ad' : dAdd (.ref h1.length) (.ref h2.length) h3 = some (.ref h3.length, h4) := by rw [ad, eh4]; rfl
  have cZ : h4[Z]? = some (.lst [.int 0, .int 1]) := by
    rw [eh4, eh3, eh2]
    refine get_at (get_at (get_at ?_))
    rw [eh1, hZ]
    exact cell_at _ _
  have p1 := pow57
  have p2 := powBig
  refine ⟨Z, h3.length, h4, mF_rt (s' := [some (.int n), some (.ref h1.length)]) ?_, by rw [eh4, eh3, eh2, eh1]; exact (((Grow.new _ _).app _).app _).app _, by omega, ?_, cZ, by rw [eh4]; exact cell_at _ _⟩
  · have e1 : h ++ [Cell.lst [.int 0, .int 1]] = h1 := eh1.symm
    have e2 : h1 ++ [Cell.lst [.tup [.int 0, .int n], .tup [.int n, .int 0], .tup [.int 0, .int (-1)], .tup [.int (-1), .int 0], .tup [.int 0, .int 0], .tup [.int n, .int n], .tup [.int 0], .tup [.int 0, .int 1, .int 0], .tup [], .ref h.length, .non, .int 0, .str (Str.ofString "01"), .tup [.bl true, .int 0]]] = h2 := by
      rw [eh2, hZ]
      rfl
    have e3 : h2 ++ [Cell.lst [.tup [.int 0, .bl true], .tup [.bl false, .int 1], .tup [.int 1, .bl false], .tup [.str (Str.ofString "0"), .str (Str.ofString "1")], .tup [.int 0, .non], .dic [.inl 0] [.int 1], .tup [.tup [.int 0, .int 1]], .tup [.int 0, .int BIG]]] = h3 := eh3.symm
    generalize BIG = big at *
    generalize P57 = q57 at *
    simp -implicitDefEqProofs [m_law_no_comparators, e1, e2, e3, p1, p2, ad']
  · rw [eh3, eh2, eh1]
    simp
theorem odds_comp {n : Nat} (hn : n ≤ 1000) {Z : Nat} : ∀ x ∈ odds (n : Int) Z, compD (n : Int) x = false ∧ notF x = true := by
  intro x hx
  have nb := BIG_gt
  have n1 : ¬ BIG ≤ (n : Int) - 1 := by omega
  have n2 : ¬ (n : Int) ≤ (n : Int) - 1 := by omega
  simp only [odds, odds1, odds2, List.cons_append, List.nil_append, List.mem_cons, List.not_mem_nil, or_false] at hx
  rcases hx with rfl | rfl | rfl | rfl | rfl | rfl | rfl | rfl | rfl | rfl | rfl | rfl | rfl | rfl | rfl | rfl | rfl | rfl | rfl | rfl | rfl | rfl <;> refine ⟨?_, rfl⟩ <;> simp [compD, inW, n1, n2]
  all_goals omega
theorem odds_its {n : Nat} (hn : n ≤ 1000) {Z : Nat} {h : VH} (cZ : h[Z]? = some (.lst [.int 0, .int 1])) : ∀ x ∈ odds (n : Int) Z, Its h [x] 10 := by
  intro x hx
  have lb := BIG_log
  have eg := E30_ge
  have ln : (n : Int).natAbs.log2 < 1920 := log_lim ⟨by omega, by omega⟩
  have l0 : (0 : Int).natAbs.log2 < 1920 := by decide
  have l1 : (1 : Int).natAbs.log2 < 1920 := by decide
  have lm : (-1 : Int).natAbs.log2 < 1920 := by decide
  have elZ : lkL h Z = some [.int 0, .int 1] := by
    unfold lkL
    rw [cZ]
  have rz : ∀ k, refQ h (k + 1) Z = some (.list [.int 0, .int 1]) := fun k => by
    show (lkL h Z).bind (fun l => (pyQs (refQ h k) l).map PyData.list) = _
    rw [elZ]
    rfl
  have g01 : gdQ (.str (Str.ofString "01")) = true := by decide +kernel
  have g0 : gdQ (.str (Str.ofString "0")) = true := by decide +kernel
  have g1 : gdQ (.str (Str.ofString "1")) = true := by decide +kernel
  have z01 : (Str.ofString "01").length = 2 := by decide +kernel
  have z0 : (Str.ofString "0").length = 1 := by decide +kernel
  have z1 : (Str.ofString "1").length = 1 := by decide +kernel
  have gi : ∀ {i : Int}, i.natAbs.log2 < 1920 → gdQ (.int i) = true := fun h => by simp only [gdQ]; exact decide_eq_true h
  have two : ∀ {i j : Int}, i.natAbs.log2 < 1920 → j.natAbs.log2 < 1920 → Its h [.tup [.int i, .int j]] 10 := fun a b =>
    .one (p := .tuple [.int _, .int _]) rfl rfl (by simp only [gdQ, gdQs, decide_eq_true a, decide_eq_true b]; rfl) (by simp [PyData.depth, PyData.depthAll]) (by simp [szQ, szQs])
  simp only [odds, odds1, odds2, List.cons_append, List.nil_append, List.mem_cons, List.not_mem_nil, or_false] at hx
  rcases hx with rfl | rfl | rfl | rfl | rfl | rfl | rfl | rfl | rfl | rfl | rfl | rfl | rfl | rfl | rfl | rfl | rfl | rfl | rfl | rfl | rfl | rfl
  · exact two l0 ln
  · exact two ln l0
  · exact two l0 lm
  · exact two lm l0
  · exact two l0 l0
  · exact two ln ln
  · exact .one (p := .tuple [.int 0]) rfl rfl (by simp only [gdQ, gdQs]; decide) (by simp [PyData.depth, PyData.depthAll]) (by simp [szQ, szQs])
  · exact .one (p := .tuple [.int 0, .int 1, .int 0]) rfl rfl (by simp only [gdQ, gdQs]; decide) (by simp [PyData.depth, PyData.depthAll]) (by simp [szQ, szQs])
  · exact .one (p := .tuple []) rfl rfl rfl (by simp [PyData.depth, PyData.depthAll]) (by simp [szQ, szQs])
  · exact .one (p := .list [.int 0, .int 1]) (by simp only [pyQ]; exact rz 5) (by simp only [pyQ]; exact rz 4) (by simp only [gdQ, gdQs]; decide) (by simp [PyData.depth, PyData.depthAll]) (by simp [szQ, szQs])
  · exact .one (p := .none) rfl rfl rfl (by simp [PyData.depth]) (by simp [szQ])
  · exact .one (p := .int 0) rfl rfl (gi l0) (by simp [PyData.depth]) (by simp [szQ])
  · exact .one (p := .str (Str.ofString "01")) rfl rfl g01 (by simp [PyData.depth]) (by simp only [szQ]; omega)
  · exact .one (p := .tuple [.bool true, .int 0]) rfl rfl (by simp only [gdQ, gdQs]; decide) (by simp [PyData.depth, PyData.depthAll]) (by simp [szQ, szQs])
  · exact .one (p := .tuple [.int 0, .bool true]) rfl rfl (by simp only [gdQ, gdQs]; decide) (by simp [PyData.depth, PyData.depthAll]) (by simp [szQ, szQs])
  · exact .one (p := .tuple [.bool false, .int 1]) rfl rfl (by simp only [gdQ, gdQs]; decide) (by simp [PyData.depth, PyData.depthAll]) (by simp [szQ, szQs])
  · exact .one (p := .tuple [.int 1, .bool false]) rfl rfl (by simp only [gdQ, gdQs]; decide) (by simp [PyData.depth, PyData.depthAll]) (by simp [szQ, szQs])
  · exact .one (p := .tuple [.str (Str.ofString "0"), .str (Str.ofString "1")]) rfl rfl (by simp only [gdQ, gdQs] at g0 g1 ⊢; simp [g0, g1]) (by simp [PyData.depth, PyData.depthAll]) (by simp only [szQ, szQs]; omega)
  · exact .one (p := .tuple [.int 0, .none]) rfl rfl (by simp only [gdQ, gdQs]; decide) (by simp [PyData.depth, PyData.depthAll]) (by simp [szQ, szQs])
  · exact .one (p := .dict [(.int 0, .int 1)]) rfl rfl (by simp only [gdQ, gdQk]; decide) (by simp [PyData.depth, PyData.depthKv]) (by simp [szQ, szQk])
  · exact .one (p := .tuple [.tuple [.int 0, .int 1]]) rfl rfl (by simp only [gdQ, gdQs]; decide) (by simp [PyData.depth, PyData.depthAll]) (by simp [szQ, szQs])
  · exact two l0 lb
end K01

namespace K01
open PySem Vq
abbrev JR {α : Type} (f : Fn → Fn → Fn → Fn → α) : α := f F_law_is_net_error F_law_pick F_law_draw F_law_no_comparators
theorem cut_drop (l : List D) {i : Int} (h0 : 0 ≤ i) : cutD l (some i) none = l.drop i.toNat := cut_from l h0
theorem add_tups {a b : List D} (hz : a.length + b.length ≤ 1000000) (h : VH) : dAdd (.tup a) (.tup b) h = some (.tup (a ++ b), h) := by
  have z : a.length + b.length ≤ 16777216 := by omega
  simp [le_line z]
theorem take_le (l : List D) (k : Nat) : (l.take k).length ≤ l.length := by
  rw [List.length_take]
  omega
/-- a value with one item put in -/
theorem put_value (l : List D) (x : D) (k : Nat) (hz : l.length ≤ 400000) :
    cutD l none (some (k : Int)) = l.take k ∧ cutD l (some ((k : Int) + 1)) none = l.drop (k + 1) ∧ (∀ h, dAdd (.tup (l.take k)) (.tup [x]) h = some (.tup (l.take k ++ [x]), h)) ∧
      ∀ h, dAdd (.tup (l.take k ++ [x])) (.tup (l.drop (k + 1))) h = some (.tup (l.take k ++ x :: l.drop (k + 1)), h) := by
  have t := take_le l k
  refine ⟨by rw [cut_to l (by omega), Int.toNat_natCast], ?_, fun h => add_tups (by simp only [List.length_singleton]; omega) h, fun h => ?_⟩
  · rw [cut_from l (by omega)]
    congr 1
  · rw [add_tups (by simp only [List.length_append, List.length_singleton, List.length_drop]; omega) h, List.append_assoc]
    rfl
theorem odd_turn {h0 h : VH} {b c : Nat} (q0 : Hb b c h0) (kp : Keep b c h0 h) {n : Nat} (hn : n ≤ 1000) {net : List (Int × Int)} (w : Wires n net) (z : net.length ≤ 60) {R Z : Nat} (hR : h0.length ≤ R) (hZ : h0.length ≤ Z) (cR : h[R]? = some (.lst (odds (n : Int) Z))) (cZ : h[Z]? = some (.lst [.int 0, .int 1])) {x : D} (hx : x ∈ odds (n : Int) Z) (a5 a6 a7 a8 a9 : Option D) :
    ∃ (a5' a6' a7' : Option D) (h' : VH), JR B3_law_are_nets_judged [some (.ref b), some (.int (n : Int)), some (netD net), some (.ref R), some x, a5, a6, a7, a8, a9] h = .ok (.nx, [some (.ref b), some (.int (n : Int)), some (netD net), some (.ref R), some x, a5', a6', a7', a8, a9], h') ∧ Keep b c h h' := by
  obtain ⟨l, hl⟩ : ∃ l, l = net.map pD := ⟨_, rfl⟩
  have ll : l.length = net.length := by rw [hl, List.length_map]
  have fl : netD net = .tup l := by rw [hl]; rfl
  obtain ⟨d, h1, e1, d1, k1⟩ := draw_nat kp.bag (m := (l.length : Int) + 1) (by omega) (by omega)
  obtain ⟨mx, hmx⟩ : ∃ mx : Nat, max (0 : Int) ((l.length : Int) - 1) = (mx : Int) ∧ mx ≤ l.length := ⟨l.length - 1, by omega, by omega⟩
  have mxe := mx_is 0 ((l.length : Int) - 1) h1
  rw [hmx.1] at mxe
  obtain ⟨p, h2, e2, hp, k2⟩ := s_pickL k1.bag [.int 0, .int d, .int mx, .int (l.length : Nat)] (by simp) (by simp)
  have hp : ∃ k : Nat, p = .int (k : Int) ∧ k ≤ l.length := by
    simp only [List.mem_cons, List.not_mem_nil, or_false] at hp
    rcases hp with rfl | rfl | rfl | rfl
    · exact ⟨0, rfl, Nat.zero_le _⟩
    · exact ⟨d, rfl, by omega⟩
    · exact ⟨mx, rfl, hmx.2⟩
    · exact ⟨l.length, rfl, Nat.le_refl _⟩
  obtain ⟨k, rfl, hk⟩ := hp
  have kk := k1.trans k2
  have cZ2 : h2[Z]? = some (.lst [.int 0, .int 1]) := Keep.cell q0 hZ kk cZ
  have cR2 : h2[R]? = some (.lst (odds (n : Int) Z)) := Keep.cell q0 hR kk cR
  obtain ⟨xc, xf⟩ := odds_comp hn x hx
  have hA : ∀ d ∈ l.take k, compD (n : Int) d = true := fun d hd => by
    rw [hl] at hd
    exact comp_net w d (List.mem_of_mem_take hd)
  have nf : ∀ d ∈ l, notF d = true := by rw [hl]; exact notF_net net
  have nfV : ∀ d ∈ l.take k ++ x :: l.drop (k + 1), notF d = true := fun d hd => by
    rcases List.mem_append.mp hd with g | g
    · exact nf d (List.mem_of_mem_take g)
    · rcases List.mem_cons.mp g with g | g
      · rw [g]; exact xf
      · exact nf d (List.mem_of_mem_drop g)
  have itV : ∀ {hh : VH}, hh[Z]? = some (.lst [.int 0, .int 1]) → Its hh (l.take k ++ x :: l.drop (k + 1)) 400 := fun {hh} cz => by
    have i1 := Its.net hh hn w
    rw [← hl] at i1
    have := (i1.take k).app ((odds_its hn cz x hx).app (i1.drop (k + 1)))
    exact this.le (by omega)
  have zV : (l.take k ++ x :: l.drop (k + 1)).length ≤ 61 := by
    simp only [List.length_append, List.length_take, List.length_cons, List.length_drop]
    omega
  have lt : (l.take k).length = k := by rw [List.length_take]; omega
  obtain ⟨h3, e3, g3⟩ := judged_at (B := l.drop (k + 1)) hA xc nfV (itV cZ2) (by omega) (by omega)
  rw [lt] at e3
  have k3 := k2.bag.grow g3
  obtain ⟨y, h4, e4, hy, k4⟩ := s_pick k3.bag (l := odds (n : Int) Z) (n := R) (lk_of (Keep.cell q0 hR k3 cR2)) (by have := q0.b_lt; omega) (by have := q0.c_lt; omega) (by simp [odds, odds1]) (by simp [odds, odds1, odds2])
  obtain ⟨yc, yf⟩ := odds_comp hn y hy
  have cZ4 : h4[Z]? = some (.lst [.int 0, .int 1]) := Keep.cell q0 hZ (k3.trans k4) cZ2
  obtain ⟨p1, p2, p3, p4⟩ := put_value l x k (by omega)
  have eB : l.take k ++ x :: l.drop (k + 1) ++ l.take 2 ++ [y] = l.take k ++ x :: (l.drop (k + 1) ++ (l.take 2 ++ [y])) := by simp
  have itW : Its h4 (l.take k ++ x :: (l.drop (k + 1) ++ (l.take 2 ++ [y]))) 1000 := by
    rw [← eB]
    have i1 := Its.net h4 hn w
    rw [← hl] at i1
    exact (((itV cZ4).app (i1.take 2)).app (odds_its hn cZ4 y hy)).le (by omega)
  have nfW : ∀ d ∈ l.take k ++ x :: (l.drop (k + 1) ++ (l.take 2 ++ [y])), notF d = true := fun d hd => by
    rw [← eB] at hd
    rcases List.mem_append.mp hd with g | g
    · rcases List.mem_append.mp g with g | g
      · exact nfV d g
      · exact nf d (List.mem_of_mem_take g)
    · rw [List.mem_singleton.mp g]; exact yf
  have zW : (l.take k ++ x :: (l.drop (k + 1) ++ (l.take 2 ++ [y]))).length ≤ 64 := by
    rw [← eB]
    simp only [List.length_append, List.length_take, List.length_cons, List.length_nil, List.length_drop] at zV ⊢
    omega
  obtain ⟨h5, e5, g5⟩ := judged_at (B := l.drop (k + 1) ++ (l.take 2 ++ [y])) hA xc nfW itW (by omega) (by omega)
  rw [lt] at e5
  have c2 : cutD l none (some 2) = l.take 2 := cut_to l (by decide)
  have a1 := add_tups (a := l.take k ++ x :: l.drop (k + 1)) (b := l.take 2) (by have := take_le l 2; omega) h4
  have a2 := add_tups (a := l.take k ++ x :: l.drop (k + 1) ++ l.take 2) (b := [y]) (by
    have := take_le l 2
    rw [List.length_append]
    simp only [List.length_singleton]
    omega) h4
  rw [eB] at a2
  refine ⟨some (.int (k : Int)), some (.tup (l.take k ++ x :: l.drop (k + 1))), some y, h5, ?_, (kk.trans (k3.trans k4)).trans (k4.bag.grow g5)⟩
  rw [fl]
  simp only [JR]
  unfold B3_law_are_nets_judged
  generalize l.take k ++ x :: l.drop (k + 1) ++ l.take 2 = U1 at *
  generalize l.take k ++ x :: (l.drop (k + 1) ++ (l.take 2 ++ [y])) = U2 at *
  generalize l.take k ++ x :: l.drop (k + 1) = U3 at *
  generalize l.take k ++ [x] = U4 at *
  generalize l.take k = U5 at *
  generalize l.take 2 = U6 at *
  generalize l.drop (k + 1) = U7 at *
  simp -implicitDefEqProofs [slD, e1, mxe, e2, p1, p2, p3, p4, e3, e4, c2, a1, a2, e5, -dAdd_t]
end K01

namespace K01
open PySem Vq
theorem dMul_lst {h : VH} {m : Nat} {l : List D} {k : Nat} (e : h[m]? = some (.lst l)) (hk : k ≤ 1000000) (hz : l.length * k ≤ 1000000) : dMul (.ref m) (.int (k : Int)) h = some (.ref h.length, h ++ [.lst (repD k l)]) := by
  have z : l.length * (k : Int).toNat ≤ sizeLine := by
    rw [Int.toNat_natCast]
    exact le_line (by omega)
  have c : -(2 ^ 63) ≤ (k : Int) ∧ (k : Int) < 2 ^ 63 ∧ l.length * (k : Int).toNat ≤ sizeLine := ⟨by omega, by omega, z⟩
  have u : tMulL (.ref m) (.int (k : Int)) h = match h[m]? with
      | some (.lst l) => if -(2 ^ 63) ≤ (k : Int) ∧ (k : Int) < 2 ^ 63 ∧ l.length * (k : Int).toNat ≤ sizeLine then some (.ref h.length, h ++ [.lst (repD (k : Int).toNat l)]) else none
      | _ => none := rfl
  have v : dMul (.ref m) (.int (k : Int)) h = tMulL (.ref m) (.int (k : Int)) h := rfl
  rw [v, u, e]
  simp only
  rw [if_pos c, Int.toNat_natCast]
theorem net_py {n : Nat} (hn : n ≤ 1000) : ∀ {net : List (Int × Int)}, Wires n net → ∃ ps, (∀ f, pyQs f (net.map pD) = some ps) ∧ gdQs ps = true ∧ PyData.depthAll ps ≤ 1 ∧ szQs ps ≤ 3 * net.length
  | [], _ => ⟨[], fun _ => rfl, rfl, by simp [PyData.depthAll], by simp [szQs]⟩
  | p :: r, w => by
    obtain ⟨ps, h1, h2, h3, h4⟩ := net_py hn (net := r) fun q hq => w q (List.mem_cons_of_mem _ hq)
    have hp := w p (List.mem_cons_self ..)
    have e := E30_ge
    have l1 : p.1.natAbs.log2 < 1920 := log_lim ⟨by omega, by omega⟩
    have l2 : p.2.natAbs.log2 < 1920 := log_lim ⟨by omega, by omega⟩
    refine ⟨.tuple [.int p.1, .int p.2] :: ps, fun f => ?_, ?_, ?_, ?_⟩
    · rw [List.map_cons]
      simp only [pyQs, h1 f]
      rfl
    · simp only [gdQs, gdQ, h2, decide_eq_true l1, decide_eq_true l2]
      rfl
    · simp only [PyData.depthAll, PyData.depth]
      omega
    · simp only [szQs, szQ, List.length_cons]
      omega
theorem sh_listnet {n : Nat} (hn : n ≤ 1000) {net : List (Int × Int)} (w : Wires n net) (z : net.length ≤ 600) {h : VH} {m : Nat} (e : h[m]? = some (.lst [netD net])) : ∃ t, Sh h (.ref m) t := by
  obtain ⟨ps, h1, h2, h3, h4⟩ := net_py hn w
  have one : Its h [netD net] (3 * net.length + 1) := .one (p := .tuple ps) (by unfold netD; simp only [pyQ, h1]; rfl) (by unfold netD; simp only [pyQ, h1]; rfl) (by simp only [gdQ]; exact h2) (by simp only [PyData.depth]; omega) (by simp only [szQ]; omega)
  exact one.shL (by omega) e
theorem rep_take (k j : Nat) (net : List (Int × Int)) : (repD k (net.map pD)).take j = (((List.replicate k net).flatten).take j).map pD := by
  unfold repD
  rw [List.map_take, List.map_flatten, List.map_replicate]
theorem rep_wires {n k j : Nat} {net : List (Int × Int)} (w : Wires n net) : Wires n (((List.replicate k net).flatten).take j) := fun p hp => by
  obtain ⟨l, hl, hp⟩ := List.mem_flatten.mp (List.mem_of_mem_take hp)
  rw [List.eq_of_mem_replicate hl] at hp
  exact w p hp
theorem turn_2 (i j : Nat) (body : VSt) (x y : D) (s : VS) (h : VH) : turn (gP (pTup 2 (psCons (pN i) (psCons (pN j) psNil)))) body (.tup [x, y]) s h = body ((s.set i (some x)).set j (some y)) h := turn_of rfl
def forms (P1 P2 P3 P6 P7 : Nat) : List D := [.non, .bl true, .int 0, .str (Str.ofString ""), .str (Str.ofString "0-1"), .ref P1, .ref P2, .dic [.inl 0] [.int 1], .ref P3, .ref P6, .ref P7]
theorem forms_ok {n : Nat} (hn : n ≤ 1000) {net : List (Int × Int)} (w : Wires n net) (z : net.length ≤ 60) {h : VH} {P1 P2 P3 P6 P7 : Nat} (c1 : h[P1]? = some (.lst [])) (c2 : h[P2]? = some (.lst (net.map pD))) (c3 : h[P3]? = some (.lst [netD net])) (c6 : h[P6]? = some (.lst ((repD 600 (net.map pD)).take 600))) (c7 : h[P7]? = some (.lst [.non])) :
    ∀ x ∈ forms P1 P2 P3 P6 P7, isT x = false ∧ ∃ t, Sh h x t := by
  intro x hx
  simp only [forms, List.mem_cons, List.not_mem_nil, or_false] at hx
  rcases hx with rfl | rfl | rfl | rfl | rfl | rfl | rfl | rfl | rfl | rfl | rfl
  · exact ⟨rfl, sh_non h⟩
  · exact ⟨rfl, sh_of (p := .bool true) rfl rfl (Nat.zero_le _) (by simp [szQ])⟩
  · exact ⟨rfl, sh_of (p := .int 0) rfl (by decide) (Nat.zero_le _) (by simp [szQ])⟩
  · exact ⟨rfl, sh_str h _ (by decide +kernel) (by decide +kernel)⟩
  · exact ⟨rfl, sh_str h _ (by decide +kernel) (by decide +kernel)⟩
  · exact ⟨rfl, (Its.nil h).shL (by decide) c1⟩
  · exact ⟨rfl, (Its.net h hn w).shL (by omega) c2⟩
  · exact ⟨rfl, sh_of (p := .dict [(.int 0, .int 1)]) rfl (by simp only [gdQ, gdQk]; decide) (by simp [PyData.depth, PyData.depthKv]) (by simp [szQ, szQk])⟩
  · exact ⟨rfl, sh_listnet hn w (by omega) c3⟩
  · rw [rep_take] at c6
    refine ⟨rfl, (Its.net h hn (rep_wires w)).shL ?_ c6⟩
    have := List.length_take_le 600 ((List.replicate 600 net).flatten)
    omega
  · exact ⟨rfl, (Its.one (h := h) (d := .non) (p := .none) rfl rfl rfl (Nat.zero_le _) (S := 1) (by simp [szQ])).shL (by decide) c7⟩
theorem vCons_ok {a : VE} {r : VA} {s : VS} {h h1 h2 : VH} {d : D} {ds : List D} (ea : a s h = .ok (d, h1)) (er : r s h1 = .ok (ds, h2)) : vCons a r s h = .ok (d :: ds, h2) := by simp [ea, er]
theorem vLst_ok {r : VA} {s : VS} {h h1 : VH} {ds : List D} (er : r s h = .ok (ds, h1)) (hz : ds.length ≤ 1000) : vLst r s h = .ok (.ref h1.length, h1 ++ [.lst ds]) := by
  have z : ds.length ≤ sizeLine := le_line (by omega)
  simp [er, z]
theorem vIt_ref {a : VE} {s : VS} {h h1 : VH} {n : Nat} (ea : a s h = .ok (.ref n, h1)) : vIt a s h = .ok (fun h => lk h n, h1) := by
  unfold vIt
  rw [ea]
  rfl
theorem forms_loop {h : VH} {b : Nat} {n : Nat} (hn : n ≤ 1000) {net : List (Int × Int)} (w : Wires n net) (z : net.length ≤ 60) (a3 a4 a5 a6 a7 a8 a9 : Option D) :
    ∃ (a6' : Option D) (h' : VH), JR L2_law_are_nets_judged [some (.ref b), some (.int (n : Int)), some (netD net), a3, a4, a5, a6, a7, a8, a9] h = .ok (.nx, [some (.ref b), some (.int (n : Int)), some (netD net), a3, a4, a5, a6', a7, a8, a9], h') ∧ Grow h h' := by
  obtain ⟨l, hl⟩ : ∃ l, l = net.map pD := ⟨_, rfl⟩
  have ll : l.length = net.length := by rw [hl, List.length_map]
  have fl : netD net = .tup l := by rw [hl]; rfl
  obtain ⟨j1, ej1⟩ : ∃ j, j = h ++ [.lst []] := ⟨_, rfl⟩
  obtain ⟨j2, ej2⟩ : ∃ j, j = j1 ++ [.lst l] := ⟨_, rfl⟩
  obtain ⟨j3, ej3⟩ : ∃ j, j = j2 ++ [.lst [.tup l]] := ⟨_, rfl⟩
  obtain ⟨j4, ej4⟩ : ∃ j, j = j3 ++ [.lst l] := ⟨_, rfl⟩
  obtain ⟨j5, ej5⟩ : ∃ j, j = j4 ++ [.lst (repD 600 l)] := ⟨_, rfl⟩
  obtain ⟨j6, ej6⟩ : ∃ j, j = j5 ++ [.lst ((repD 600 l).take 600)] := ⟨_, rfl⟩
  obtain ⟨j7, ej7⟩ : ∃ j, j = j6 ++ [.lst [.non]] := ⟨_, rfl⟩
  obtain ⟨j8, ej8⟩ : ∃ j, j = j7 ++ [.lst (forms h.length j1.length j2.length j5.length j6.length)] := ⟨_, rfl⟩
  have m4 := dMul_lst (h := j4) (m := j3.length) (l := l) (k := 600) (by rw [ej4]; exact cell_at _ _) (by decide) (by omega)
  rw [← ej5] at m4
  have m4 : dMul (.ref j3.length) (.int 600) j4 = some (.ref j4.length, j5) := m4
  have s5 := slD_to (h := j5) (n := j4.length) (l := repD 600 l) (i := 600) (by rw [ej5]; exact lk_at _ _ []) (by decide)
  have s5 : slD (.ref j4.length) none (some 600) j5 = some (.ref j5.length, j6) := by rw [s5, ej6]; rfl
  have c1 : j8[h.length]? = some (.lst []) := by
    rw [ej8, ej7, ej6, ej5, ej4, ej3, ej2]
    refine get_at (get_at (get_at (get_at (get_at (get_at (get_at ?_))))))
    rw [ej1]
    exact cell_at _ _
  have c2 : j8[j1.length]? = some (.lst l) := by
    rw [ej8, ej7, ej6, ej5, ej4, ej3]
    refine get_at (get_at (get_at (get_at (get_at (get_at ?_)))))
    rw [ej2]
    exact cell_at _ _
  have c3 : j8[j2.length]? = some (.lst [.tup l]) := by
    rw [ej8, ej7, ej6, ej5, ej4]
    refine get_at (get_at (get_at (get_at (get_at ?_))))
    rw [ej3]
    exact cell_at _ _
  have c6 : j8[j5.length]? = some (.lst ((repD 600 l).take 600)) := by
    rw [ej8, ej7]
    refine get_at (get_at ?_)
    rw [ej6]
    exact cell_at _ _
  have c7 : j8[j6.length]? = some (.lst [.non]) := by
    rw [ej8]
    refine get_at ?_
    rw [ej7]
    exact cell_at _ _
  have c8 : j8[j7.length]? = some (.lst (forms h.length j1.length j2.length j5.length j6.length)) := by rw [ej8]; exact cell_at _ _
  rw [hl] at c2 c6
  have c3 : j8[j2.length]? = some (.lst [netD net]) := by rw [fl]; exact c3
  have fo := forms_ok hn w z c1 c2 c3 c6 c7
  have g8 : Grow h j8 := by
    rw [ej8, ej7, ej6, ej5, ej4, ej3, ej2, ej1]
    exact (((((((Grow.new _ _).app _).app _).app _).app _).app _).app _).app _
  have e1 : h ++ [Cell.lst []] = j1 := ej1.symm
  have e2 : j1 ++ [Cell.lst l] = j2 := ej2.symm
  have e3 : j2 ++ [Cell.lst [.tup l]] = j3 := ej3.symm
  have e4 : j3 ++ [Cell.lst l] = j4 := ej4.symm
  have e7 : j6 ++ [Cell.lst [.non]] = j7 := ej7.symm
  have e8 : j7 ++ [Cell.lst [.non, .bl true, .int 0, .str (Str.ofString ""), .str (Str.ofString "0-1"), .ref h.length, .ref j1.length, .dic [.inl 0] [.int 1], .ref j2.length, .ref j5.length, .ref j6.length]] = j8 := ej8.symm
  have hit : (vIt (vLst (vCons (vC .non) (vCons (vC (.bl true)) (vCons (vC (.int 0)) (vCons (vC (.str (Str.ofString ""))) (vCons (vC (.str (Str.ofString "0-1"))) (vCons (vLst vNil) (vCons (vBl bList (vCons (vVar 2) vNil)) (vCons (vDic1 (vC (.int 0)) (vC (.int 1))) (vCons (vLst (vCons (vVar 2) vNil)) (vCons (vSl (vOp dMul (vBl bList (vCons (vVar 2) vNil)) (vC (.int 600))) oNone (oSome (vC (.int 600)))) (vCons (vLst (vCons (vC .non) vNil)) vNil))))))))))))) [some (.ref b), some (.int (n : Int)), some (netD net), a3, a4, a5, a6, a7, a8, a9] h = .ok (fun h => lk h j7.length, j8) := by
    refine vIt_ref ?_
    rw [← e8]
    refine vLst_ok ?_ (by simp)
    refine vCons_ok rfl (vCons_ok rfl (vCons_ok rfl (vCons_ok rfl (vCons_ok rfl ?_))))
    refine vCons_ok (h1 := j1) (by rw [← e1]; exact vLst_ok rfl (by simp)) ?_
    refine vCons_ok (h1 := j2) (by rw [← e2, fl]; rfl) ?_
    refine vCons_ok (h1 := j2) rfl ?_
    refine vCons_ok (h1 := j3) (by rw [← e3, fl]; exact vLst_ok rfl (by simp)) ?_
    refine vCons_ok (h1 := j6) ?_ ?_
    · have eb : (vBl bList (vCons (vVar 2) vNil)) [some (.ref b), some (.int (n : Int)), some (.tup l), a3, a4, a5, a6, a7, a8, a9] j3 = .ok (.ref j3.length, j4) := by rw [← e4]; rfl
      rw [fl]
      simp only [vSl_ap, vOp_ap, eb, Res.ok_bind, vC_ap, m4, lift_some, oNone_ap, oSome_ap]
      show lift (slD (.ref j4.length) none (some 600) j5) = _
      rw [s5]
      rfl
    · exact vCons_ok (h1 := j7) (by rw [← e7]; exact vLst_ok rfl (by simp)) rfl
  obtain ⟨s', h', eL, ⟨a6', rfl⟩, gL⟩ := for_all (g := gP (pN 6)) (body := JR B2_law_are_nets_judged) (xs := forms h.length j1.length j2.length j5.length j6.length) (fun _ s h' => (∃ a6, s = [some (.ref b), some (.int (n : Int)), some (netD net), a3, a4, a5, a6, a7, a8, a9]) ∧ Grow j8 h') hit (fun _ _ h' I => I.2.lk (lk_of c8)) ⟨⟨_, rfl⟩, .refl _⟩ (by
    rintro k x s h' ed ⟨⟨a6, rfl⟩, g⟩
    obtain ⟨hx, t, st⟩ := fo x (List.mem_of_getElem? ed)
    obtain ⟨h2, e, g2⟩ := judged_form (n := n) hx (st.at g.lists)
    refine ⟨[some (.ref b), some (.int (n : Int)), some (netD net), a3, a4, a5, some x, a7, a8, a9], h2, .inl ?_, ⟨_, rfl⟩, g.trans g2⟩
    rw [turn_N]
    simp -implicitDefEqProofs [JR, B2_law_are_nets_judged, e])
  exact ⟨a6', h', eL, g8.trans gL⟩
end K01

namespace K01
open PySem Vq
theorem comp_bools (n : Int) : compD n (.tup [.bl false, .bl true]) = false := by simp [compD, inW]
theorem right_loop {h : VH} {b : Nat} {n : Nat} (hn : n ≤ 1000) (net : List (Int × Int)) (a3 a4 a5 a6 a7 a9 : Option D) {rn : List (Int × Int)} (w : Wires n rn) (z : rn.length ≤ 1) :
    ∃ (a6' a9' : Option D) (h' : VH), JR L1_law_are_nets_judged [some (.ref b), some (.int (n : Int)), some (netD net), a3, a4, a5, a6, a7, some (netD rn), a9] h = .ok (.nx, [some (.ref b), some (.int (n : Int)), some (netD net), a3, a4, a5, a6', a7, some (netD rn), a9'], h') ∧ Grow h h' := by
  obtain ⟨xs, hxs⟩ : ∃ xs : List D, xs = [.tup [netD rn, .non], .tup [.tup [.tup [.bl false, .bl true]], .tup [.str (Str.ofString "comparator"), .int 0]], .tup [netD rn, .non]] := ⟨_, rfl⟩
  obtain ⟨h1, eh1⟩ : ∃ h1, h1 = h ++ [.lst xs] := ⟨_, rfl⟩
  have c1 : h1[h.length]? = some (.lst xs) := by rw [eh1]; exact cell_at _ _
  have hit : (vIt (vLst (vCons (vTup (vCons (vVar 8) (vCons (vC .non) vNil))) (vCons (vTup (vCons (vTup (vCons (vTup (vCons (vC (.bl false)) (vCons (vC (.bl true)) vNil))) vNil)) (vCons (vTup (vCons (vC (.str (Str.ofString "comparator"))) (vCons (vC (.int 0)) vNil))) vNil))) (vCons (vTup (vCons (vVar 8) (vCons (vC .non) vNil))) vNil))))) [some (.ref b), some (.int (n : Int)), some (netD net), a3, a4, a5, a6, a7, some (netD rn), a9] h = .ok (fun h => lk h h.length, h1) → True := fun _ => trivial
  have hit : (vIt (vLst (vCons (vTup (vCons (vVar 8) (vCons (vC .non) vNil))) (vCons (vTup (vCons (vTup (vCons (vTup (vCons (vC (.bl false)) (vCons (vC (.bl true)) vNil))) vNil)) (vCons (vTup (vCons (vC (.str (Str.ofString "comparator"))) (vCons (vC (.int 0)) vNil))) vNil))) (vCons (vTup (vCons (vVar 8) (vCons (vC .non) vNil))) vNil))))) [some (.ref b), some (.int (n : Int)), some (netD net), a3, a4, a5, a6, a7, some (netD rn), a9] h = .ok (fun h' => lk h' h.length, h1) := by
    rw [eh1, hxs]
    simp -implicitDefEqProofs
  obtain ⟨s', h', eL, ⟨a6', a9', rfl⟩, gL⟩ := for_all (g := gP (pTup 2 (psCons (pN 6) (psCons (pN 9) psNil)))) (body := JR B1_law_are_nets_judged) (xs := xs) (fun _ s h' => (∃ a6 a9, s = [some (.ref b), some (.int (n : Int)), some (netD net), a3, a4, a5, a6, a7, some (netD rn), a9]) ∧ Grow h1 h') hit (fun _ _ h' I => I.2.lk (lk_of c1)) ⟨⟨_, _, rfl⟩, .refl _⟩ (by
    rintro k x s h' ed ⟨⟨a6, a9, rfl⟩, g⟩
    have hx := List.mem_of_getElem? ed
    rw [hxs] at hx
    simp only [List.mem_cons, List.not_mem_nil, or_false] at hx
    have right : x = .tup [netD rn, .non] → ∃ s' h2, Vq.Goes (turn (gP (pTup 2 (psCons (pN 6) (psCons (pN 9) psNil)))) (JR B1_law_are_nets_judged) x [some (.ref b), some (.int (n : Int)), some (netD net), a3, a4, a5, a6, a7, some (netD rn), a9] h') s' h2 ∧ (∃ a6 a9, s' = [some (.ref b), some (.int (n : Int)), some (netD net), a3, a4, a5, a6, a7, some (netD rn), a9]) ∧ Grow h1 h2 := by
      rintro rfl
      obtain ⟨h2, e, g2⟩ := judged_net (comp_net w) (notF_net rn) (Its.net h' hn w) (by omega) (by rw [List.length_map]; omega)
      have e : F_law_is_net_error [.int n, netD rn, .non] h' = .ok (.bl true, h2) := e
      refine ⟨[some (.ref b), some (.int (n : Int)), some (netD net), a3, a4, a5, some (netD rn), a7, some (netD rn), some .non], h2, .inl ?_, ⟨_, _, rfl⟩, g.trans g2⟩
      rw [turn_2]
      simp -implicitDefEqProofs [JR, B1_law_are_nets_judged, e]
    rcases hx with hx | rfl | hx
    · exact right hx
    · have it : Its h' ([] ++ .tup [.bl false, .bl true] :: []) 3 := .one (p := .tuple [.bool false, .bool true]) rfl rfl rfl (by simp [PyData.depth, PyData.depthAll]) (by simp [szQ, szQs])
      obtain ⟨h2, e, g2⟩ := judged_at (n := n) (A := []) (B := []) (x := .tup [.bl false, .bl true]) (fun d hd => absurd hd List.not_mem_nil) (comp_bools n) (by intro d hd; rw [List.nil_append, List.mem_singleton] at hd; rw [hd]; rfl) it (by decide) (by decide)
      have e : F_law_is_net_error [.int n, .tup [.tup [.bl false, .bl true]], .tup [.str (Str.ofString "comparator"), .int 0]] h' = .ok (.bl true, h2) := e
      refine ⟨[some (.ref b), some (.int (n : Int)), some (netD net), a3, a4, a5, some (.tup [.tup [.bl false, .bl true]]), a7, some (netD rn), some (.tup [.str (Str.ofString "comparator"), .int 0])], h2, .inl ?_, ⟨_, _, rfl⟩, g.trans g2⟩
      rw [turn_2]
      simp -implicitDefEqProofs [JR, B1_law_are_nets_judged, e]
    · exact right hx)
  exact ⟨a6', a9', h', eL, by
    refine Grow.trans ?_ gL
    rw [eh1]
    exact .new _ _⟩
theorem s_nets_judged {h : VH} {b c : Nat} (q : Hb b c h) {n : Nat} (hn : n ≤ 1000) {net : List (Int × Int)} (w : Wires n net) (z : net.length ≤ 60) : ∃ h', F_law_are_nets_judged [.ref b, .int n, netD net] h = .ok (.bl true, h') ∧ Keep b c h h' := by
  obtain ⟨Z, R, h1, e1, g1, hZ, hR, cZ, cR⟩ := x_no_comparators (n : Int) h
  have k1 := q.grow g1
  have eS2 : JR S2_law_are_nets_judged [some (.ref b), some (.int (n : Int)), some (netD net), none, none, none, none, none, none, none] h = .ok (.nx, [some (.ref b), some (.int (n : Int)), some (netD net), some (.ref R), none, none, none, none, none, none], h1) := by
    simp -implicitDefEqProofs [JR, S2_law_are_nets_judged, e1]
  have hit : (vIt (vVar 3)) [some (.ref b), some (.int (n : Int)), some (netD net), some (.ref R), none, none, none, none, none, none] h1 = .ok (fun h => lk h R, h1) := vIt_ref rfl
  obtain ⟨s', h2, eL3, ⟨a4, a5, a6, a7, rfl⟩, k2, _, _⟩ := for_all (g := gP (pN 4)) (body := JR B3_law_are_nets_judged) (xs := odds (n : Int) Z) (fun _ s h' => (∃ a4 a5 a6 a7, s = [some (.ref b), some (.int (n : Int)), some (netD net), some (.ref R), a4, a5, a6, a7, none, none]) ∧ Keep b c h h' ∧ h'[R]? = some (.lst (odds (n : Int) Z)) ∧ h'[Z]? = some (.lst [.int 0, .int 1])) hit (fun _ _ h' I => lk_of I.2.2.1) ⟨⟨_, _, _, _, rfl⟩, k1, cR, cZ⟩ (by
    rintro k x s h' ed ⟨⟨a4, a5, a6, a7, rfl⟩, kp, cR', cZ'⟩
    obtain ⟨a5', a6', a7', h3, e3, k3⟩ := odd_turn q kp hn w z hR hZ cR' cZ' (List.mem_of_getElem? ed) a5 a6 a7 none none
    exact ⟨_, h3, .inl (by rw [turn_N]; exact e3), ⟨_, _, _, _, rfl⟩, kp.trans k3, Keep.cell q hR k3 cR', Keep.cell q hZ k3 cZ'⟩)
  have eL3 : JR L3_law_are_nets_judged [some (.ref b), some (.int (n : Int)), some (netD net), some (.ref R), none, none, none, none, none, none] h1 = _ := eL3
  obtain ⟨a6', h3, eL2, g3⟩ := forms_loop (h := h2) (b := b) hn w z (some (.ref R)) a4 a5 a6 a7 none none
  obtain ⟨rn, wr, zr, er⟩ : ∃ rn : List (Int × Int), Wires n rn ∧ rn.length ≤ 1 ∧ JR S1_law_are_nets_judged [some (.ref b), some (.int (n : Int)), some (netD net), some (.ref R), a4, a5, a6', a7, none, none] h3 = .ok (.nx, [some (.ref b), some (.int (n : Int)), some (netD net), some (.ref R), a4, a5, a6', a7, some (netD rn), none], h3) := by
    by_cases h1 : 1 < n
    · have h1' : (1 : Int) < (n : Int) := by omega
      refine ⟨[(0, 1)], fun p hp => ?_, Nat.le_refl _, ?_⟩
      · rw [List.mem_singleton.mp hp]
        simp only
        omega
      · simp -implicitDefEqProofs [JR, S1_law_are_nets_judged, h1, h1']
        rfl
    · have h1' : ¬ (1 : Int) < (n : Int) := by omega
      refine ⟨[], fun p hp => absurd hp List.not_mem_nil, Nat.zero_le _, ?_⟩
      simp -implicitDefEqProofs [JR, S1_law_are_nets_judged, h1, h1']
      rfl
  obtain ⟨a6'', a9', h4, eL1, g4⟩ := right_loop (h := h3) (b := b) hn net (some (.ref R)) a4 a5 a6' a7 none wr zr
  refine ⟨h4, mF_rt (s' := [some (.ref b), some (.int (n : Int)), some (netD net), some (.ref R), a4, a5, a6'', a7, some (netD rn), a9']) ?_, k2.trans (k2.bag.grow (g3.trans g4))⟩
  show JR m_law_are_nets_judged [some (.ref b), some (.int (n : Int)), some (netD net), none, none, none, none, none, none, none] h = _
  simp only [JR] at *
  unfold m_law_are_nets_judged
  rw [seq_nx eS2, seq_nx eL3, seq_nx eL2, seq_nx er, seq_nx eL1]
  simp -implicitDefEqProofs
end K01

namespace K01
open PySem Vq
abbrev GJ {α : Type} (f : Fn → Fn → Fn → Fn → α) : α := f F_law_is_net_error F_law_draw F_law_pick F_law_no_comparators
theorem dMul_tup {l : List D} {k : Nat} (h2 : 2 ≤ k) (hk : k ≤ 1000) (h0 : l ≠ []) (hz : l.length ≤ 1000) (h : VH) : dMul (.tup l) (.int (k : Int)) h = some (.tup (repD k l), h) := by
  have v : dMul (.tup l) (.int (k : Int)) h = (tMulT (.tup l) (.int (k : Int)) h).or (tMulL (.tup l) (.int (k : Int)) h) := by
    unfold dMul orD
    have : aMul (.tup l) (.int (k : Int)) h = none := rfl
    rw [this]
    simp only
    cases tMulT (.tup l) (.int (k : Int)) h <;> rfl
  have u : tMulT (.tup l) (.int (k : Int)) h = if (k : Int) = 1 then some (.tup l, h) else if 2 ≤ (k : Int) ∧ (k : Int) ≤ 1000 ∧ l ≠ [] ∧ l.length ≤ 1000 then some (.tup (repD (k : Int).toNat l), h) else none := rfl
  rw [v, u, if_neg (by omega), if_pos ⟨by omega, by omega, h0, hz⟩, Int.toNat_natCast]
  rfl
theorem rep_unit (d : D) (n : Nat) : repD n [d] = List.replicate n d := by
  unfold repD
  induction n with
  | zero => rfl
  | succ n ih => rw [List.replicate_succ, List.flatten_cons, ih, List.replicate_succ]; rfl
theorem dMulZ_unit (d : D) {n : Nat} (hn : n ≤ 1000) (h : VH) : dMulZ (.tup [d]) (.int (n : Int)) h = some (.tup (List.replicate n d), h) := by
  have u : dMulZ (.tup [d]) (.int n) h = match (if -(2 ^ 63) ≤ (n : Int) ∧ (n : Int) ≤ 0 ∧ [d] ≠ [] then some (D.tup [], h) else none) with
      | some p => some p
      | none => if (n : Int) = 1 then some (.tup [d], h) else if 2 ≤ (n : Int) ∧ (n : Int) ≤ 1000 ∧ [d] ≠ [] ∧ [d].length ≤ 1000 then some (.tup (repD (n : Int).toNat [d]), h) else none := rfl
  rw [u]
  by_cases h0 : n = 0
  · subst h0
    simp
  · by_cases h1 : n = 1
    · subst h1
      simp
    · have a : ¬ ((n : Int) ≤ 0) := by omega
      rw [if_neg (fun z => a z.2.1), if_neg (by omega), if_pos ⟨by omega, by omega, by simp, by simp⟩]
      simp only [Int.toNat_natCast, rep_unit]
theorem rep_net (k : Nat) (net : List (Int × Int)) : repD k (net.map pD) = ((List.replicate k net).flatten).map pD := by
  unfold repD
  rw [List.map_flatten, List.map_replicate]
theorem flat_rep_len {α : Type} (k : Nat) (l : List α) : ((List.replicate k l).flatten).length = k * l.length := by
  induction k with
  | zero => simp
  | succ k ih => rw [List.replicate_succ, List.flatten_cons, List.length_append, ih, Nat.succ_mul]; omega
theorem flat_rep_wires {n k : Nat} {net : List (Int × Int)} (w : Wires n net) : Wires n ((List.replicate k net).flatten) := fun p hp => by
  obtain ⟨l, hl, hp⟩ := List.mem_flatten.mp hp
  rw [List.eq_of_mem_replicate hl] at hp
  exact w p hp
/-- the values of the great nets, with what is due -/
def greats (G : List D) (x : D) (k P : Nat) : List D := [.tup [.tup G, .non], .tup [.tup (G ++ G.take 1), .str (Str.ofString "many")], .tup [.tup (G.take 499 ++ [x]), .tup [.str (Str.ofString "comparator"), .int 499]],
  .tup [.tup ([x] ++ G), .str (Str.ofString "many")], .tup [.tup (G ++ [x]), .str (Str.ofString "many")], .tup [.tup (repD 2 G), .str (Str.ofString "many")], .tup [.tup (List.replicate 501 .non), .str (Str.ofString "many")],
  .tup [.tup (G.take k ++ x :: G.drop (k + 1)), .tup [.str (Str.ofString "comparator"), .int (k : Int)]], .tup [.ref P, .str (Str.ofString "form")]]
theorem greats_ok {n : Nat} (hn : n ≤ 1000) {gn : List (Int × Int)} (w : Wires n gn) (lg : gn.length = 500) {x : D} {Z : Nat} (hx : x ∈ odds (n : Int) Z) {h : VH} (cZ : h[Z]? = some (.lst [.int 0, .int 1])) {k P : Nat} (hk : k < 500) (cP : h[P]? = some (.lst (gn.map pD))) :
    ∀ y ∈ greats (gn.map pD) x k P, ∃ v due, y = .tup [v, due] ∧ ∃ h', F_law_is_net_error [.int n, v, due] h = .ok (.bl true, h') ∧ Grow h h' := by
  obtain ⟨xc, xf⟩ := odds_comp hn x hx
  have ix := odds_its hn cZ x hx
  have ig := Its.net h hn w
  rw [lg] at ig
  obtain ⟨G, hG⟩ : ∃ G, G = gn.map pD := ⟨_, rfl⟩
  have lG : G.length = 500 := by rw [hG, List.length_map, lg]
  have cG : ∀ d ∈ G, compD (n : Int) d = true := by rw [hG]; exact comp_net w
  have nG : ∀ d ∈ G, notF d = true := by rw [hG]; exact notF_net gn
  have e2 : repD 2 G = G ++ G := by
    show (List.replicate 2 G).flatten = G ++ G
    simp [List.replicate]
  rw [← hG] at ig cP ⊢
  have nx : ∀ d ∈ [x], notF d = true := fun d hd => by rw [List.mem_singleton.mp hd]; exact xf
  have app : ∀ {a b : List D}, (∀ d ∈ a, notF d = true) → (∀ d ∈ b, notF d = true) → ∀ d ∈ a ++ b, notF d = true := fun ha hb d hd => (List.mem_append.mp hd).elim (ha d) (hb d)
  have tk : ∀ j, ∀ d ∈ G.take j, notF d = true := fun j d hd => nG d (List.mem_of_mem_take hd)
  have dk : ∀ j, ∀ d ∈ G.drop j, notF d = true := fun j d hd => nG d (List.mem_of_mem_drop hd)
  intro y hy
  simp only [greats, List.mem_cons, List.not_mem_nil, or_false] at hy
  rcases hy with rfl | rfl | rfl | rfl | rfl | rfl | rfl | rfl | rfl
  · exact ⟨_, _, rfl, judged_net cG nG ig (by decide) (by omega)⟩
  · exact ⟨_, _, rfl, judged_many (app nG (tk 1)) (ig.app (ig.take 1)) (by decide) (by rw [List.length_append, List.length_take]; omega) (by rw [List.length_append, List.length_take]; omega)⟩
  · refine ⟨_, _, rfl, ?_⟩
    have lt : (G.take 499).length = 499 := by rw [List.length_take]; omega
    obtain ⟨h', e, g⟩ := judged_at (n := n) (h := h) (A := G.take 499) (B := []) (x := x) (fun d hd => cG d (List.mem_of_mem_take hd)) xc (app (tk 499) nx) ((ig.take 499).app ix) (by decide) (by rw [List.length_append, lt]; simp)
    rw [lt] at e
    exact ⟨h', e, g⟩
  · exact ⟨_, _, rfl, judged_many (app nx nG) (ix.app ig) (by decide) (by rw [List.length_append, lG]; simp) (by rw [List.length_append, lG]; simp)⟩
  · exact ⟨_, _, rfl, judged_many (app nG nx) (ig.app ix) (by decide) (by rw [List.length_append, lG]; simp) (by rw [List.length_append, lG]; simp)⟩
  · refine ⟨_, _, rfl, ?_⟩
    rw [e2]
    exact judged_many (app nG nG) (ig.app ig) (by decide) (by rw [List.length_append, lG]; decide) (by rw [List.length_append, lG]; decide)
  · have i1 : Its h [.non] 1 := .one (p := .none) rfl rfl rfl (Nat.zero_le _) (by simp [szQ])
    exact ⟨_, _, rfl, judged_many (fun d hd => by rw [List.eq_of_mem_replicate hd]; rfl) (i1.rep 501) (by decide) (by rw [List.length_replicate]; decide) (by rw [List.length_replicate]; decide)⟩
  · refine ⟨_, _, rfl, ?_⟩
    have lt : (G.take k).length = k := by rw [List.length_take]; omega
    obtain ⟨h', e, g⟩ := judged_at (n := n) (h := h) (A := G.take k) (B := G.drop (k + 1)) (x := x) (fun d hd => cG d (List.mem_of_mem_take hd)) xc (app (tk k) (app nx (dk (k + 1)))) ((ig.take k).app (ix.app (ig.drop (k + 1)))) (by decide) (by
      simp only [List.length_append, List.length_cons, List.length_drop, lt]
      omega)
    rw [lt] at e
    exact ⟨h', e, g⟩
  · obtain ⟨t, st⟩ := ig.shL (by decide) cP
    exact ⟨_, _, rfl, judged_form rfl st⟩
theorem s_great_judged {h : VH} {b c : Nat} (q : Hb b c h) {n : Nat} (h2n : 2 ≤ n) (hn : n ≤ 1000) {net : List (Int × Int)} (w : Wires n net) (z : net.length ≤ 60) : ∃ h', F_law_are_great_judged [.ref b, .int n, netD net] h = .ok (.bl true, h') ∧ Keep b c h h' := by
  obtain ⟨Z, R, h1, e1, g1, hZ, hR, cZ, cR⟩ := x_no_comparators (n : Int) h
  have k1 := q.grow g1
  obtain ⟨x, h2, e2, hx, k2⟩ := s_pick k1.bag (l := odds (n : Int) Z) (n := R) (lk_of cR) (by have := q.b_lt; omega) (by have := q.c_lt; omega) (by simp [odds, odds1]) (by simp [odds, odds1, odds2])
  have cZ2 : h2[Z]? = some (.lst [.int 0, .int 1]) := Keep.cell q hZ k2 cZ
  have k02 := k1.trans k2
  have e7 : GJ S7_law_are_great_judged [some (.ref b), some (.int (n : Int)), some (netD net), none, none, none, none, none, none] h = .ok (.nx, [some (.ref b), some (.int (n : Int)), some (netD net), some x, none, none, none, none, none], h2) := by
    simp -implicitDefEqProofs [GJ, S7_law_are_great_judged, e1, e2]
  obtain ⟨n1, hn1⟩ : ∃ n1, n1 = net ++ [((1 : Int), (0 : Int))] := ⟨_, rfl⟩
  have w1 : Wires n n1 := by
    rw [hn1]
    exact wires_snoc w (by unfold OkP; simp only; omega)
  have l1 : n1.length = net.length + 1 := by rw [hn1]; simp
  obtain ⟨gn, hgn⟩ : ∃ gn, gn = ((List.replicate 500 n1).flatten).take 500 := ⟨_, rfl⟩
  have wg : Wires n gn := fun p hp => by
    rw [hgn] at hp
    exact flat_rep_wires w1 p (List.mem_of_mem_take hp)
  have lg : gn.length = 500 := by
    rw [hgn, List.length_take, flat_rep_len, l1]
    omega
  have m6 := dMul_tup (l := n1.map pD) (k := 500) (by decide) (by decide) (by rw [hn1]; simp) (by rw [List.length_map]; omega) h2
  have m6 : dMul (.tup (n1.map pD)) (.int 500) h2 = some (.tup (repD 500 (n1.map pD)), h2) := m6
  have a6 : dAdd (netD net) (.tup [.tup [.int 1, .int 0]]) h2 = some (.tup (n1.map pD), h2) := by
    have := add_nets (a := net) (b := [((1 : Int), (0 : Int))]) (by simp; omega) h2
    rw [← hn1] at this
    exact this
  have c6 : cutD (repD 500 (n1.map pD)) none (some 500) = gn.map pD := by
    have c : cutD (repD 500 (n1.map pD)) none (some 500) = (repD 500 (n1.map pD)).take 500 := cut_to _ (by decide)
    rw [c, hgn, rep_net, List.map_take]
  obtain ⟨G, hG⟩ : ∃ G, G = gn.map pD := ⟨_, rfl⟩
  have lG : G.length = 500 := by rw [hG, List.length_map, lg]
  rw [← hG] at c6
  have e6 : GJ S6_law_are_great_judged [some (.ref b), some (.int (n : Int)), some (netD net), some x, none, none, none, none, none] h2 = .ok (.nx, [some (.ref b), some (.int (n : Int)), some (netD net), some x, some (.tup G), none, none, none, none], h2) := by
    generalize repD 500 (n1.map pD) = u at *
    generalize n1.map pD = u2 at *
    simp -implicitDefEqProofs [GJ, S6_law_are_great_judged, a6, m6, slD, c6]
  obtain ⟨k, h3, e3, d3, k3⟩ := draw_nat k2.bag (m := 500) (by decide) (by decide)
  have hk : k < 500 := by omega
  have e5 : GJ S5_law_are_great_judged [some (.ref b), some (.int (n : Int)), some (netD net), some x, some (.tup G), none, none, none, none] h2 = .ok (.nx, [some (.ref b), some (.int (n : Int)), some (netD net), some x, some (.tup G), some (.int (k : Int)), none, none, none], h3) := by
    simp -implicitDefEqProofs [GJ, S5_law_are_great_judged, e3]
  obtain ⟨y3, hy3⟩ : ∃ y3 : List D, y3 = [.tup [.tup G, .non], .tup [.tup (G ++ G.take 1), .str (Str.ofString "many")], .tup [.tup (G.take 499 ++ [x]), .tup [.str (Str.ofString "comparator"), .int 499]]] := ⟨_, rfl⟩
  obtain ⟨y4, hy4⟩ : ∃ y4 : List D, y4 = [.tup [.tup ([x] ++ G), .str (Str.ofString "many")], .tup [.tup (G ++ [x]), .str (Str.ofString "many")], .tup [.tup (repD 2 G), .str (Str.ofString "many")], .tup [.tup (List.replicate 501 .non), .str (Str.ofString "many")]] := ⟨_, rfl⟩
  obtain ⟨h4, eh4⟩ : ∃ h4, h4 = h3 ++ [.lst y3] := ⟨_, rfl⟩
  have lt1 := take_le G 1
  have lt4 := take_le G 499
  have c1 : cutD G none (some 1) = G.take 1 := cut_to _ (by decide)
  have c4 : cutD G none (some 499) = G.take 499 := cut_to _ (by decide)
  have t1 := add_tups (a := G) (b := G.take 1) (by omega) h3
  have t4 := add_tups (a := G.take 499) (b := [x]) (by simp only [List.length_singleton]; omega) h3
  have e4 : GJ S4_law_are_great_judged [some (.ref b), some (.int (n : Int)), some (netD net), some x, some (.tup G), some (.int (k : Int)), none, none, none] h3 = .ok (.nx, [some (.ref b), some (.int (n : Int)), some (netD net), some x, some (.tup G), some (.int (k : Int)), some (.ref h3.length), none, none], h4) := by
    rw [eh4, hy3]
    generalize G ++ G.take 1 = u1 at *
    generalize G.take 499 ++ [x] = u2 at *
    generalize G.take 1 = u3 at *
    generalize G.take 499 = u4 at *
    simp -implicitDefEqProofs [GJ, S4_law_are_great_judged, slD, c1, c4, t1, t4, -dAdd_t]
  obtain ⟨h5, eh5⟩ : ∃ h5, h5 = h4 ++ [.lst y4] := ⟨_, rfl⟩
  obtain ⟨h6, eh6⟩ : ∃ h6, h6 = h5 ++ [.lst (y3 ++ y4)] := ⟨_, rfl⟩
  have ad := dAdd_L (h := h5) (n := h3.length) (m := h4.length) (a := y3) (b := y4) (by rw [eh5, eh4]; exact get_at (cell_at _ _)) (by rw [eh5]; exact cell_at _ _) (by rw [hy3, hy4]; simp)
  rw [← eh6] at ad
  have t5 := add_tups (a := [x]) (b := G) (by simp only [List.length_singleton]; omega) h4
  have t6 := add_tups (a := G) (b := [x]) (by simp only [List.length_singleton]; omega) h4
  have m2 := dMul_tup (l := G) (k := 2) (by decide) (by decide) (fun e => by rw [e] at lG; simp at lG) (by omega) h4
  have m2 : dMul (.tup G) (.int 2) h4 = some (.tup (repD 2 G), h4) := m2
  have mz := dMulZ_unit .non (n := 501) (by decide) h4
  have mz : dMulZ (.tup [.non]) (.int 501) h4 = some (.tup (List.replicate 501 .non), h4) := mz
  have e3' : GJ S3_law_are_great_judged [some (.ref b), some (.int (n : Int)), some (netD net), some x, some (.tup G), some (.int (k : Int)), some (.ref h3.length), none, none] h4 = .ok (.nx, [some (.ref b), some (.int (n : Int)), some (netD net), some x, some (.tup G), some (.int (k : Int)), some (.ref h5.length), none, none], h6) := by
    rw [hy4] at eh5
    generalize [x] ++ G = u1 at *
    generalize G ++ [x] = u2 at *
    generalize repD 2 G = u3 at *
    generalize List.replicate 501 D.non = u4 at *
    simp -implicitDefEqProofs [GJ, S3_law_are_great_judged, t5, t6, m2, mz, ← eh5, ad, -dAdd_t]
  have c6' : h6[h5.length]? = some (.lst (y3 ++ y4)) := by rw [eh6]; exact cell_at _ _
  obtain ⟨p1, p2, p3, p4⟩ := put_value G x k (by omega)
  have ap := mAppend_of (d := .tup [.tup (G.take k ++ x :: G.drop (k + 1)), .tup [.str (Str.ofString "comparator"), .int (k : Int)]]) c6' (by rw [hy3, hy4]; simp)
  obtain ⟨h7, eh7⟩ : ∃ h7, h7 = h6.set h5.length (.lst (y3 ++ y4 ++ [.tup [.tup (G.take k ++ x :: G.drop (k + 1)), .tup [.str (Str.ofString "comparator"), .int (k : Int)]]])) := ⟨_, rfl⟩
  rw [← eh7] at ap
  have ty6 := tyL_of (lk_of c6')
  have e2' : GJ S2_law_are_great_judged [some (.ref b), some (.int (n : Int)), some (netD net), some x, some (.tup G), some (.int (k : Int)), some (.ref h5.length), none, none] h6 = .ok (.nx, [some (.ref b), some (.int (n : Int)), some (netD net), some x, some (.tup G), some (.int (k : Int)), some (.ref h5.length), none, none], h7) := by
    generalize G.take k ++ x :: G.drop (k + 1) = u1 at *
    generalize G.take k ++ [x] = u2 at *
    generalize G.take k = u3 at *
    generalize G.drop (k + 1) = u4 at *
    simp -implicitDefEqProofs [GJ, S2_law_are_great_judged, ty6, slD, p1, p2, p3, p4, ap, -dAdd_t]
  have c7' : h7[h5.length]? = some (.lst (y3 ++ y4 ++ [.tup [.tup (G.take k ++ x :: G.drop (k + 1)), .tup [.str (Str.ofString "comparator"), .int (k : Int)]]])) := by rw [eh7]; exact List.getElem?_set_self (lt_of_get c6')
  obtain ⟨h8, eh8⟩ : ∃ h8, h8 = h7 ++ [.lst G] := ⟨_, rfl⟩
  have c8' : h8[h5.length]? = some (.lst (y3 ++ y4 ++ [.tup [.tup (G.take k ++ x :: G.drop (k + 1)), .tup [.str (Str.ofString "comparator"), .int (k : Int)]]])) := by rw [eh8]; exact get_at c7'
  have ap2 := mAppend_of (d := .tup [.ref h7.length, .str (Str.ofString "form")]) c8' (by rw [hy3, hy4]; simp)
  have eg : y3 ++ y4 ++ [.tup [.tup (G.take k ++ x :: G.drop (k + 1)), .tup [.str (Str.ofString "comparator"), .int (k : Int)]]] ++ [.tup [.ref h7.length, .str (Str.ofString "form")]] = greats G x k h7.length := by rw [hy3, hy4]; rfl
  rw [eg] at ap2
  obtain ⟨h9, eh9⟩ : ∃ h9, h9 = h8.set h5.length (.lst (greats G x k h7.length)) := ⟨_, rfl⟩
  rw [← eh9] at ap2
  have ty7 := tyL_of (lk_of c7')
  have ty8 := tyL_of (lk_of c8')
  have e1' : GJ S1_law_are_great_judged [some (.ref b), some (.int (n : Int)), some (netD net), some x, some (.tup G), some (.int (k : Int)), some (.ref h5.length), none, none] h7 = .ok (.nx, [some (.ref b), some (.int (n : Int)), some (netD net), some x, some (.tup G), some (.int (k : Int)), some (.ref h5.length), none, none], h9) := by
    simp -implicitDefEqProofs [GJ, S1_law_are_great_judged, ty7, ty8, ← eh8, ap2]
  have l35 : h3.length < h5.length := by rw [eh5, eh4]; simp
  have l57 : h5.length < h7.length := by rw [eh7, List.length_set]; exact lt_of_get c6'
  have kp9 : Keep b c h3 h9 := by
    have a1 : Keep b c h3 h6 := by
      rw [eh6, eh5, eh4]
      exact ((k3.bag.keep _).app _).app _
    have b1 := k3.bag.b_lt
    have c1 := k3.bag.c_lt
    rw [eh9, eh8]
    refine Keep.set (Keep.app ?_ _) (by omega) (by omega) (by omega)
    rw [eh7]
    exact a1.set (by omega) (by omega) (by omega)
  have k09 := (k02.trans k3).trans kp9
  have cZ9 : h9[Z]? = some (.lst [.int 0, .int 1]) := Keep.cell q hZ (k3.trans kp9) cZ2
  have cM9 : h9[h5.length]? = some (.lst (greats G x k h7.length)) := by rw [eh9]; exact List.getElem?_set_self (lt_of_get c8')
  have cP9 : h9[h7.length]? = some (.lst (gn.map pD)) := by
    rw [eh9, List.getElem?_set_ne (by omega), eh8, hG]
    exact cell_at _ _
  have all := fun {h : VH} => greats_ok (h := h) hn wg lg hx (Z := Z) (k := k) (P := h7.length)
  rw [← hG] at all
  have hit : (vIt (vVar 6)) [some (.ref b), some (.int (n : Int)), some (netD net), some x, some (.tup G), some (.int (k : Int)), some (.ref h5.length), none, none] h9 = .ok (fun h => lk h h5.length, h9) := vIt_ref rfl
  obtain ⟨s', h10, eL, ⟨a7, a8, rfl⟩, gL⟩ := for_all (g := gP (pTup 2 (psCons (pN 7) (psCons (pN 8) psNil)))) (body := GJ B1_law_are_great_judged) (xs := greats G x k h7.length) (fun _ s h' => (∃ a7 a8, s = [some (.ref b), some (.int (n : Int)), some (netD net), some x, some (.tup G), some (.int (k : Int)), some (.ref h5.length), a7, a8]) ∧ Grow h9 h') hit (fun _ _ h' I => I.2.lk (lk_of cM9)) ⟨⟨_, _, rfl⟩, .refl _⟩ (by
    rintro j y s h' ed ⟨⟨a7, a8, rfl⟩, g⟩
    have cell : ∀ {i : Nat} {cl : Cell}, h9[i]? = some cl → h'[i]? = some cl := fun {i cl} e => by
      obtain ⟨u, rfl⟩ := g
      rw [List.getElem?_append_left (lt_of_get e)]
      exact e
    obtain ⟨v, due, rfl, h2, e, g2⟩ := all (cell cZ9) hk (by rw [hG]; exact cell cP9) y (List.mem_of_getElem? ed)
    refine ⟨[some (.ref b), some (.int (n : Int)), some (netD net), some x, some (.tup G), some (.int (k : Int)), some (.ref h5.length), some v, some due], h2, .inl ?_, ⟨_, _, rfl⟩, g.trans g2⟩
    rw [turn_2]
    simp -implicitDefEqProofs [GJ, B1_law_are_great_judged, e])
  have eL : GJ L1_law_are_great_judged [some (.ref b), some (.int (n : Int)), some (netD net), some x, some (.tup G), some (.int (k : Int)), some (.ref h5.length), none, none] h9 = _ := eL
  refine ⟨h10, mF_rt (s' := [some (.ref b), some (.int (n : Int)), some (netD net), some x, some (.tup G), some (.int (k : Int)), some (.ref h5.length), a7, a8]) ?_, k09.trans (k09.bag.grow gL)⟩
  show GJ m_law_are_great_judged [some (.ref b), some (.int (n : Int)), some (netD net), none, none, none, none, none, none] h = _
  simp only [GJ] at *
  unfold m_law_are_great_judged
  rw [seq_nx e7, seq_nx e6, seq_nx e5, seq_nx e4, seq_nx e3', seq_nx e2', seq_nx e1', seq_nx eL]
  simp -implicitDefEqProofs
end K01

namespace K01
open PySem Vq
/-! ### rows: judged -/
theorem far_mem {r : List Int} (hA : ∀ x ∈ r, ¬ MAXN < absI x) : farL r = [] := by
  unfold farL
  have e : (r.zipIdx.filter fun y => decide (MAXN < absI y.1)) = [] := by
    rw [List.filter_eq_nil_iff]
    intro y hy
    have hm : y.1 ∈ r := by
      obtain ⟨i, hi⟩ := List.mem_iff_getElem?.mp hy
      rw [List.getElem?_zipIdx] at hi
      obtain ⟨a, ha, rfl⟩ := Option.map_eq_some_iff.mp hi
      exact List.mem_of_getElem? ha
    rw [decide_eq_true_eq]
    exact hA _ hm
  rw [e]
  rfl
theorem far_app (A B : List Int) (hA : ∀ x ∈ A, ¬ MAXN < absI x) {x : Int} (hx : MAXN < absI x) : ∃ r, farL (A ++ x :: B) = A.length :: r := by
  have f := far_mem hA
  unfold farL at f ⊢
  have e : (A.zipIdx.filter fun y => decide (MAXN < absI y.1)) = [] := List.map_eq_nil_iff.mp f
  rw [List.zipIdx_append, List.filter_append, e, List.nil_append, List.zipIdx_cons, List.filter_cons_of_pos (by exact decide_eq_true hx), List.map_cons, Nat.zero_add]
  exact ⟨_, rfl⟩
theorem far_at {r : List Int} {k : Nat} (hk : k < r.length) (h1 : MAXN < absI r[k]) (h2 : ∀ m (hm : m < k), ¬ MAXN < absI (r[m]'(by omega))) : ∃ r', farL r = k :: r' := by
  have e : r = r.take k ++ r[k] :: r.drop (k + 1) := by simp
  obtain ⟨r', e'⟩ := far_app (r.take k) (r.drop (k + 1)) (fun x hx => by
    obtain ⟨m, hm, rfl⟩ := List.mem_iff_getElem.mp hx
    rw [List.length_take] at hm
    rw [List.getElem_take]
    exact h2 m (by omega)) h1
  rw [← e, List.length_take, Nat.min_eq_left (by omega)] at e'
  exact ⟨r', e'⟩
theorem lim_near {i : Int} (h : -E30 ≤ i ∧ i ≤ E30) : ¬ MAXN < absI i := by
  have e : MAXN = E30 := rfl
  unfold absI
  split <;> omega
theorem Its.set {h : VH} {l : List D} {x : D} {S T k : Nat} (i : Its h l S) (j : Its h [x] T) : Its h (l.set k x) (S + T + S) := by
  by_cases hk : k < l.length
  · rw [List.set_eq_take_append_cons_drop, if_pos hk]
    exact ((i.take k).app (j.app (i.drop (k + 1)))).le (by omega)
  · rw [List.set_eq_of_length_le (by omega)]
    exact i.le (by omega)
/-- a row of ints, right or with a far item -/
theorem rj_ints {n : Nat} {h : VH} {r : List Int} (hl : r.length = n) (hz : n ≤ 1000) {S : Nat} (hi : Its h (r.map .int) S) (hS : S ≤ 7990) {due : D} (hd : firstE "item" (farL r) = due) (hu : ∃ u, Sh h due u) :
    ∃ h', F_law_is_row_error [.int n, tupI r, due] h = .ok (.bl true, h') ∧ Grow h h' := by
  obtain ⟨t, st⟩ := hi.sh hS
  obtain ⟨u, su⟩ := hu
  refine s_row_err st su fun h' => ?_
  obtain ⟨h2, e, g⟩ := x_row_error_i hl (by omega) h'
  rw [hd] at e
  exact ⟨h2, e, g⟩
theorem rj_ok {n : Nat} {h : VH} {r : List Int} (hl : r.length = n) (hz : n ≤ 1000) (lim : Lim r) : ∃ h', F_law_is_row_error [.int n, tupI r, .non] h = .ok (.bl true, h') ∧ Grow h h' :=
  rj_ints hl hz (Its.row h lim) (by omega) (by rw [far_mem fun x hx => lim_near (lim.lim x hx)]; rfl) (sh_non h)
theorem rj_item {n k : Nat} {h : VH} {r : List Int} (hl : r.length = n) (hz : n ≤ 1000) {S : Nat} (hi : Its h (r.map .int) S) (hS : S ≤ 7990) (hk : k < n) (hf : ∃ r', farL r = k :: r') :
    ∃ h', F_law_is_row_error [.int n, tupI r, .tup [.str (Str.ofString "item"), .int (k : Int)]] h = .ok (.bl true, h') ∧ Grow h h' := by
  obtain ⟨r', e⟩ := hf
  exact rj_ints hl hz hi hS (by rw [e]; rfl) (sh_item h k (by omega))
theorem rj_form {n : Nat} {h : VH} {l : List D} {S : Nat} (hi : Its h l S) (hS : S ≤ 7990) (hz : l.length ≤ 1000) (hb : l.length ≠ n ∨ l.all isNum = false) :
    ∃ h', F_law_is_row_error [.int n, .tup l, .str (Str.ofString "form")] h = .ok (.bl true, h') ∧ Grow h h' := by
  obtain ⟨t, st⟩ := hi.sh hS
  obtain ⟨u, su⟩ := sh_form h
  exact s_row_err st su fun h' => x_row_error_f (n := (n : Int)) (by omega) (hb.imp (fun z => by omega) id) h'
theorem rj_other {n : Nat} {h : VH} {d : D} {t : Str} (hd : isT d = false) (st : Sh h d t) : ∃ h', F_law_is_row_error [.int n, d, .str (Str.ofString "form")] h = .ok (.bl true, h') ∧ Grow h h' := by
  obtain ⟨u, su⟩ := sh_form h
  exact s_row_err st su fun h' => ⟨h', x_row_error_o hd h', .refl h'⟩
/-! ### the items -/
def farI : List Int := [MAXN + 1, -MAXN - 1, 10 * MAXN, BIG, 1 - BIG]
theorem far_far : ∀ i ∈ farI, MAXN < absI i ∧ i.natAbs.log2 < 1920 := by decide +kernel
def oddP : List PyData := [.bool true, .bool false, .none, .str (Str.ofString "1"), .str (Str.ofString ""), .tuple [.int 1], .list [.int 1], .dict [], .tuple []]
def oddD (O : Nat) : List D := [.bl true, .bl false, .non, .str (Str.ofString "1"), .str (Str.ofString ""), .tup [.int 1], .ref O, .dic [] [], .tup []]
def oddT : List Str := oddP.map PyData.shown
theorem far_txt : ∀ i ∈ farI, (oddT.any fun t => t == (PyData.int i).shown) = false := by decide +kernel
theorem odd_it {h : VH} {O : Nat} (cO : h[O]? = some (.lst [.int 1])) : ∀ x ∈ oddD O, isNum x = false ∧ ∃ p ∈ oddP, pyQ (refQ h 6) x = some p ∧ pyQ (refQ h 5) x = some p ∧ gdQ p = true ∧ p.depth ≤ 10 ∧ szQ p ≤ 10 := by
  have elO : lkL h O = some [.int 1] := by
    unfold lkL
    rw [cO]
  have rz : ∀ k, refQ h (k + 1) O = some (.list [.int 1]) := fun k => by
    show (lkL h O).bind (fun l => (pyQs (refQ h k) l).map PyData.list) = _
    rw [elO]
    rfl
  have g1 : gdQ (.str (Str.ofString "1")) = true := by decide +kernel
  have g0 : gdQ (.str (Str.ofString "")) = true := by decide +kernel
  have z1 : (Str.ofString "1").length = 1 := by decide +kernel
  have z0 : (Str.ofString "").length = 0 := by decide +kernel
  intro x hx
  simp only [oddD, List.mem_cons, List.not_mem_nil, or_false] at hx
  rcases hx with rfl | rfl | rfl | rfl | rfl | rfl | rfl | rfl | rfl
  · exact ⟨rfl, .bool true, by simp [oddP], rfl, rfl, rfl, by simp [PyData.depth], by simp [szQ]⟩
  · exact ⟨rfl, .bool false, by simp [oddP], rfl, rfl, rfl, by simp [PyData.depth], by simp [szQ]⟩
  · exact ⟨rfl, .none, by simp [oddP], rfl, rfl, rfl, by simp [PyData.depth], by simp [szQ]⟩
  · exact ⟨rfl, .str (Str.ofString "1"), by simp [oddP], rfl, rfl, g1, by simp [PyData.depth], by simp only [szQ]; omega⟩
  · exact ⟨rfl, .str (Str.ofString ""), by simp [oddP], rfl, rfl, g0, by simp [PyData.depth], by simp only [szQ]; omega⟩
  · exact ⟨rfl, .tuple [.int 1], by simp [oddP], rfl, rfl, by simp only [gdQ, gdQs]; decide, by simp [PyData.depth, PyData.depthAll], by simp [szQ, szQs]⟩
  · exact ⟨rfl, .list [.int 1], by simp [oddP], by simp only [pyQ]; exact rz 5, by simp only [pyQ]; exact rz 4, by simp only [gdQ, gdQs]; decide, by simp [PyData.depth, PyData.depthAll], by simp [szQ, szQs]⟩
  · exact ⟨rfl, .dict [], by simp [oddP], rfl, rfl, rfl, by simp [PyData.depth, PyData.depthKv], by simp [szQ, szQk]⟩
  · exact ⟨rfl, .tuple [], by simp [oddP], rfl, rfl, rfl, by simp [PyData.depth, PyData.depthAll], by simp [szQ, szQs]⟩
theorem odd_its1 {h : VH} {O : Nat} (cO : h[O]? = some (.lst [.int 1])) {x : D} (hx : x ∈ oddD O) : Its h [x] 10 := by
  obtain ⟨_, p, _, h1, h2, g, d, s⟩ := odd_it cO x hx
  exact .one h1 h2 g d s
theorem odd_sh {h : VH} {O : Nat} (cO : h[O]? = some (.lst [.int 1])) {x : D} (hx : x ∈ oddD O) : ∃ t ∈ oddT, Sh h x t := by
  obtain ⟨_, p, hp, h1, h2, g, d, s⟩ := odd_it cO x hx
  exact ⟨p.shown, List.mem_map.mpr ⟨p, hp, rfl⟩, sh_is h1 g (by omega) (by omega)⟩
theorem odd_texts {h : VH} {O : Nat} (cO : h[O]? = some (.lst [.int 1])) : ∀ z ∈ (oddD O).zip oddT, Sh h z.1 z.2 := by
  have elO : lkL h O = some [.int 1] := by
    unfold lkL
    rw [cO]
  have rz : ∀ k, refQ h (k + 1) O = some (.list [.int 1]) := fun k => by
    show (lkL h O).bind (fun l => (pyQs (refQ h k) l).map PyData.list) = _
    rw [elO]
    rfl
  have g1 : gdQ (.str (Str.ofString "1")) = true := by decide +kernel
  have g0 : gdQ (.str (Str.ofString "")) = true := by decide +kernel
  have z1 : (Str.ofString "1").length = 1 := by decide +kernel
  have z0 : (Str.ofString "").length = 0 := by decide +kernel
  intro x hx
  simp only [oddD, oddT, oddP, List.map_cons, List.map_nil, List.zip_cons_cons, List.zip_nil_right, List.mem_cons, List.not_mem_nil, or_false] at hx
  rcases hx with rfl | rfl | rfl | rfl | rfl | rfl | rfl | rfl | rfl
  · exact sh_is (p := .bool true) rfl rfl (by simp [PyData.depth]) (by simp [szQ])
  · exact sh_is (p := .bool false) rfl rfl (by simp [PyData.depth]) (by simp [szQ])
  · exact sh_is (p := .none) rfl rfl (by simp [PyData.depth]) (by simp [szQ])
  · exact sh_is (p := .str (Str.ofString "1")) rfl g1 (by simp [PyData.depth]) (by simp only [szQ]; omega)
  · exact sh_is (p := .str (Str.ofString "")) rfl g0 (by simp [PyData.depth]) (by simp only [szQ]; omega)
  · exact sh_is (p := .tuple [.int 1]) rfl (by simp only [gdQ, gdQs]; decide) (by simp [PyData.depth, PyData.depthAll]) (by simp [szQ, szQs])
  · exact sh_is (p := .list [.int 1]) (by simp only [pyQ]; exact rz 5) (by simp only [gdQ, gdQs]; decide) (by simp [PyData.depth, PyData.depthAll]) (by simp [szQ, szQs])
  · exact sh_is (p := .dict []) rfl rfl (by simp [PyData.depth, PyData.depthKv]) (by simp [szQ, szQk])
  · exact sh_is (p := .tuple []) rfl rfl (by simp [PyData.depth, PyData.depthAll]) (by simp [szQ, szQs])
theorem int_sh (h : VH) {i : Int} (hi : i.natAbs.log2 < 1920) : Sh h (.int i) (PyData.int i).shown := sh_is (p := .int i) rfl (by simp only [gdQ]; exact decide_eq_true hi) (by simp [PyData.depth]) (by simp [szQ])
theorem int_its (h : VH) {i : Int} (hi : i.natAbs.log2 < 1920) : Its h [.int i] 10 := .one (p := .int i) rfl rfl (by simp only [gdQ]; exact decide_eq_true hi) (by simp [PyData.depth]) (by simp [szQ])
theorem in_strs {h : VH} {m : Nat} {ts : List Str} (e : lk h m = some (ts.map .str)) (t : Str) : dIn (.str t) (.ref m) h = some (.bl (ts.any fun u => u == t), h) := by
  have s : seqOf h (.ref m) = some (ts.map .str) := e
  have f : (ts.map D.str).all flatD = true := by
    rw [List.all_map, List.all_eq_true]
    exact fun _ _ => rfl
  unfold dIn Vq.inW
  rw [s, Option.bind_some, f]
  simp only [flatD, Bool.and_self, if_true, Bool.false_eq_true, if_false, List.any_map]
  rfl
theorem cut_last (l : List D) : cutD l none (some (-1)) = l.take (l.length - 1) := by
  unfold cutD
  have e : HT.sIx l.length l.length (some (-1)) = l.length - 1 := by
    show (if (-1 : Int) < 0 then (-1 + (l.length : Int)).toNat else min (-1 : Int).toNat l.length) = _
    rw [if_pos (by decide)]
    omega
  rw [e, show HT.sIx l.length 0 none = 0 from rfl, List.drop_zero, Nat.sub_zero]
end K01

namespace K01
open PySem Vq
abbrev RJ {α : Type} (f : Fn → Fn → Fn → α) : α := f F_law_is_row_error F_law_pick F_law_draw
theorem C2_texts {h : VH} {O R : Nat} (cO : h[O]? = some (.lst [.int 1])) (cR : h[R]? = some (.lst (oddD O))) (s : VS) (hs : s[4]? = some (some (.ref R))) (hl : s.length = 15) :
    RJ C2_law_are_rows_judged s h = .ok (.ref h.length, h ++ [.lst (oddT.map .str)]) := by
  have len : (oddD O).length = oddT.length := rfl
  have e1 : ((oddD O).zip oddT).map (fun z => z.1) = oddD O := List.map_fst_zip (by rw [len]; exact Nat.le_refl _)
  have e2 : ((oddD O).zip oddT).map (fun z => z.2) = oddT := List.map_snd_zip (by rw [len]; exact Nat.le_refl _)
  have shs := odd_texts cO
  show C2_law_are_rows_judged _ _ _ s h = _
  unfold C2_law_are_rows_judged
  rw [lc_lst (h1 := h) (n := R) (ys := (oddD O).zip oddT) (c := fun z => z.1) (fun _ => true) (fun z => .str z.2) (by simp [vVar, hs]) (by rw [e1]; exact lk_of cR) (by rw [List.length_zip, len, Nat.min_self]; decide) (by
    intro y hy acc
    have sh := shs y hy
    have e := sh.2 (h ++ [.lst acc]) (Grow.new _ _).lists
    refine ⟨_, rfl, rfl, fun _ => ?_⟩
    rw [bReprD_ap] at e
    simp -implicitDefEqProofs [E2_law_are_rows_judged, vwipe, e, hl])]
  simp only [List.filter_eq_self.mpr (fun _ _ => rfl)]
  rw [show (fun z : D × Str => D.str z.2) = (D.str ∘ fun z => z.2) from rfl, ← List.map_map, e2]
theorem odd_not_form (k : Nat) (h : VH) : dEq (.tup [.str (Str.ofString "item"), .int (k : Int)]) (.str (Str.ofString "form")) h = some (.bl false, h) := by
  have p1 : py h (.tup [.str (Str.ofString "item"), .int (k : Int)]) = some (.tuple [.str (Str.ofString "item"), .int (k : Int)]) := by
    simp [py, pyD, pyL]
  have p2 : py h (.str (Str.ofString "form")) = some (.str (Str.ofString "form")) := by
    simp [py]
  have s1 : SeqAt.shaped (.tuple [.str (Str.ofString "item"), .int (k : Int)]) = true := by
    have g : PyData.strOk (Str.ofString "item") = true := by decide +kernel
    simp [SeqAt.shaped, PyData.canLay0, PyData.canLayAll0, PyData.depth, PyData.depthAll, g]
  have s2 : SeqAt.shaped (.str (Str.ofString "form")) = true := by decide +kernel
  have q : dEq (.tup [.str (Str.ofString "item"), .int (k : Int)]) (.str (Str.ofString "form")) h = eqWith false (.tup [.str (Str.ofString "item"), .int (k : Int)]) (.str (Str.ofString "form")) h := rfl
  rw [q]
  unfold eqWith
  rw [p1, p2]
  simp only [s1, s2, Bool.and_self, if_true]
  simp [PyData.eqv]
theorem set_take {l : List D} {x : D} {k : Nat} (hk : k < l.length) : l.take k ++ x :: l.drop (k + 1) = l.set k x := by
  rw [List.set_eq_take_append_cons_drop, if_pos hk]
theorem row_turn {h0 h : VH} {b c : Nat} (q0 : Hb b c h0) (kp : Keep b c h0 h) {n : Nat} (hn : n ≤ 1000) (n0 : 0 < n) {row : List Int} (hr : row.length = n) (lim : Lim row) {F R O : Nat} (hF : h0.length ≤ F) (hR : h0.length ≤ R) (hO : h0.length ≤ O) (cF : h[F]? = some (.lst (farI.map .int))) (cR : h[R]? = some (.lst (oddD O))) (cO : h[O]? = some (.lst [.int 1])) {x : D} (hx : (∃ i ∈ farI, x = .int i) ∨ x ∈ oddD O) (a5 a7 a8 a9 a10 a11 a12 a13 a14 : Option D) :
    ∃ (a5' a7' a8' a9' : Option D) (h' : VH), RJ B2_law_are_rows_judged [some (.ref b), some (.int (n : Int)), some (tupI row), some (.ref F), some (.ref R), a5, some x, a7, a8, a9, a10, a11, a12, a13, a14] h = .ok (.nx, [some (.ref b), some (.int (n : Int)), some (tupI row), some (.ref F), some (.ref R), a5', some x, a7', a8', a9', a10, a11, a12, a13, a14], h') ∧ Keep b c h h' := by
  have mo : isNum x = false → x ∈ oddD O := fun z => by
    rcases hx with ⟨i, _, rfl⟩ | hx
    · cases z
    · exact hx
  have om : x ∈ oddD O → isNum x = false := fun z => (odd_it cO x z).1
  obtain ⟨l, hl⟩ : ∃ l, l = row.map D.int := ⟨_, rfl⟩
  have ll : l.length = n := by rw [hl, List.length_map, hr]
  have fl : tupI row = .tup l := by rw [hl]; rfl
  obtain ⟨d, h1, e1, d1, k1⟩ := draw_nat kp.bag (m := (n : Int)) (by omega) (by omega)
  obtain ⟨p, h2, e2, hp, k2⟩ := s_pickL k1.bag [.int 0, .int d, .int ((n : Int) - 1)] (by simp) (by simp)
  have hp : ∃ k : Nat, p = .int (k : Int) ∧ k < n := by
    simp only [List.mem_cons, List.not_mem_nil, or_false] at hp
    rcases hp with rfl | rfl | rfl
    · exact ⟨0, rfl, n0⟩
    · exact ⟨d, rfl, by omega⟩
    · exact ⟨n - 1, by congr 1; omega, by omega⟩
  obtain ⟨a, rfl, ha⟩ := hp
  obtain ⟨o, h3, e3, d3, k3⟩ := draw_nat k2.bag (m := (n : Int)) (by omega) (by omega)
  have ho : o < n := by omega
  have kk := (k1.trans k2).trans k3
  have cO3 := Keep.cell q0 hO kk cO
  have cR3 := Keep.cell q0 hR kk cR
  have cF3 := Keep.cell q0 hF kk cF
  have sx : ∃ t, Sh h3 x t ∧ (oddT.any fun u => u == t) = decide (isNum x = false) ∧ Its h3 [x] 10 := by
    rcases hx with ⟨i, hi, rfl⟩ | hx
    · obtain ⟨f1, f2⟩ := far_far i hi
      refine ⟨_, int_sh h3 f2, ?_, int_its h3 f2⟩
      rw [far_txt i hi]
      rfl
    · obtain ⟨t, ht, s⟩ := odd_sh cO3 hx
      refine ⟨t, s, ?_, odd_its1 cO3 hx⟩
      rw [decide_eq_true (om hx), List.any_eq_true]
      exact ⟨t, ht, by simp⟩
  obtain ⟨t, st, ht, ix⟩ := sx
  have et := st.2 h3 fun _ _ e => e
  rw [bReprD_ap] at et
  obtain ⟨h4, eh4⟩ : ∃ h4, h4 = h3 ++ [.lst (oddT.map .str)] := ⟨_, rfl⟩
  have ein := in_strs (h := h4) (m := h3.length) (ts := oddT) (by rw [eh4]; exact lk_at _ _ []) t
  rw [ht] at ein
  have g4 : Grow h3 h4 := by rw [eh4]; exact .new _ _
  have k4 := k3.bag.grow g4
  have il : Its h4 l n := by
    have := Its.row h4 lim
    rw [← hl, hr] at this
    exact this
  have cO4 : h4[O]? = some (.lst [.int 1]) := by rw [eh4]; exact get_at cO3
  have ix4 : Its h4 [x] 10 := by
    rcases hx with ⟨i, hi, rfl⟩ | hx
    · exact int_its h4 (far_far i hi).2
    · exact odd_its1 cO4 hx
  obtain ⟨V1, hV1⟩ : ∃ V1, V1 = l.set a x := ⟨_, rfl⟩
  have lV1 : V1.length = n := by rw [hV1, List.length_set, ll]
  obtain ⟨p1, p2, p3, p4⟩ := put_value l x a (by omega)
  rw [set_take (by omega), ← hV1] at p4
  obtain ⟨due1, hd1⟩ : ∃ due1, due1 = if isNum x = false then D.str (Str.ofString "form") else .tup [.str (Str.ofString "item"), .int (a : Int)] := ⟨_, rfl⟩
  have far_of : ¬ isNum x = false → ∃ i ∈ farI, x = .int i := fun z => hx.elim id fun y => absurd (om y) z
  have nfar : ∀ m (hm : m < row.length), ¬ MAXN < absI row[m] := fun m hm => lim_near (lim.lim _ (List.getElem_mem hm))
  obtain ⟨h5, e5, g5⟩ : ∃ h5, F_law_is_row_error [.int n, .tup V1, due1] h4 = .ok (.bl true, h5) ∧ Grow h4 h5 := by
    have iV := il.set (k := a) ix4
    rw [← hV1] at iV
    by_cases ho : isNum x = false
    · rw [hd1, if_pos ho]
      refine rj_form iV (by omega) (by omega) (.inr ?_)
      rw [List.all_eq_false]
      exact ⟨x, by rw [hV1]; exact List.mem_set (by omega) x, by rw [ho]; decide⟩
    · rw [hd1, if_neg ho]
      obtain ⟨i, hi, rfl⟩ := far_of ho
      have eV : V1 = (row.set a i).map .int := by rw [hV1, hl, List.map_set]
      rw [eV] at iV ⊢
      refine rj_item (by rw [List.length_set, hr]) hn iV (by omega) ha (far_at (by rw [List.length_set]; omega) (by rw [List.getElem_set_self]; exact (far_far i hi).1) fun m hm => ?_)
      rw [List.getElem_set_ne (by omega)]
      exact nfar m (by omega)
  have k5 := k4.bag.grow g5
  have cF5 : h5[F]? = some (.lst (farI.map .int)) := Keep.cell q0 hF (k4.trans k5) cF3
  obtain ⟨y, h6, e6, hy, k6⟩ := s_pick k5.bag (l := farI.map .int) (n := F) (lk_of cF5) (by have := q0.b_lt; omega) (by have := q0.c_lt; omega) (by simp [farI]) (by simp [farI])
  obtain ⟨j, hj, rfl⟩ := List.mem_map.mp hy
  obtain ⟨j1, j2⟩ := far_far j hj
  obtain ⟨V2, hV2⟩ : ∃ V2, V2 = V1.set o (.int j) := ⟨_, rfl⟩
  have lV2 : V2.length = n := by rw [hV2, List.length_set, lV1]
  obtain ⟨r1, r2, r3, r4⟩ := put_value V1 (.int j) o (by omega)
  rw [set_take (by omega), ← hV2] at r4
  have k06 := ((k4.trans k5).trans k6)
  have cO6 : h6[O]? = some (.lst [.int 1]) := Keep.cell q0 hO k06 cO3
  have ix6 : Its h6 [x] 10 := by
    rcases hx with ⟨i, hi, rfl⟩ | hx
    · exact int_its h6 (far_far i hi).2
    · exact odd_its1 cO6 hx
  have il6 : Its h6 l n := by
    have := Its.row h6 lim
    rw [← hl, hr] at this
    exact this
  have iV2 : Its h6 V2 5000 := by
    have := (il6.set (k := a) ix6).set (k := o) (int_its h6 j2)
    rw [← hV1, ← hV2] at this
    exact this.le (by omega)
  obtain ⟨due2, hd2⟩ : ∃ due2, due2 = if isNum x = false ∧ o ≠ a then D.str (Str.ofString "form") else .tup [.str (Str.ofString "item"), .int ((min a o : Nat) : Int)] := ⟨_, rfl⟩
  obtain ⟨h7, e7, g7⟩ : ∃ h7, F_law_is_row_error [.int n, .tup V2, due2] h6 = .ok (.bl true, h7) ∧ Grow h6 h7 := by
    by_cases ho : isNum x = false ∧ o ≠ a
    · rw [hd2, if_pos ho]
      refine rj_form iV2 (by omega) (by omega) (.inr ?_)
      rw [List.all_eq_false]
      refine ⟨x, ?_, by rw [ho.1]; decide⟩
      have : V2[a]? = some x := by rw [hV2, List.getElem?_set_ne ho.2, hV1, List.getElem?_set_self (by omega)]
      exact List.mem_of_getElem? this
    · rw [hd2, if_neg ho]
      obtain ⟨r, er, lr, fr⟩ : ∃ r : List Int, V2 = r.map .int ∧ r.length = n ∧ ∃ r', farL r = min a o :: r' := by
        by_cases oa : o = a
        · refine ⟨row.set a j, ?_, by rw [List.length_set, hr], ?_⟩
          · rw [hV2, hV1, oa, List.set_set, hl, List.map_set]
          · rw [oa, Nat.min_self]
            refine far_at (by rw [List.length_set]; omega) (by rw [List.getElem_set_self]; exact j1) fun m hm => ?_
            rw [List.getElem_set_ne (by omega)]
            exact nfar m (by omega)
        · have nx : ¬ isNum x = false := fun z => ho ⟨z, oa⟩
          obtain ⟨i, hi, rfl⟩ := far_of nx
          refine ⟨(row.set a i).set o j, ?_, by rw [List.length_set, List.length_set, hr], ?_⟩
          · rw [hV2, hV1, hl, List.map_set, List.map_set]
          · rcases Nat.lt_or_gt_of_ne oa with z | z
            · rw [Nat.min_eq_right (by omega)]
              refine far_at (by rw [List.length_set, List.length_set]; omega) (by rw [List.getElem_set_self]; exact j1) fun m hm => ?_
              rw [List.getElem_set_ne (by omega), List.getElem_set_ne (by omega)]
              exact nfar m (by omega)
            · rw [Nat.min_eq_left (by omega)]
              refine far_at (by rw [List.length_set, List.length_set]; omega) (by rw [List.getElem_set_ne (by omega), List.getElem_set_self]; exact (far_far i hi).1) fun m hm => ?_
              rw [List.getElem_set_ne (by omega), List.getElem_set_ne (by omega)]
              exact nfar m (by omega)
      rw [er] at iV2 ⊢
      exact rj_item lr hn iV2 (by omega) (by omega) fr
  have k7 := k6.bag.grow g7
  have iV3 : Its h7 (V2.take (n - 1)) 5000 := by
    have ix7 : Its h7 [x] 10 := by
      rcases hx with ⟨i, hi, rfl⟩ | hx
      · exact int_its h7 (far_far i hi).2
      · exact odd_its1 (Keep.cell q0 hO k7 cO6) hx
    have il7 : Its h7 l n := by
      have := Its.row h7 lim
      rw [← hl, hr] at this
      exact this
    have := (il7.set (k := a) ix7).set (k := o) (int_its h7 j2)
    rw [← hV1, ← hV2] at this
    exact (this.take (n - 1)).le (by omega)
  obtain ⟨h8, e8, g8⟩ := rj_form (n := n) iV3 (by omega) (by rw [List.length_take]; omega) (.inl (by rw [List.length_take]; omega))
  have cl := cut_last V2
  rw [lV2] at cl
  have k8 := k7.bag.grow g8
  have c2 := fun (a9' : Option D) => C2_texts cO3 cR3 [some (.ref b), some (.int (n : Int)), some (.tup l), some (.ref F), some (.ref R), some (.tup V1), some x, some (.int (a : Int)), some (.int (o : Int)), a9', a10, a11, a12, a13, a14] rfl rfl
  simp only [← eh4, RJ] at c2
  have mn : bMin [.int (a : Int), .int (o : Int)] h6 = some (.int ((min a o : Nat) : Int), h6) := by
    rw [mn_is]
    congr 3
    omega
  refine ⟨some (.tup V2), some (.int (a : Int)), some (.int (o : Int)), some (if isNum x = false ∧ o = a then .tup [.str (Str.ofString "item"), .int (a : Int)] else due1), h8, ?_, (kk.trans k06).trans (k7.trans k8)⟩
  have nf := fun k h => odd_not_form k h
  rw [fl]
  simp only [RJ]
  unfold B2_law_are_rows_judged
  by_cases ox : isNum x = false
  · simp only [ox, true_and, if_true, decide_true] at ein hd1 hd2
    by_cases oa : o = a
    · rw [if_pos ⟨ox, oa⟩]
      subst oa
      simp only [ne_eq, not_true_eq_false, if_false] at hd2
      rw [Nat.min_self] at mn hd2
      simp only [hd1] at e5
      simp only [hd2] at e7
      generalize l.take o ++ [x] = U1 at *
      generalize l.take o = U2 at *
      generalize l.drop (o + 1) = U3 at *
      generalize V1.take o ++ [.int j] = U4 at *
      generalize V1.take o = U5 at *
      generalize V1.drop (o + 1) = U6 at *
      generalize V2.take (n - 1) = U7 at *
      simp -implicitDefEqProofs [slD, e1, e2, e3, p1, p2, p3, p4, et, c2, ein, e5, e6, r1, r2, r3, r4, nf, mn, e7, cl, e8, -dAdd_t]
    · have oa' : ¬ (o : Int) = (a : Int) := by omega
      rw [if_neg (fun z => oa z.2)]
      simp only [ne_eq, oa, not_false_eq_true, if_true] at hd2
      simp only [hd1] at e5 ⊢
      simp only [hd2] at e7
      generalize l.take a ++ [x] = U1 at *
      generalize l.take a = U2 at *
      generalize l.drop (a + 1) = U3 at *
      generalize V1.take o ++ [.int j] = U4 at *
      generalize V1.take o = U5 at *
      generalize V1.drop (o + 1) = U6 at *
      generalize V2.take (n - 1) = U7 at *
      simp -implicitDefEqProofs [slD, e1, e2, e3, p1, p2, p3, p4, et, c2, ein, e5, e6, r1, r2, r3, r4, nf, mn, e7, cl, e8, oa, oa', -dAdd_t]
  · rw [if_neg ox] at hd1
    rw [if_neg (fun z => ox z.1)] at hd2
    rw [decide_eq_false ox] at ein
    rw [if_neg (fun z => ox z.1)]
    simp only [hd1] at e5 ⊢
    simp only [hd2] at e7
    generalize l.take a ++ [x] = U1 at *
    generalize l.take a = U2 at *
    generalize l.drop (a + 1) = U3 at *
    generalize V1.take o ++ [.int j] = U4 at *
    generalize V1.take o = U5 at *
    generalize V1.drop (o + 1) = U6 at *
    generalize V2.take (n - 1) = U7 at *
    simp -implicitDefEqProofs [slD, e1, e2, e3, p1, p2, p3, p4, et, c2, ein, e5, e6, r1, r2, r3, r4, nf, mn, e7, cl, e8, -dAdd_t]
end K01

namespace K01
open PySem Vq
theorem pow30 (h : VH) : aPow (.int 10) (.int 30) h = some (.int MAXN, h) := by
  have e : aPow (.int 10) (.int 30) h = (if powOk 10 30 = true then some (D.int ((10 : Int) ^ (30 : Int).toNat)) else none).map fun d => (d, h) := rfl
  rw [e, if_pos (by decide +kernel)]
  rfl
theorem pow31 (h : VH) : aPow (.int 10) (.int 31) h = some (.int (10 * MAXN), h) := by
  have e : aPow (.int 10) (.int 31) h = (if powOk 10 31 = true then some (D.int ((10 : Int) ^ (31 : Int).toNat)) else none).map fun d => (d, h) := rfl
  rw [e, if_pos (by decide +kernel)]
  rfl
def rforms (l : List D) (P1 P2 : Nat) : List D := [.non, .bl true, .int 0, .str (Str.ofString ""), .str (Str.ofString "12"), .ref P1, .ref P2, .dic [] [], .tup (l ++ [.int 0]), .tup (l ++ [.int (MAXN + 1)]), .tup (l ++ [.non])]
theorem rforms_ok {n : Nat} (hn : n ≤ 999) {row : List Int} (hr : row.length = n) (lim : Lim row) {h : VH} {P1 P2 : Nat} (c1 : h[P1]? = some (.lst (row.map .int))) (c2 : h[P2]? = some (.lst [tupI row])) :
    ∀ x ∈ rforms (row.map .int) P1 P2, ∃ h', F_law_is_row_error [.int n, x, .str (Str.ofString "form")] h = .ok (.bl true, h') ∧ Grow h h' := by
  have il := Its.row h lim
  rw [hr] at il
  obtain ⟨l, hl⟩ : ∃ l, l = row.map D.int := ⟨_, rfl⟩
  have ll : l.length = n := by rw [hl, List.length_map, hr]
  have fl : tupI row = .tup l := by rw [hl]; rfl
  have one : ∀ {x : D}, Its h [x] 10 → ∃ h', F_law_is_row_error [.int n, .tup (l ++ [x]), .str (Str.ofString "form")] h = .ok (.bl true, h') ∧ Grow h h' := fun {x} i => by
    rw [hl]
    refine rj_form (il.app i) (by omega) (by simp only [List.length_append, List.length_map, List.length_singleton]; omega) (.inl ?_)
    simp only [List.length_append, List.length_map, List.length_singleton]
    omega
  rw [← hl] at il c1 ⊢
  rw [fl] at c2
  intro x hx
  simp only [rforms, List.mem_cons, List.not_mem_nil, or_false] at hx
  rcases hx with rfl | rfl | rfl | rfl | rfl | rfl | rfl | rfl | rfl | rfl | rfl
  · exact rj_other rfl (sh_non h).choose_spec
  · exact rj_other rfl (sh_is (p := .bool true) rfl rfl (Nat.zero_le _) (by simp [szQ]))
  · exact rj_other rfl (sh_is (p := .int 0) rfl (by decide) (Nat.zero_le _) (by simp [szQ]))
  · exact rj_other rfl (sh_str h _ (by decide +kernel) (by decide +kernel)).choose_spec
  · exact rj_other rfl (sh_str h _ (by decide +kernel) (by decide +kernel)).choose_spec
  · exact rj_other rfl (il.shL (by omega) c1).choose_spec
  · have g := int_its
    have it : Its h [.tup l] (n + 1) := by
      obtain ⟨ps, p1, p2, p3, p4, p5⟩ := il.ex
      have q0 : ∀ (r : List Int) (f : Nat → Option PyData), pyQs f (r.map .int) = some (r.map .int) := fun r f => by
        induction r with
        | nil => rfl
        | cons a r ih => simp only [List.map_cons, pyQs, ih]; rfl
      have ep : ps = row.map .int := by
        rw [hl, q0] at p1
        exact (Option.some.inj p1).symm
      have d0 : PyData.depthAll ps ≤ 5 := by
        have dz : ∀ r : List Int, PyData.depthAll (r.map PyData.int) ≤ 5 := fun r => by
          induction r with
          | nil => simp [PyData.depthAll]
          | cons a r ih => simp only [List.map_cons, PyData.depthAll, PyData.depth]; omega
        rw [ep]
        exact dz row
      exact .one (p := .tuple ps) (by simp only [pyQ, p1]; rfl) (by rw [hl] at p2 ⊢; simp only [pyQ, p2]; rfl) (by simp only [gdQ]; exact p3) (by simp only [PyData.depth]; omega) (by simp only [szQ]; omega)
    exact rj_other rfl (it.shL (by omega) c2).choose_spec
  · exact rj_other rfl (sh_is (p := .dict []) rfl rfl (by simp [PyData.depth, PyData.depthKv]) (by simp [szQ, szQk]))
  · exact one (int_its h (by decide))
  · exact one (int_its h (far_far (MAXN + 1) (by simp [farI])).2)
  · exact one (.one (p := .none) rfl rfl rfl (Nat.zero_le _) (by simp [szQ]))
theorem rforms_loop {h : VH} {n : Nat} (hn : n ≤ 999) {row : List Int} (hr : row.length = n) (lim : Lim row) (a0 a3 a4 a5 a6 a7 a8 a9 a10 a11 a12 a13 a14 : Option D) :
    ∃ (a5' : Option D) (h' : VH), RJ L3_law_are_rows_judged [a0, some (.int (n : Int)), some (tupI row), a3, a4, a5, a6, a7, a8, a9, a10, a11, a12, a13, a14] h = .ok (.nx, [a0, some (.int (n : Int)), some (tupI row), a3, a4, a5', a6, a7, a8, a9, a10, a11, a12, a13, a14], h') ∧ Grow h h' := by
  obtain ⟨l, hl⟩ : ∃ l, l = row.map D.int := ⟨_, rfl⟩
  have ll : l.length = n := by rw [hl, List.length_map, hr]
  have fl : tupI row = .tup l := by rw [hl]; rfl
  obtain ⟨j1, ej1⟩ : ∃ j, j = h ++ [.lst l] := ⟨_, rfl⟩
  obtain ⟨j2, ej2⟩ : ∃ j, j = j1 ++ [.lst [.tup l]] := ⟨_, rfl⟩
  obtain ⟨j3, ej3⟩ : ∃ j, j = j2 ++ [.lst (rforms l h.length j1.length)] := ⟨_, rfl⟩
  have c1 : j3[h.length]? = some (.lst l) := by
    rw [ej3, ej2]
    refine get_at (get_at ?_)
    rw [ej1]
    exact cell_at _ _
  have c2 : j3[j1.length]? = some (.lst [.tup l]) := by
    rw [ej3]
    refine get_at ?_
    rw [ej2]
    exact cell_at _ _
  have c3 : j3[j2.length]? = some (.lst (rforms l h.length j1.length)) := by rw [ej3]; exact cell_at _ _
  have g3 : Grow h j3 := by
    rw [ej3, ej2, ej1]
    exact ((Grow.new _ _).app _).app _
  have e1 : h ++ [Cell.lst l] = j1 := ej1.symm
  have e2 : j1 ++ [Cell.lst [.tup l]] = j2 := ej2.symm
  have p30 := pow30 j2
  have t1 := add_tups (a := l) (b := [.int 0]) (by simp only [List.length_singleton]; omega) j2
  have t2 := add_tups (a := l) (b := [.int (MAXN + 1)]) (by simp only [List.length_singleton]; omega) j2
  have t3 := add_tups (a := l) (b := [.non]) (by simp only [List.length_singleton]; omega) j2
  have e3 : j2 ++ [Cell.lst [.non, .bl true, .int 0, .str (Str.ofString ""), .str (Str.ofString "12"), .ref h.length, .ref j1.length, .dic [] [], .tup (l ++ [.int 0]), .tup (l ++ [.int (MAXN + 1)]), .tup (l ++ [.non])]] = j3 := ej3.symm
  have hit : (vIt (vLst (vCons (vC .non) (vCons (vC (.bl true)) (vCons (vC (.int 0)) (vCons (vC (.str (Str.ofString ""))) (vCons (vC (.str (Str.ofString "12"))) (vCons (vBl bList (vCons (vVar 2) vNil)) (vCons (vLst (vCons (vVar 2) vNil)) (vCons vDic0 (vCons (vOp dAdd (vVar 2) (vTup (vCons (vC (.int 0)) vNil))) (vCons (vOp dAdd (vVar 2) (vTup (vCons (vOp dAdd (vOp aPow (vC (.int 10)) (vC (.int 30))) (vC (.int 1))) vNil))) (vCons (vOp dAdd (vVar 2) (vTup (vCons (vC .non) vNil))) vNil))))))))))))) [a0, some (.int (n : Int)), some (tupI row), a3, a4, a5, a6, a7, a8, a9, a10, a11, a12, a13, a14] h = .ok (fun h => lk h j2.length, j3) := by
    refine vIt_ref ?_
    rw [← e3, fl]
    have r0 : seqOf h (.tup l) = some l := rfl
    refine vLst_ok ?_ (by simp only [List.length_cons, List.length_nil]; decide)
    refine vCons_ok rfl (vCons_ok rfl (vCons_ok rfl (vCons_ok rfl (vCons_ok rfl (vCons_ok (h1 := j1) ?_ (vCons_ok (h1 := j2) ?_ (vCons_ok rfl (vCons_ok (h1 := j2) ?_ (vCons_ok (h1 := j2) ?_ (vCons_ok (h1 := j2) ?_ rfl))))))))))
    · simp -implicitDefEqProofs [r0, e1]
    · simp -implicitDefEqProofs [e2]
    · simp -implicitDefEqProofs [t1, -dAdd_t]
    · generalize MAXN = mm at *
      simp -implicitDefEqProofs [p30, t2, -dAdd_t]
    · simp -implicitDefEqProofs [t3, -dAdd_t]
  rw [hl] at c1
  have c2 : j3[j1.length]? = some (.lst [tupI row]) := by rw [fl]; exact c2
  obtain ⟨s', h', eL, ⟨a5', rfl⟩, gL⟩ := for_all (g := gP (pN 5)) (body := RJ B3_law_are_rows_judged) (xs := rforms l h.length j1.length) (fun _ s h' => (∃ a5, s = [a0, some (.int (n : Int)), some (tupI row), a3, a4, a5, a6, a7, a8, a9, a10, a11, a12, a13, a14]) ∧ Grow j3 h') hit (fun _ _ h' I => I.2.lk (lk_of c3)) ⟨⟨_, rfl⟩, .refl _⟩ (by
    rintro k x s h' ed ⟨⟨a5, rfl⟩, g⟩
    have cell : ∀ {i : Nat} {cl : Cell}, j3[i]? = some cl → h'[i]? = some cl := fun {i cl} e => by
      obtain ⟨u, rfl⟩ := g
      rw [List.getElem?_append_left (lt_of_get e)]
      exact e
    rw [hl] at ed
    obtain ⟨h2, e, g2⟩ := rforms_ok hn hr lim (cell c1) (cell c2) x (List.mem_of_getElem? ed)
    refine ⟨[a0, some (.int (n : Int)), some (tupI row), a3, a4, some x, a6, a7, a8, a9, a10, a11, a12, a13, a14], h2, .inl ?_, ⟨_, rfl⟩, g.trans g2⟩
    rw [turn_N]
    simp -implicitDefEqProofs [RJ, B3_law_are_rows_judged, e])
  exact ⟨a5', h', eL, g3.trans gL⟩
/-! ### the last ones -/
def endsR (n : Nat) : List Int := (List.range n).map fun k => if (((k : Nat) : Int) + n).fdiv 2 * 2 = (k : Int) + n then MAXN else -MAXN
theorem ends_lim (n : Nat) : Lim (endsR n) := ⟨fun x hx => by
  obtain ⟨k, _, rfl⟩ := List.mem_map.mp hx
  have e : MAXN = E30 := rfl
  have := E30_ge
  split <;> omega⟩
theorem C1_ends {n : Nat} (hn : n ≤ 1000) {s : VS} {h : VH} (g1 : s[1]? = some (some (.int (n : Int)))) (hl : s.length = 15) : RJ C1_law_are_rows_judged s h = .ok (.ref h.length, h ++ [.lst ((endsR n).map .int)]) := by
  show C1_law_are_rows_judged _ _ _ s h = _
  unfold C1_law_are_rows_judged
  rw [lc_rng1 (h1 := h) (n := (n : Int)) (fun k => .int (if ((k : Int) + n).fdiv 2 * 2 = (k : Int) + n then MAXN else -MAXN)) (by simp [g1]) (by omega) (by omega) (by
    intro k hk acc
    refine ⟨_, rfl, ?_⟩
    have l1 : (vwipe s [13]).length = 15 := by simp [vwipe, hl]
    have v13 : ((vwipe s [13]).set 13 (some (D.int (k : Int))))[13]? = some (some (.int (k : Int))) := List.getElem?_set_self (by omega)
    have v1 : ((vwipe s [13]).set 13 (some (D.int (k : Int))))[1]? = some (some (.int (n : Int))) := by
      rw [List.getElem?_set_ne (by decide)]
      simp [vwipe, g1]
    have fd := aFdv_i (i := (k : Int) + n) (j := 2) (h := h ++ [.lst acc]) (by decide)
    have p30 := pow30 (h ++ [.lst acc])
    have mi := dMul_i (h := h ++ [.lst acc]) (mul_sm (x := ((k : Int) + n).fdiv 2) (y := 2) (by decide) (by decide))
    generalize MAXN = mm at *
    by_cases hc : ((k : Int) + n).fdiv 2 * 2 = (k : Int) + n
    · rw [if_pos hc]
      generalize ((k : Int) + n).fdiv 2 = q at *
      simp -implicitDefEqProofs [E1_law_are_rows_judged, v13, v1, fd, hc, mi, p30]
    · rw [if_neg hc]
      generalize ((k : Int) + n).fdiv 2 = q at *
      simp -implicitDefEqProofs [E1_law_are_rows_judged, v13, v1, fd, hc, mi, p30])]
  unfold endsR
  rw [List.map_map, Int.toNat_natCast]
  rfl
end K01

namespace K01
open PySem Vq
theorem last_loop {h : VH} {n : Nat} (hn : n ≤ 700) {row r1 r3 : List Int} (hr : row.length = n) (lim : Lim row) (h1 : r1.length = n) (lim1 : Lim r1) (h3 : r3.length = n) (lim3 : Lim r3) {tw : List D} (ht : tw.all isNum = false) (zt : tw.length ≤ 1000) (it : ∀ h, Its h tw (10 * n)) (a0 a3 a4 a5 a6 a7 a8 a9 a13 a14 : Option D) :
    ∃ (a5' a9' : Option D) (h' : VH), RJ L1_law_are_rows_judged [a0, some (.int (n : Int)), some (tupI row), a3, a4, a5, a6, a7, a8, a9, some (tupI r1), some (.tup tw), some (tupI r3), a13, a14] h = .ok (.nx, [a0, some (.int (n : Int)), some (tupI row), a3, a4, a5', a6, a7, a8, a9', some (tupI r1), some (.tup tw), some (tupI r3), a13, a14], h') ∧ Grow h h' := by
  obtain ⟨xs, hxs⟩ : ∃ xs : List D, xs = [.tup [tupI r1, .non], .tup [.tup tw, .str (Str.ofString "form")], .tup [tupI r1, .non], .tup [tupI r3, .non], .tup [tupI row, .non]] := ⟨_, rfl⟩
  obtain ⟨h1', eh1⟩ : ∃ h1, h1 = h ++ [.lst xs] := ⟨_, rfl⟩
  have c1 : h1'[h.length]? = some (.lst xs) := by rw [eh1]; exact cell_at _ _
  have hit : (vIt (vLst (vCons (vTup (vCons (vVar 10) (vCons (vC .non) vNil))) (vCons (vTup (vCons (vVar 11) (vCons (vC (.str (Str.ofString "form"))) vNil))) (vCons (vTup (vCons (vVar 10) (vCons (vC .non) vNil))) (vCons (vTup (vCons (vVar 12) (vCons (vC .non) vNil))) (vCons (vTup (vCons (vVar 2) (vCons (vC .non) vNil))) vNil))))))) [a0, some (.int (n : Int)), some (tupI row), a3, a4, a5, a6, a7, a8, a9, some (tupI r1), some (.tup tw), some (tupI r3), a13, a14] h = .ok (fun h' => lk h' h.length, h1') := by
    rw [eh1, hxs]
    simp -implicitDefEqProofs
  have ok : ∀ h2, ∀ x ∈ xs, ∃ v due, x = .tup [v, due] ∧ ∃ h', F_law_is_row_error [.int n, v, due] h2 = .ok (.bl true, h') ∧ Grow h2 h' := fun h2 x hx => by
    rw [hxs] at hx
    simp only [List.mem_cons, List.not_mem_nil, or_false] at hx
    rcases hx with rfl | rfl | rfl | rfl | rfl
    · exact ⟨_, _, rfl, rj_ok h1 (by omega) lim1⟩
    · exact ⟨_, _, rfl, rj_form (it h2) (by omega) zt (.inr ht)⟩
    · exact ⟨_, _, rfl, rj_ok h1 (by omega) lim1⟩
    · exact ⟨_, _, rfl, rj_ok h3 (by omega) lim3⟩
    · exact ⟨_, _, rfl, rj_ok hr (by omega) lim⟩
  obtain ⟨s', h', eL, ⟨a5', a9', rfl⟩, gL⟩ := for_all (g := gP (pTup 2 (psCons (pN 5) (psCons (pN 9) psNil)))) (body := RJ B1_law_are_rows_judged) (xs := xs) (fun _ s h' => (∃ a5 a9, s = [a0, some (.int (n : Int)), some (tupI row), a3, a4, a5, a6, a7, a8, a9, some (tupI r1), some (.tup tw), some (tupI r3), a13, a14]) ∧ Grow h1' h') hit (fun _ _ h' I => I.2.lk (lk_of c1)) ⟨⟨_, _, rfl⟩, .refl _⟩ (by
    rintro k x s h' ed ⟨⟨a5, a9, rfl⟩, g⟩
    obtain ⟨v, due, rfl, h2, e, g2⟩ := ok h' x (List.mem_of_getElem? ed)
    refine ⟨[a0, some (.int (n : Int)), some (tupI row), a3, a4, some v, a6, a7, a8, some due, some (tupI r1), some (.tup tw), some (tupI r3), a13, a14], h2, .inl ?_, ⟨_, _, rfl⟩, g.trans g2⟩
    rw [turn_2]
    simp -implicitDefEqProofs [RJ, B1_law_are_rows_judged, e])
  exact ⟨a5', a9', h', eL, by
    refine Grow.trans ?_ gL
    rw [eh1]
    exact .new _ _⟩
theorem lim_bits (n : Nat) : Lim ((1 : Int) :: List.replicate n 0) := ⟨fun x hx => by
  have := E30_ge
  rcases List.mem_cons.mp hx with rfl | hx
  · omega
  · rw [List.eq_of_mem_replicate hx]
    omega⟩
theorem s_rows_judged {h : VH} {b c : Nat} (q : Hb b c h) {n : Nat} (hn : n ≤ 50) {row : List Int} (hr : row.length = n) (lim : Lim row) : ∃ h', F_law_are_rows_judged [.ref b, .int n, tupI row] h = .ok (.bl true, h') ∧ Keep b c h h' := by
  obtain ⟨l, hl⟩ : ∃ l, l = row.map D.int := ⟨_, rfl⟩
  have ll : l.length = n := by rw [hl, List.length_map, hr]
  have fl : tupI row = .tup l := by rw [hl]; rfl
  obtain ⟨j1, ej1⟩ : ∃ j, j = h ++ [.lst (farI.map .int)] := ⟨_, rfl⟩
  obtain ⟨j2, ej2⟩ : ∃ j, j = j1 ++ [.lst [.int 1]] := ⟨_, rfl⟩
  obtain ⟨j3, ej3⟩ : ∃ j, j = j2 ++ [.lst (oddD j1.length)] := ⟨_, rfl⟩
  have eS6 : RJ S6_law_are_rows_judged [some (.ref b), some (.int (n : Int)), some (tupI row), none, none, none, none, none, none, none, none, none, none, none, none] h = .ok (.nx, [some (.ref b), some (.int (n : Int)), some (tupI row), some (.ref h.length), none, none, none, none, none, none, none, none, none, none, none], j1) := by
    have p30 := pow30 h
    have p31 := pow31 h
    have p57 := pow57 h
    have pB := powBig h
    have e : h ++ [Cell.lst [.int (MAXN + 1), .int (-MAXN - 1), .int (10 * MAXN), .int BIG, .int (1 - BIG)]] = j1 := ej1.symm
    generalize MAXN = mm at *
    generalize BIG = bb at *
    generalize 10 * mm = m10 at *
    generalize P57 = pp at *
    simp -implicitDefEqProofs [RJ, S6_law_are_rows_judged, p30, p31, p57, pB, e]
  have eS5 : RJ S5_law_are_rows_judged [some (.ref b), some (.int (n : Int)), some (tupI row), some (.ref h.length), none, none, none, none, none, none, none, none, none, none, none] j1 = .ok (.nx, [some (.ref b), some (.int (n : Int)), some (tupI row), some (.ref h.length), some (.ref j2.length), none, none, none, none, none, none, none, none, none, none], j3) := by
    have e1 : j1 ++ [Cell.lst [.int 1]] = j2 := ej2.symm
    have e2 : j2 ++ [Cell.lst [.bl true, .bl false, .non, .str (Str.ofString "1"), .str (Str.ofString ""), .tup [.int 1], .ref j1.length, .dic [] [], .tup []]] = j3 := ej3.symm
    simp -implicitDefEqProofs [RJ, S5_law_are_rows_judged, e1, e2]
  have g3 : Grow h j3 := by
    rw [ej3, ej2, ej1]
    exact ((Grow.new _ _).app _).app _
  obtain ⟨a5, j4, eL3, g4⟩ := rforms_loop (h := j3) (by omega) hr lim (some (.ref b)) (some (.ref h.length)) (some (.ref j2.length)) none none none none none none none none none none
  have k4 := q.grow (g3.trans g4)
  have grc : ∀ {i : Nat} {cl : Cell}, j3[i]? = some cl → j4[i]? = some cl := fun {i cl} e => by
    obtain ⟨u, rfl⟩ := g4
    rw [List.getElem?_append_left (lt_of_get e)]
    exact e
  have cF : j4[h.length]? = some (.lst (farI.map .int)) := grc (by
    rw [ej3, ej2]
    refine get_at (get_at ?_)
    rw [ej1]
    exact cell_at _ _)
  have cO : j4[j1.length]? = some (.lst [.int 1]) := grc (by
    rw [ej3]
    refine get_at ?_
    rw [ej2]
    exact cell_at _ _)
  have cR : j4[j2.length]? = some (.lst (oddD j1.length)) := grc (by rw [ej3]; exact cell_at _ _)
  have hO : h.length ≤ j1.length := by rw [ej1]; simp
  have hR : h.length ≤ j2.length := by rw [ej2, ej1]; simp
  by_cases n0 : n = 0
  · subst n0
    obtain ⟨j5, e5, g5⟩ := rj_ok (n := 0) (h := j4) (r := []) rfl (by decide) ⟨fun x hx => absurd hx List.not_mem_nil⟩
    have e5 : F_law_is_row_error [.int 0, .tup [], .non] j4 = .ok (.bl true, j5) := e5
    refine ⟨j5, mF_rt (s' := [some (.ref b), some (.int ((0 : Nat) : Int)), some (tupI row), some (.ref h.length), some (.ref j2.length), a5, none, none, none, none, none, none, none, none, none]) ?_, k4.trans (k4.bag.grow g5)⟩
    show RJ m_law_are_rows_judged [some (.ref b), some (.int ((0 : Nat) : Int)), some (tupI row), none, none, none, none, none, none, none, none, none, none, none, none] h = _
    simp only [RJ] at *
    unfold m_law_are_rows_judged
    rw [seq_nx eS6, seq_nx eS5, seq_nx eL3]
    simp -implicitDefEqProofs [S4_law_are_rows_judged, e5]
  · have n0' : ¬ (n : Int) = 0 := by omega
    have eS4 : RJ S4_law_are_rows_judged [some (.ref b), some (.int (n : Int)), some (tupI row), some (.ref h.length), some (.ref j2.length), a5, none, none, none, none, none, none, none, none, none] j4 = .ok (.nx, [some (.ref b), some (.int (n : Int)), some (tupI row), some (.ref h.length), some (.ref j2.length), a5, none, none, none, none, none, none, none, none, none], j4) := by
      simp -implicitDefEqProofs [RJ, S4_law_are_rows_judged, n0, n0']
    have il := Its.row j4 lim
    rw [← hl, hr] at il
    obtain ⟨j5, e5, g5⟩ := rj_form (n := n) (il.take (n - 1)) (by omega) (by rw [List.length_take]; omega) (.inl (by rw [List.length_take]; omega))
    have cl := cut_last l
    rw [ll] at cl
    have eS3 : RJ S3_law_are_rows_judged [some (.ref b), some (.int (n : Int)), some (tupI row), some (.ref h.length), some (.ref j2.length), a5, none, none, none, none, none, none, none, none, none] j4 = .ok (.nx, [some (.ref b), some (.int (n : Int)), some (tupI row), some (.ref h.length), some (.ref j2.length), a5, none, none, none, none, none, none, none, none, none], j5) := by
      rw [fl]
      generalize l.take (n - 1) = u at *
      simp -implicitDefEqProofs [RJ, S3_law_are_rows_judged, slD, cl, e5]
    have k5 := k4.trans (k4.bag.grow g5)
    have grc5 : ∀ {i : Nat} {cl : Cell}, j4[i]? = some cl → j5[i]? = some cl := fun {i cl} e => by
      obtain ⟨u, rfl⟩ := g5
      rw [List.getElem?_append_left (lt_of_get e)]
      exact e
    have cF5 := grc5 cF
    have cO5 := grc5 cO
    have cR5 := grc5 cR
    obtain ⟨xs, hxs⟩ : ∃ xs, xs = farI.map D.int ++ oddD j1.length := ⟨_, rfl⟩
    have ad := dAdd_L cF5 cR5 (by simp [farI, oddD])
    rw [← hxs] at ad
    obtain ⟨j6, ej6⟩ : ∃ j, j = j5 ++ [.lst xs] := ⟨_, rfl⟩
    rw [← ej6] at ad
    have hM : h.length ≤ j5.length := k5.le
    have k6 : Keep b c h j6 := by rw [ej6]; exact k5.app _
    have hit : (vIt (vOp dAdd (vVar 3) (vVar 4))) [some (.ref b), some (.int (n : Int)), some (tupI row), some (.ref h.length), some (.ref j2.length), a5, none, none, none, none, none, none, none, none, none] j5 = .ok (fun h => lk h j5.length, j6) := vIt_ref (by simp -implicitDefEqProofs [ad])
    obtain ⟨s', j7, eL2, ⟨a5', a6', a7', a8', a9', rfl⟩, k7, _⟩ := for_all (g := gP (pN 6)) (body := RJ B2_law_are_rows_judged) (xs := xs) (fun _ s h' => (∃ a5 a6 a7 a8 a9, s = [some (.ref b), some (.int (n : Int)), some (tupI row), some (.ref h.length), some (.ref j2.length), a5, a6, a7, a8, a9, none, none, none, none, none]) ∧ Keep b c h h' ∧ h'[h.length]? = some (.lst (farI.map .int)) ∧ h'[j2.length]? = some (.lst (oddD j1.length)) ∧ h'[j1.length]? = some (.lst [.int 1]) ∧ h'[j5.length]? = some (.lst xs)) hit (fun _ _ h' I => lk_of I.2.2.2.2.2) ⟨⟨_, _, _, _, _, rfl⟩, k6, by rw [ej6]; exact get_at cF5, by rw [ej6]; exact get_at cR5, by rw [ej6]; exact get_at cO5, by rw [ej6]; exact cell_at _ _⟩ (by
      rintro k x s h' ed ⟨⟨a5, a6, a7, a8, a9, rfl⟩, kp, cF', cR', cO', cM'⟩
      have hx : (∃ i ∈ farI, x = .int i) ∨ x ∈ oddD j1.length := by
        have := List.mem_of_getElem? ed
        rw [hxs] at this
        rcases List.mem_append.mp this with g | g
        · obtain ⟨i, hi, rfl⟩ := List.mem_map.mp g
          exact .inl ⟨i, hi, rfl⟩
        · exact .inr g
      obtain ⟨a5', a7', a8', a9', h3, e3, k3⟩ := row_turn q kp (by omega) (by omega) hr lim (Nat.le_refl _) hR hO cF' cR' cO' hx a5 a7 a8 a9 none none none none none
      exact ⟨_, h3, .inl (by rw [turn_N]; exact e3), ⟨_, _, _, _, _, rfl⟩, kp.trans k3, Keep.cell q (Nat.le_refl _) k3 cF', Keep.cell q hR k3 cR', Keep.cell q hO k3 cO', Keep.cell q hM k3 cM'⟩)
    have eL2 : RJ L2_law_are_rows_judged [some (.ref b), some (.int (n : Int)), some (tupI row), some (.ref h.length), some (.ref j2.length), a5, none, none, none, none, none, none, none, none, none] j5 = _ := eL2
    have z1 := dMulZ_unit (.int 0) (n := n - 1) (by omega) j7
    have z2 := dMulZ_unit (.bl false) (n := n - 1) (by omega) j7
    have cn : ((n - 1 : Nat) : Int) = (n : Int) - 1 := by omega
    rw [cn] at z1 z2
    have t1 := add_tups (a := [D.int 1]) (b := List.replicate (n - 1) (.int 0)) (by rw [List.length_replicate, List.length_singleton]; omega) j7
    have t2 := add_tups (a := [D.bl true]) (b := List.replicate (n - 1) (.bl false)) (by rw [List.length_replicate, List.length_singleton]; omega) j7
    have er1 : tupI ((1 : Int) :: List.replicate (n - 1) 0) = .tup ([.int 1] ++ List.replicate (n - 1) (.int 0)) := by
      unfold tupI
      rw [List.map_cons, List.map_replicate]
      rfl
    obtain ⟨tw, htw⟩ : ∃ tw, tw = [D.bl true] ++ List.replicate (n - 1) (.bl false) := ⟨_, rfl⟩
    rw [← htw] at t2
    have eS2 : RJ S2_law_are_rows_judged [some (.ref b), some (.int (n : Int)), some (tupI row), some (.ref h.length), some (.ref j2.length), a5', a6', a7', a8', a9', none, none, none, none, none] j7 = .ok (.nx, [some (.ref b), some (.int (n : Int)), some (tupI row), some (.ref h.length), some (.ref j2.length), a5', a6', a7', a8', a9', some (tupI ((1 : Int) :: List.replicate (n - 1) 0)), some (.tup tw), none, none, none], j7) := by
      rw [er1]
      generalize [D.int 1] ++ List.replicate (n - 1) (.int 0) = u1 at *
      generalize List.replicate (n - 1) (D.int 0) = u2 at *
      generalize List.replicate (n - 1) (D.bl false) = u3 at *
      simp -implicitDefEqProofs [RJ, S2_law_are_rows_judged, z1, z2, t1, t2, -dAdd_t]
    have ce := C1_ends (n := n) (by omega) (s := [some (.ref b), some (.int (n : Int)), some (tupI row), some (.ref h.length), some (.ref j2.length), a5', a6', a7', a8', a9', some (tupI ((1 : Int) :: List.replicate (n - 1) 0)), some (.tup tw), none, none, none]) (h := j7) rfl rfl
    have lk8 := lk_at j7 ((endsR n).map D.int) []
    have fe : tupI (endsR n) = .tup ((endsR n).map .int) := rfl
    have eS1 : RJ S1_law_are_rows_judged [some (.ref b), some (.int (n : Int)), some (tupI row), some (.ref h.length), some (.ref j2.length), a5', a6', a7', a8', a9', some (tupI ((1 : Int) :: List.replicate (n - 1) 0)), some (.tup tw), none, none, none] j7 = .ok (.nx, [some (.ref b), some (.int (n : Int)), some (tupI row), some (.ref h.length), some (.ref j2.length), a5', a6', a7', a8', a9', some (tupI ((1 : Int) :: List.replicate (n - 1) 0)), some (.tup tw), some (tupI (endsR n)), none, none], j7 ++ [.lst ((endsR n).map .int)]) := by
      rw [fe]
      simp only [RJ] at ce
      generalize (endsR n).map D.int = u at *
      generalize (tupI ((1 : Int) :: List.replicate (n - 1) 0)) = u2 at *
      simp -implicitDefEqProofs [RJ, S1_law_are_rows_judged, ce, lk8]
    have itw : ∀ h, Its h tw (10 * n) := fun h => by
      have i1 : Its h [.bl true] 10 := .one (p := .bool true) rfl rfl rfl (Nat.zero_le _) (by simp [szQ])
      have i2 : Its h [.bl false] 10 := .one (p := .bool false) rfl rfl rfl (Nat.zero_le _) (by simp [szQ])
      rw [htw]
      exact (i1.app (i2.rep (n - 1))).le (by omega)
    have ztw : tw.length ≤ 1000 := by
      rw [htw, List.length_append, List.length_replicate, List.length_singleton]
      omega
    have ntw : tw.all isNum = false := by
      rw [htw]
      rfl
    obtain ⟨a5'', a9'', j9, eL1, g9⟩ := last_loop (h := j7 ++ [.lst ((endsR n).map .int)]) (n := n) (by omega) hr lim (r1 := (1 : Int) :: List.replicate (n - 1) 0) (by rw [List.length_cons, List.length_replicate]; omega) (lim_bits _) (r3 := endsR n) (by simp [endsR]) (ends_lim n) ntw ztw itw (some (.ref b)) (some (.ref h.length)) (some (.ref j2.length)) a5' a6' a7' a8' a9' none none
    refine ⟨j9, mF_rt (s' := [some (.ref b), some (.int (n : Int)), some (tupI row), some (.ref h.length), some (.ref j2.length), a5'', a6', a7', a8', a9'', some (tupI ((1 : Int) :: List.replicate (n - 1) 0)), some (.tup tw), some (tupI (endsR n)), none, none]) ?_, k7.trans ((k7.bag.keep _).trans ((k7.bag.app _).grow g9))⟩
    show RJ m_law_are_rows_judged [some (.ref b), some (.int (n : Int)), some (tupI row), none, none, none, none, none, none, none, none, none, none, none, none] h = _
    simp only [RJ] at *
    unfold m_law_are_rows_judged
    rw [seq_nx eS6, seq_nx eS5, seq_nx eL3, seq_nx eS4, seq_nx eS3, seq_nx eL2, seq_nx eS2, seq_nx eS1, seq_nx eL1]
    simp -implicitDefEqProofs
end K01

namespace K01
open PySem Vq
theorem ascB_range (row : List Int) : ((List.range (row.length - 1)).all fun k => decide (gt row k ≤ gt row (k + 1))) = ascB row := by
  rw [Bool.eq_iff_iff, ascB_iff, rises_iff, List.all_eq_true]
  constructor
  · intro h w hw
    exact of_decide_eq_true (h w (List.mem_range.mpr (by omega)))
  · intro h w hw
    have := List.mem_range.mp hw
    exact decide_eq_true (h w (by omega))
theorem x_law_ascends {row : List Int} (hz : row.length ≤ 1000000) (h : VH) : ∃ h', F_law_ascends [tupI row] h = .ok (.bl (ascB row), h') ∧ Grow h h' := by
  have c1 : C1_law_ascends [some (tupI row), none] h = .ok (.ref h.length, h ++ [.lst (((List.range (row.length - 1)).map fun k => decide (gt row k ≤ gt row (k + 1))).map .bl)]) := by
    unfold C1_law_ascends
    rw [lc_rng1 (h1 := h) (n := (row.length : Int) - 1) (fun k => .bl (decide (gt row k ≤ gt row (k + 1)))) (by simp [tupI]) (by omega) (by omega) (by
      intro k hk acc
      refine ⟨_, rfl, ?_⟩
      have a1 := atR (row := row) (i := (k : Int)) (by omega) (by omega)
      have a2 := atR (row := row) (i := (k : Int) + 1) (by omega) (by omega)
      have e2 : ((k : Int) + 1).toNat = k + 1 := by omega
      rw [Int.toNat_natCast] at a1
      rw [e2] at a2
      have r0 : ∀ g, seqOf g (tupI row) = some (row.map .int) := fun _ => rfl
      generalize gt row k = u1 at *
      generalize gt row (k + 1) = u2 at *
      generalize tupI row = u3 at *
      generalize row.map D.int = u4 at *
      simp -implicitDefEqProofs [E1_law_ascends, vwipe, r0, a1, a2])]
    rw [List.map_map, show ((row.length : Int) - 1).toNat = row.length - 1 by omega]
    rfl
  have ba := bAll_r (h := h ++ [.lst (((List.range (row.length - 1)).map fun k => decide (gt row k ≤ gt row (k + 1))).map .bl)]) (n := h.length) (l := (List.range (row.length - 1)).map fun k => decide (gt row k ≤ gt row (k + 1))) (lk_at h _ [])
  rw [List.all_map] at ba
  have e : ((List.range (row.length - 1)).all (id ∘ fun k => decide (gt row k ≤ gt row (k + 1)))) = ascB row := ascB_range row
  rw [e] at ba
  refine ⟨h ++ [.lst (((List.range (row.length - 1)).map fun k => decide (gt row k ≤ gt row (k + 1))).map .bl)], mF_rt (s' := [some (tupI row), none]) ?_, .new _ _⟩
  generalize ((List.range (row.length - 1)).map fun k => decide (gt row k ≤ gt row (k + 1))).map D.bl = l at *
  simp -implicitDefEqProofs [m_law_ascends, c1, ba]
/-! ### drawn nets -/
abbrev NF {α : Type} (f : Fn → Fn → Fn → α) : α := f F_law_pick F_law_draw F_law_pair
theorem net_turn {b c n : Nat} {h0 h : VH} (q0 : Hb b c h0) (kp : Keep b c h0 h) (hn : 2 ≤ n) (hn2 : n ≤ 1000) {F : Nat} (hF : h0.length ≤ F) {f : List (Int × Int)} (cF : h[F]? = some (.lst (f.map pD))) (hw : Wires n f) (hz : f.length ≤ 1000) (style : Int) (k t i j u : Option D) :
    ∃ (i' j' : Option D) (p : Int × Int) (h' : VH), NF B1_law_net [some (.ref b), some (.int (n : Int)), k, some (.int style), some (.ref F), t, i, j, u] h = .ok (.nx, [some (.ref b), some (.int (n : Int)), k, some (.int style), some (.ref F), t, i', j', u], h') ∧ Keep b c h0 h' ∧ h'[F]? = some (.lst ((f ++ [p]).map pD)) ∧ OkP n p := by
  obtain ⟨x, y, h1, ep, x0, x1, y0, y1, xy, k1⟩ := s_pair kp.bag (n := (n : Int)) (by omega) (by omega)
  have mn := mn_is x y
  have mx := mx_is x y
  have cF1 : h1[F]? = some (.lst (f.map pD)) := Keep.cell q0 hF k1 cF
  have ty := tyL_of (lk_of cF1)
  by_cases s1 : style < 2
  · obtain ⟨ap, k3, c3⟩ := net_put (n := n) q0 kp k1 hF cF hz (min x y, max x y)
    refine ⟨some (.int x), some (.int y), (min x y, max x y), _, ?_, k3, c3, by unfold OkP; simp only; omega⟩
    simp only at ap
    generalize (f ++ [(min x y, max x y)]).map pD = v at *
    simp -implicitDefEqProofs [NF, B1_law_net, ep, s1, mn, mx, ty, ap]
  · by_cases s2 : style = 2
    · obtain ⟨ap, k3, c3⟩ := net_put (n := n) q0 kp k1 hF cF hz (max x y, min x y)
      refine ⟨some (.int x), some (.int y), (max x y, min x y), _, ?_, k3, c3, by unfold OkP; simp only; omega⟩
      simp only at ap
      generalize (f ++ [(max x y, min x y)]).map pD = v at *
      simp -implicitDefEqProofs [NF, B1_law_net, ep, s2, mn, mx, ty, ap]
    · obtain ⟨ap, k3, c3⟩ := net_put (n := n) q0 kp k1 hF cF hz (x, y)
      refine ⟨some (.int x), some (.int y), (x, y), _, ?_, k3, c3, by unfold OkP; simp only; omega⟩
      simp only at ap
      generalize (f ++ [(x, y)]).map pD = v at *
      simp -implicitDefEqProofs [NF, B1_law_net, ep, s1, s2, mn, mx, ty, ap]
theorem net_bent {b c n : Nat} {h0 h : VH} (q0 : Hb b c h0) (kp : Keep b c h0 h) {F : Nat} (hF : h0.length ≤ F) {f : List (Int × Int)} (cF : h[F]? = some (.lst (f.map pD))) (hw : Wires n f) (hz : f.length ≤ 1000) (style : Int) (a1 k t i j u : Option D) :
    ∃ (u' : Option D) (f' : List (Int × Int)) (h' : VH), NF S1_law_net [some (.ref b), a1, k, some (.int style), some (.ref F), t, i, j, u] h = .ok (.nx, [some (.ref b), a1, k, some (.int style), some (.ref F), t, i, j, u'], h') ∧ Keep b c h0 h' ∧ h'[F]? = some (.lst (f'.map pD)) ∧ Wires n f' ∧ f'.length = f.length := by
  by_cases s1 : style = 1
  · have e0 : (h ++ [Cell.lst []])[F]? = some (.lst (f.map pD)) := get_at cF
    have ne := eqLp (α := Int × Int) (by decide) true (h := h ++ [.lst []]) (n := F) (m := h.length) (a := f) (b := []) (lk_of e0) (by simp)
    have ne : dNe (.ref F) (.ref h.length) (h ++ [.lst []]) = some (.bl (!decide (f = [])), h ++ [.lst []]) := ne
    by_cases f0 : f = []
    · rw [f0, decide_eq_true rfl] at ne
      refine ⟨u, f, h ++ [.lst []], ?_, kp.app _, e0, hw, rfl⟩
      simp -implicitDefEqProofs [NF, S1_law_net, s1, ne]
    · rw [decide_eq_false f0] at ne
      have fp : 0 < f.length := List.length_pos_iff.mpr f0
      have lkF := lk_of e0
      have k1 : Keep b c h0 (h ++ [.lst []]) := kp.app _
      obtain ⟨d, h2, e2, d2, k2⟩ := draw_nat k1.bag (m := (f.length : Int)) (by omega) (by omega)
      obtain ⟨p, h3, e3, hp, k3⟩ := s_pickL k2.bag [.int ((f.length : Int) - 1), .int d] (by simp) (by simp)
      have hp : ∃ k : Nat, p = .int (k : Int) ∧ k < f.length := by
        simp only [List.mem_cons, List.not_mem_nil, or_false] at hp
        rcases hp with rfl | rfl
        · exact ⟨f.length - 1, by congr 1; omega, by omega⟩
        · exact ⟨d, rfl, by omega⟩
      obtain ⟨a, rfl, ha⟩ := hp
      have c3 : h3[F]? = some (.lst (f.map pD)) := Keep.cell q0 hF (k2.trans k3) e0
      have lk3 := lk_of c3
      have ai : L2.atI (f.map pD) (a : Int) = some (.tup [.int f[a].1, .int f[a].2]) := by
        rw [atI_nn (by omega) (by simp; omega)]
        simp [pD]
      have set := sLst_of (l := f.map pD) (k := (a : Int)) (j := a) (.tup [.int f[a].2, .int f[a].1]) c3 (by
        have := ixN_nn (n := (f.map pD).length) (i := (a : Int)) (by omega) (by simp; omega)
        rw [Int.toNat_natCast] at this
        exact this)
      have es : (f.map pD).set a (.tup [.int f[a].2, .int f[a].1]) = (f.set a (f[a].2, f[a].1)).map pD := by
        rw [List.map_set]
        rfl
      rw [es] at set
      have bl := q0.b_lt
      have cl := q0.c_lt
      refine ⟨some (.int (a : Int)), f.set a (f[a].2, f[a].1), h3.set F (.lst ((f.set a (f[a].2, f[a].1)).map pD)), ?_, ((k1.trans k2).trans k3).set hF (by omega) (by omega), List.getElem?_set_self (lt_of_get c3), ?_, by rw [List.length_set]⟩
      · have le : (f.map pD).length = f.length := by simp
        have z0 : ∀ x y : D, L2.atI [x, y] 0 = some x := fun _ _ => rfl
        have z1 : ∀ x y : D, L2.atI [x, y] 1 = some y := fun _ _ => rfl
        generalize (f.set a (f[a].2, f[a].1)).map pD = v at *
        generalize f[a].1 = y1 at *
        generalize f[a].2 = y2 at *
        generalize f.map pD = w at *
        rw [← le] at e2 e3
        have l2 : lk h2 F = some w := lk_of (Keep.cell q0 hF k2 e0)
        simp -implicitDefEqProofs [NF, S1_law_net, s1, ne, lkF, e2, e3, lk3, ai, set, z0, z1]
      · intro q hq
        rcases List.mem_or_eq_of_mem_set hq with g | rfl
        · exact hw q g
        · have := hw f[a] (List.getElem_mem _)
          simp only
          omega
  · refine ⟨u, f, h, ?_, kp, cF, hw, rfl⟩
    simp -implicitDefEqProofs [NF, S1_law_net, s1]
theorem s_net {h : VH} {b c : Nat} (q : Hb b c h) {n k : Nat} (h2n : 2 ≤ n) (hn : n ≤ 1000) (hk : k ≤ 1000) (style : Int) : ∃ net h', F_law_net [.ref b, .int n, .int k, .int style] h = .ok (netD net, h') ∧ Wires n net ∧ net.length = k ∧ Keep b c h h' := by
  obtain ⟨h1, eh1⟩ : ∃ h1, h1 = h ++ [.lst []] := ⟨_, rfl⟩
  have k1 : Keep b c h h1 := by rw [eh1]; exact q.keep _
  have c1 : h1[h.length]? = some (.lst (([] : List (Int × Int)).map pD)) := by rw [eh1]; simp
  have e2 : NF S2_law_net [some (.ref b), some (.int (n : Int)), some (.int (k : Int)), some (.int style), none, none, none, none, none] h = .ok (.nx, [some (.ref b), some (.int (n : Int)), some (.int (k : Int)), some (.int style), some (.ref h.length), none, none, none, none], h1) := by
    simp -implicitDefEqProofs [NF, S2_law_net, eh1]
  have hit : (vRng1 (vCons (vVar 2) vNil)) [some (.ref b), some (.int (n : Int)), some (.int (k : Int)), some (.int style), some (.ref h.length), none, none, none, none] h1 = .ok (fun _ => some (rangeD 0 1 (k : Int).toNat), h1) := vRng1_of (by simp) (inRng_small (by omega) (by omega))
  rw [Int.toNat_natCast] at hit
  obtain ⟨s', h2, eL, ⟨t, i, j, rfl⟩, f, k2, cF, wF, lF⟩ := for_all (g := gP (pN 5)) (body := NF B1_law_net) (fun m s h' => (∃ t i j, s = [some (.ref b), some (.int (n : Int)), some (.int (k : Int)), some (.int style), some (.ref h.length), t, i, j, none]) ∧ ∃ f : List (Int × Int), Keep b c h h' ∧ h'[h.length]? = some (.lst (f.map pD)) ∧ Wires n f ∧ f.length = m) hit (fun _ _ _ _ => rfl) ⟨⟨_, _, _, rfl⟩, [], k1, c1, (fun p hp => absurd hp List.not_mem_nil), rfl⟩ (by
    rintro m d s h' ed ⟨⟨t, i, j, rfl⟩, f, kp, cF, wF, lF⟩
    obtain ⟨hm, rfl⟩ := rng_get ed
    obtain ⟨i', j', p, h3, e, k3, c3, hp⟩ := net_turn q kp (by omega) hn (Nat.le_refl _) cF wF (by omega) style (some (.int (k : Int))) (some (.int ((0 : Int) + (m : Nat)))) i j none
    exact ⟨_, h3, .inl (by rw [turn_N]; exact e), ⟨_, _, _, rfl⟩, f ++ [p], k3, c3, wires_snoc wF hp, by rw [List.length_append, List.length_singleton, lF]⟩)
  have eL : NF L1_law_net [some (.ref b), some (.int (n : Int)), some (.int (k : Int)), some (.int style), some (.ref h.length), none, none, none, none] h1 = _ := eL
  rw [show (rangeD 0 1 k).length = k from rangeD_length ..] at lF
  obtain ⟨u', f', h3, e1, k3, cF3, wF3, lF3⟩ := net_bent (n := n) q k2 (Nat.le_refl _) cF wF (by omega) style (some (.int (n : Int))) (some (.int (k : Int))) t i j none
  have l2 := lk_of cF3
  refine ⟨f', h3, mF_rt (s' := [some (.ref b), some (.int (n : Int)), some (.int (k : Int)), some (.int style), some (.ref h.length), t, i, j, u']) ?_, wF3, by omega, k3⟩
  show NF m_law_net [some (.ref b), some (.int (n : Int)), some (.int (k : Int)), some (.int style), none, none, none, none, none] h = _
  simp only [NF] at *
  unfold m_law_net
  rw [seq_nx e2, seq_nx eL, seq_nx e1]
  simp -implicitDefEqProofs [l2, netD]
theorem s_some_net {h : VH} {b c : Nat} (q : Hb b c h) {n : Nat} (hn : n ≤ 1000) : ∃ net h', F_law_some_net [.ref b, .int n] h = .ok (netD net, h') ∧ Wires n net ∧ net.length ≤ 60 ∧ Keep b c h h' := by
  by_cases n2 : n < 2
  · have n2' : (n : Int) < 2 := by omega
    refine ⟨[], h, mF_rt (s' := [some (.ref b), some (.int (n : Int)), none]) ?_, (fun p hp => by cases hp), Nat.zero_le _, .refl q⟩
    simp -implicitDefEqProofs [m_law_some_net, S2_law_some_net, n2, n2']
    rfl
  · have n2' : ¬ (n : Int) < 2 := by omega
    obtain ⟨x, h1, e1, d1, k1⟩ := draw_nat q (m := 8) (by decide) (by decide)
    obtain ⟨y, h2, e2, d2, k2⟩ := draw_nat k1.bag (m := 61) (by decide) (by decide)
    obtain ⟨p, h3, e3, hp, k3⟩ := s_pickL k2.bag [.int 0, .int 1, .int (2 + (x : Int)), .int y, .int 60] (by simp) (by simp)
    have hp : ∃ k : Nat, p = .int (k : Int) ∧ k ≤ 60 := by
      simp only [List.mem_cons, List.not_mem_nil, or_false] at hp
      rcases hp with rfl | rfl | rfl | rfl | rfl
      · exact ⟨0, rfl, by omega⟩
      · exact ⟨1, rfl, by omega⟩
      · exact ⟨2 + x, rfl, by omega⟩
      · exact ⟨y, rfl, by omega⟩
      · exact ⟨60, rfl, by omega⟩
    obtain ⟨k, rfl, hk⟩ := hp
    obtain ⟨st, h4, e4, d4, k4⟩ := draw_nat k3.bag (m := 5) (by decide) (by decide)
    obtain ⟨net, h5, e5, wN, zN, k5⟩ := s_net k4.bag (n := n) (by omega) hn (k := k) (by omega) (st : Int)
    refine ⟨net, h5, mF_rt (s' := [some (.ref b), some (.int (n : Int)), some (.int (k : Int))]) ?_, wN, by omega, (((k1.trans k2).trans k3).trans k4).trans k5⟩
    simp -implicitDefEqProofs [m_law_some_net, S2_law_some_net, S1_law_some_net, n2, n2', e1, e2, e3, e4, e5]
end K01

namespace K01
open PySem Vq
abbrev RUF {α : Type} (f : Fn → Fn → Fn → Fn → Fn → Fn → Fn → Fn → α) : α := f F_is_ascending F_row_error F_made_row F_is_standard F_does_sort_row F_net_error F_law_ascends F_law_made
theorem _root_.Vq.Grow.cell {h h' : VH} (g : Grow h h') {n : Nat} {c : Cell} (e : h[n]? = some c) : h'[n]? = some c := by
  obtain ⟨u, rfl⟩ := g
  rw [List.getElem?_append_left (lt_of_get e)]
  exact e
def told7 (md : List Int) (goes begins plain : Bool) : List D := [.non, .non, tupI md, .bl goes, .bl begins, .bl goes, .bl plain]
theorem sz_n : sz .non = 1 := by
  have e : pyOf .non = .none := by
    unfold pyOf
    rw [pyD_n]
    rfl
  unfold sz
  rw [e]
  simp [size]
theorem pl_nonk {k : Nat} : PlD k .non := pl_non.mono (Nat.zero_le _)
theorem repr_told {h : VH} {m : Nat} {md : List Int} (lim : Lim md) (hz : md.length ≤ 1000) {goes begins plain : Bool} (e : lk h m = some (told7 md goes begins plain)) : bRepr [.ref m] h = some (.str (txtL (told7 md goes begins plain)), h) := by
  refine repr_L (k := 1) e (fun d hd => ?_) (by decide) ?_
  · simp only [told7, List.mem_cons, List.not_mem_nil, or_false] at hd
    rcases hd with rfl | rfl | rfl | rfl | rfl | rfl | rfl
    · exact pl_nonk
    · exact pl_nonk
    · exact pl_row lim
    · exact (pl_bl _).mono (by decide)
    · exact (pl_bl _).mono (by decide)
    · exact (pl_bl _).mono (by decide)
    · exact (pl_bl _).mono (by decide)
  · simp only [told7, List.map_cons, List.map_nil, List.sum_cons, List.sum_nil, sz_n, sz_bl, sz_row lim]
    omega
theorem mAppS {h : VH} {F : Nat} {fs : List Str} (e : h[F]? = some (.lst (fs.map .str))) (hz : fs.length ≤ 1000) (T : Str) : mAppend (.ref F) [.str T] h = some (.non, h.set F (.lst ((fs ++ [T]).map .str))) := by
  have := mAppend_of (d := .str T) e (by rw [List.length_map]; omega)
  rw [this, List.map_append]
  rfl
/-- what a run's calls tell -/
structure RunF (n : Nat) (net : List (Int × Int)) (row : List Int) : Prop where
  nerr : ∀ h, ∃ h', F_net_error [.int n, netD net] h = .ok (.non, h') ∧ Grow h h'
  rerr : ∀ h, ∃ h', F_row_error [.int n, tupI row] h = .ok (.non, h') ∧ Grow h h'
  berr : ∀ h, ∃ h', F_row_error [.int n, tupI (madeR net row)] h = .ok (.non, h') ∧ Grow h h'
  made : ∀ h, ∃ h', F_made_row [netD net, tupI row] h = .ok (tupI (madeR net row), h') ∧ Grow h h'
  sort : ∀ h, ∃ h', F_does_sort_row [netD net, tupI row] h = .ok (.bl (ascB (madeR net row)), h') ∧ Grow h h'
  asc : ∀ h, ∃ h', F_is_ascending [tupI row] h = .ok (.bl (ascB row), h') ∧ Grow h h'
  ascm : ∀ h, ∃ h', F_is_ascending [tupI (madeR net row)] h = .ok (.bl (ascB (madeR net row)), h') ∧ Grow h h'
  std : ∀ h, ∃ h', F_is_standard [netD net] h = .ok (.bl (stdB net), h') ∧ Grow h h'
  limm : Lim (madeR net row)
  lm : (madeR net row).length = n
theorem runF {n : Nat} (hn : n ≤ 100) {net : List (Int × Int)} (w : Wires n net) (z : net.length ≤ 500) {row : List Int} (hr : row.length = n) (lim : Lim row) : RunF n net row := by
  have w' : Wires row.length net := by rw [hr]; exact w
  have lm : (madeR net row).length = n := by rw [madeR_len, hr]
  have limm : Lim (madeR net row) := lim.perm (madeR_perm w')
  have rr : ∀ {r : List Int}, r.length = n → Lim r → ∀ h, ∃ h', F_row_error [.int n, tupI r] h = .ok (.non, h') ∧ Grow h h' := fun {r} hl l h => by
    obtain ⟨h', e, g⟩ := x_row_error_i hl (by omega) h
    rw [far_mem fun x hx => lim_near (l.lim x hx)] at e
    exact ⟨h', e, g⟩
  refine ⟨fun h => ?_, rr hr lim, rr lm limm, fun h => r_made w' h, fun h => x_does_sort w' (by omega) h, fun h => x_ascending (by omega) h, fun h => x_ascending (by omega) h, fun h => x_is_standard (by omega) h, limm, lm⟩
  obtain ⟨h', e, g⟩ := x_net_error_t (n := (n : Int)) (notF_net net) (by rw [List.length_map]; omega) h
  have ne : netE (n : Int) (net.map pD) = .non := by
    unfold netE
    rw [if_neg (by rw [List.length_map]; omega), odd_none (comp_net w)]
    rfl
  rw [ne] at e
  exact ⟨h', e, g⟩
theorem run_turn {h0 h : VH} {n : Nat} (hn : n ≤ 100) {net : List (Int × Int)} {row : List Int} (R : RunF n net row) (g0 : Grow h0 h) {F : Nat} (hF : h0.length ≤ F) {fs : List Str} (hz : fs.length ≤ 900) (cF : h[F]? = some (.lst (fs.map .str))) {T : Str} (hT : T = txtL (told7 (madeR net row) (ascB (madeR net row)) (ascB row) (stdB net))) (a4 a5 a6 a7 a8 a10 a11 a12 a13 a14 : Option D) :
    ∃ (a11' : Option D) (h' : VH), RUF B1_law_is_run_right [some (.int (n : Int)), some (netD net), some (tupI row), some (tupI (madeR net row)), a4, a5, a6, a7, a8, some (.ref F), a10, a11, a12, a13, a14] h = .ok (.nx, [some (.int (n : Int)), some (netD net), some (tupI row), some (tupI (madeR net row)), a4, a5, a6, a7, a8, some (.ref F), a10, a11', a12, a13, a14], h') ∧ Grow h0 h' ∧ h'[F]? = some (.lst ((fs ++ [T, T]).map .str)) := by
  obtain ⟨md, hmd⟩ : ∃ md, md = madeR net row := ⟨_, rfl⟩
  obtain ⟨goes, hgo⟩ : ∃ goes, goes = ascB (madeR net row) := ⟨_, rfl⟩
  obtain ⟨begins, hbe⟩ : ∃ begins, begins = ascB row := ⟨_, rfl⟩
  obtain ⟨plain, hpl⟩ : ∃ plain, plain = stdB net := ⟨_, rfl⟩
  rw [← hgo, ← hbe, ← hpl, ← hmd] at hT
  obtain ⟨x1, e1, g1⟩ := R.nerr h
  obtain ⟨x2, e2, g2⟩ := R.rerr x1
  obtain ⟨x3, e3, g3⟩ := R.made x2
  obtain ⟨x4, e4, g4⟩ := R.sort x3
  obtain ⟨x5, eh5⟩ : ∃ x, x = x4 ++ [.lst [.non, .non, tupI md, .bl goes]] := ⟨_, rfl⟩
  obtain ⟨x6, e6, g6⟩ := R.asc x5
  obtain ⟨x7, e7, g7⟩ := R.ascm x6
  obtain ⟨x8, e8, g8⟩ := R.std x7
  obtain ⟨x9, eh9⟩ : ∃ x, x = x8 ++ [.lst [.bl begins, .bl goes, .bl plain]] := ⟨_, rfl⟩
  have g5 : Grow x4 x5 := by rw [eh5]; exact .new _ _
  have g9 : Grow x8 x9 := by rw [eh9]; exact .new _ _
  have c5 : x5[x4.length]? = some (.lst [.non, .non, tupI md, .bl goes]) := by rw [eh5]; exact cell_at _ _
  have da1 := dAdd_L (h := x9) (n := x4.length) (m := x8.length) ((((g6.trans g7).trans g8).trans g9).cell c5) (by rw [eh9]; exact cell_at _ _) (by simp)
  obtain ⟨x10, eh10⟩ : ∃ x, x = x9 ++ [.lst (told7 md goes begins plain)] := ⟨_, rfl⟩
  have ad1 : dAdd (.ref x4.length) (.ref x8.length) x9 = some (.ref x9.length, x10) := by rw [da1, eh10]; rfl
  have g10 : Grow x9 x10 := by rw [eh10]; exact .new _ _
  have r1 := repr_told (h := x10) (m := x9.length) (md := md) (by rw [hmd]; exact R.limm) (by rw [hmd, R.lm]; omega) (goes := goes) (begins := begins) (plain := plain) (by rw [eh10]; exact lk_at _ _ [])
  rw [← hT] at r1
  have ga5 := (((g1.trans g2).trans g3).trans g4).trans g5
  have ga := ((((ga5.trans g6).trans g7).trans g8).trans g9).trans g10
  have cF10 := ga.cell cF
  have ap1 := mAppS cF10 (by omega) T
  obtain ⟨y0, ey0⟩ : ∃ y, y = x10.set F (.lst ((fs ++ [T]).map .str)) := ⟨_, rfl⟩
  rw [← ey0] at ap1
  have gy0 : Grow h0 y0 := by rw [ey0]; exact grow_set (g0.trans ga) hF
  have cF0 : y0[F]? = some (.lst ((fs ++ [T]).map .str)) := by rw [ey0]; exact List.getElem?_set_self (lt_of_get cF10)
  have ty5 := tyL_of (lk_of (ga5.cell cF))
  have ty10 := tyL_of (lk_of cF10)
  obtain ⟨y1, f1, k1⟩ := R.nerr y0
  obtain ⟨y2, f2, k2⟩ := R.rerr y1
  obtain ⟨y3, f3, k3⟩ := R.made y2
  obtain ⟨y4, ey4⟩ : ∃ y, y = y3 ++ [.lst [.non, .non, tupI md]] := ⟨_, rfl⟩
  obtain ⟨y5, f5, k5⟩ := R.sort y4
  obtain ⟨y6, f6, k6⟩ := R.asc y5
  obtain ⟨y7, f7, k7⟩ := R.ascm y6
  obtain ⟨y8, ey8⟩ : ∃ y, y = y7 ++ [.lst [.bl goes, .bl begins, .bl goes]] := ⟨_, rfl⟩
  have k4 : Grow y3 y4 := by rw [ey4]; exact .new _ _
  have k8 : Grow y7 y8 := by rw [ey8]; exact .new _ _
  have d4 : y4[y3.length]? = some (.lst [.non, .non, tupI md]) := by rw [ey4]; exact cell_at _ _
  have da2 := dAdd_L (h := y8) (n := y3.length) (m := y7.length) ((((k5.trans k6).trans k7).trans k8).cell d4) (by rw [ey8]; exact cell_at _ _) (by simp)
  obtain ⟨y9, ey9⟩ : ∃ y, y = y8 ++ [.lst [.non, .non, tupI md, .bl goes, .bl begins, .bl goes]] := ⟨_, rfl⟩
  have ad2 : dAdd (.ref y3.length) (.ref y7.length) y8 = some (.ref y8.length, y9) := by rw [da2, ey9]; rfl
  have k9 : Grow y8 y9 := by rw [ey9]; exact .new _ _
  have d9 : y9[y8.length]? = some (.lst [.non, .non, tupI md, .bl goes, .bl begins, .bl goes]) := by rw [ey9]; exact cell_at _ _
  obtain ⟨y10, f10, k10⟩ := R.std y9
  obtain ⟨y11, ey11⟩ : ∃ y, y = y10 ++ [.lst [.bl plain]] := ⟨_, rfl⟩
  have k11 : Grow y10 y11 := by rw [ey11]; exact .new _ _
  have da3 := dAdd_L (h := y11) (n := y8.length) (m := y10.length) ((k10.trans k11).cell d9) (by rw [ey11]; exact cell_at _ _) (by simp)
  obtain ⟨y12, ey12⟩ : ∃ y, y = y11 ++ [.lst (told7 md goes begins plain)] := ⟨_, rfl⟩
  have ad3 : dAdd (.ref y8.length) (.ref y10.length) y11 = some (.ref y11.length, y12) := by rw [da3, ey12]; rfl
  have k12 : Grow y11 y12 := by rw [ey12]; exact .new _ _
  have r2 := repr_told (h := y12) (m := y11.length) (md := md) (by rw [hmd]; exact R.limm) (by rw [hmd, R.lm]; omega) (goes := goes) (begins := begins) (plain := plain) (by rw [ey12]; exact lk_at _ _ [])
  rw [← hT] at r2
  have kb9 := (((((((k1.trans k2).trans k3).trans k4).trans k5).trans k6).trans k7).trans k8).trans k9
  have kb := ((kb9.trans k10).trans k11).trans k12
  have cF12 := kb.cell cF0
  have ap2 := mAppS cF12 (by rw [List.length_append, List.length_singleton]; omega) T
  have ty9 := tyL_of (lk_of (kb9.cell cF0))
  have ty12 := tyL_of (lk_of cF12)
  refine ⟨some (.ref y8.length), y12.set F (.lst ((fs ++ [T] ++ [T]).map .str)), ?_, grow_set (gy0.trans kb) hF, by rw [List.getElem?_set_self (lt_of_get cF12), List.append_assoc]; rfl⟩
  simp only [RUF]
  rw [← hgo] at e4 e7 f5 f7
  rw [← hbe] at e6 f6
  rw [← hpl] at e8 f10
  rw [← hmd] at e3 e7 f3 f7 ⊢
  clear da1 da2 da3 hmd hgo hbe hpl
  have eh5' := eh5.symm
  have eh9' := eh9.symm
  have ey4' := ey4.symm
  have ey8' := ey8.symm
  have ey11' := ey11.symm
  generalize (fs ++ [T] ++ [T]).map D.str = u1 at *
  generalize netD net = u2 at *
  generalize tupI row = u3 at *
  generalize tupI md = u4 at *
  simp -implicitDefEqProofs [B1_law_is_run_right, e1, e2, e3, e4, eh5', e6, e7, e8, eh9', ad1, r1, ap1, ty5, ty10, f1, f2, f3, ey4', f5, f6, f7, ey8', ad2, f10, ey11', ad3, r2, ap2, ty9, ty12]
end K01

namespace K01
open PySem Vq
theorem repr_two {h : VH} {m n : Nat} (hn : n ≤ 100) {net : List (Int × Int)} (w : Wires n net) (z : net.length ≤ 500) {row : List Int} (hr : row.length = n) (lim : Lim row) (e : lk h m = some [netD net, tupI row]) : bRepr [.ref m] h = some (.str (txtL [netD net, tupI row]), h) := by
  refine repr_L (k := 2) e (fun d hd => ?_) (by decide) ?_
  · simp only [List.mem_cons, List.not_mem_nil, or_false] at hd
    rcases hd with rfl | rfl
    · exact pl_net (by omega) w
    · exact (pl_row lim).mono (by decide)
  · simp only [List.map_cons, List.map_nil, List.sum_cons, List.sum_nil, sz_net (by omega) w, sz_row lim]
    omega
theorem repr_ng {h : VH} {m : Nat} {g : Bool} (e : lk h m = some [.non, .bl g]) : bRepr [.ref m] h = some (.str (txtL [.non, .bl g]), h) := by
  refine repr_L (k := 0) e (fun d hd => ?_) (by decide) ?_
  · simp only [List.mem_cons, List.not_mem_nil, or_false] at hd
    rcases hd with rfl | rfl
    · exact pl_non
    · exact pl_bl _
  · simp only [List.map_cons, List.map_nil, List.sum_cons, List.sum_nil, sz_n, sz_bl]
    omega
theorem txt_ok (l : List PyData) (h : okSs l = true) : PyData.strOk (PyData.list l).shown = true := ok_shown _ (by simp only [okS]; exact h)
theorem okSs_told {md : List Int} {g b p : Bool} : PyData.strOk (txtL (told7 md g b p)) = true := by
  unfold txtL
  refine txt_ok _ ?_
  have e1 : pyOf .non = .none := by
    unfold pyOf
    rw [pyD_n]
    rfl
  have e2 : ∀ b, pyOf (.bl b) = .bool b := fun b => by
    unfold pyOf
    rw [pyD_b]
    rfl
  have e3 : pyOf (tupI md) = .tuple (md.map .int) := by
    have z : pyL (fun _ => none) (md.map D.int) = some (md.map PyData.int) := pl_pyL (α := Int) _ md
    unfold pyOf tupI
    simp only [pyD, z]
    rfl
  have e4 : okSs (md.map .int) = true := by
    clear e3
    induction md with
    | nil => rfl
    | cons a r ih =>
      rw [List.map_cons]
      simp only [okSs, okS, ih, Bool.and_self]
  simp only [told7, List.map_cons, List.map_nil, e1, e2, e3, okSs, okS, e4, Bool.and_self]
theorem C1_plain {net : List (Int × Int)} (hz : net.length ≤ 1000000) {s : VS} (s1 : s[1]? = some (some (netD net))) (hl : s.length = 15) (h : VH) : RUF C1_law_is_run_right s h = .ok (.ref h.length, h ++ [.lst ((net.map fun p => decide (p.1 < p.2)).map .bl)]) := by
  show C1_law_is_run_right _ _ _ _ _ _ _ _ s h = _
  unfold C1_law_is_run_right
  rw [lc_tup (h1 := h) (ys := net) (c := pD) (fun _ => true) (fun p => .bl (decide (p.1 < p.2))) (by simp [vVar, s1, netD]) (by omega) (by
    intro y hy acc
    have l1 : (vwipe s [13, 14]).length = 15 := by simp [vwipe, hl]
    refine ⟨_, rfl, rfl, fun _ => ?_⟩
    have v13 : (((vwipe s [13, 14]).set 13 (some (D.int y.1))).set 14 (some (D.int y.2)))[13]? = some (some (.int y.1)) := by
      rw [List.getElem?_set_ne (by decide)]
      exact List.getElem?_set_self (by omega)
    have v14 : (((vwipe s [13, 14]).set 13 (some (D.int y.1))).set 14 (some (D.int y.2)))[14]? = some (some (.int y.2)) := List.getElem?_set_self (by rw [List.length_set]; omega)
    simp -implicitDefEqProofs [E1_law_is_run_right, v13, v14])]
  simp only [List.filter_eq_self.mpr (fun _ _ => rfl), List.map_map]
  rfl
theorem s_run_right {h : VH} {n : Nat} (hn : n ≤ 100) {net : List (Int × Int)} (w : Wires n net) (z : net.length ≤ 500) {row : List Int} (hr : row.length = n) (lim : Lim row) :
    ∃ h', F_law_is_run_right [.int n, netD net, tupI row] h = .ok (.bl true, h') ∧ Grow h h' := by
  have R := runF hn w z hr lim
  have w' : Wires row.length net := by rw [hr]; exact w
  have lmd : (madeR net row).length = n := by rw [madeR_len, hr]
  obtain ⟨h1, e1, g1⟩ := r_lmade w' h
  obtain ⟨h2, eh2⟩ : ∃ h2, h2 = h1 ++ [.lst [netD net, tupI row]] := ⟨_, rfl⟩
  have g2 : Grow h1 h2 := by rw [eh2]; exact .new _ _
  have r2 := repr_two (h := h2) (m := h1.length) hn w z hr lim (by rw [eh2]; exact lk_at _ _ [])
  obtain ⟨KT, hKT⟩ : ∃ KT, KT = txtL [netD net, tupI row] := ⟨_, rfl⟩
  rw [← hKT] at r2
  obtain ⟨h3, e3, g3⟩ := x_law_ascends (row := madeR net row) (by omega) h2
  obtain ⟨h4, e4, g4⟩ := x_law_ascends (row := row) (by omega) h3
  have c5 := C1_plain (net := net) (by omega) (s := [some (.int (n : Int)), some (netD net), some (tupI row), some (tupI (madeR net row)), some (.str KT), some (.bl (ascB (madeR net row))), some (.bl (ascB row)), none, none, none, none, none, none, none, none]) rfl rfl h4
  obtain ⟨h5, eh5⟩ : ∃ h5, h5 = h4 ++ [.lst ((net.map fun p => decide (p.1 < p.2)).map .bl)] := ⟨_, rfl⟩
  have g5 : Grow h4 h5 := by rw [eh5]; exact .new _ _
  have ba := bAll_r (h := h5) (n := h4.length) (l := net.map fun p => decide (p.1 < p.2)) (by rw [eh5]; exact lk_at _ _ [])
  rw [List.all_map] at ba
  have es : (net.all (id ∘ fun p : Int × Int => decide (p.1 < p.2))) = stdB net := rfl
  rw [es] at ba
  rw [← eh5] at c5
  obtain ⟨md, hmd⟩ : ∃ md, md = madeR net row := ⟨_, rfl⟩
  obtain ⟨goes, hgo⟩ : ∃ goes, goes = ascB (madeR net row) := ⟨_, rfl⟩
  obtain ⟨begins, hbe⟩ : ∃ begins, begins = ascB row := ⟨_, rfl⟩
  obtain ⟨plain, hpl⟩ : ∃ plain, plain = stdB net := ⟨_, rfl⟩
  obtain ⟨h6, eh6⟩ : ∃ h6, h6 = h5 ++ [.lst (told7 md goes begins plain)] := ⟨_, rfl⟩
  have g6 : Grow h5 h6 := by rw [eh6]; exact .new _ _
  obtain ⟨T, hT⟩ : ∃ T, T = txtL (told7 md goes begins plain) := ⟨_, rfl⟩
  have r6 := repr_told (h := h6) (m := h5.length) (md := md) (by rw [hmd]; exact R.limm) (by rw [hmd, R.lm]; omega) (goes := goes) (begins := begins) (plain := plain) (by rw [eh6]; exact lk_at _ _ [])
  rw [← hT] at r6
  obtain ⟨h7, eh7⟩ : ∃ h7, h7 = h6 ++ [.lst []] := ⟨_, rfl⟩
  have g7 : Grow h6 h7 := by rw [eh7]; exact .new _ _
  have g07 : Grow h h7 := (((((g1.trans g2).trans g3).trans g4).trans g5).trans g6).trans g7
  have c7 : h7[h6.length]? = some (.lst (([] : List Str).map .str)) := by rw [eh7]; exact cell_at _ _
  have T7 : T = txtL (told7 (madeR net row) (ascB (madeR net row)) (ascB row) (stdB net)) := by rw [hT, hmd, hgo, hbe, hpl]
  have hF : h.length ≤ h6.length := Grow.le (((((g1.trans g2).trans g3).trans g4).trans g5).trans g6)
  have hit : (vRng1 (vCons (vC (.int 2)) vNil)) [some (.int (n : Int)), some (netD net), some (tupI row), some (tupI (madeR net row)), some (.str KT), some (.bl goes), some (.bl begins), some (.bl plain), some (.str T), some (.ref h6.length), none, none, none, none, none] h7 = .ok (fun _ => some (rangeD 0 1 (2 : Int).toNat), h7) := vRng1_of rfl (by decide)
  obtain ⟨s', h8, eL0, ⟨a10, a11, rfl⟩, gL, cF0⟩ := for_all (g := gP (pN 10)) (body := RUF B1_law_is_run_right) (fun k s h' => (∃ a10 a11, s = [some (.int (n : Int)), some (netD net), some (tupI row), some (tupI (madeR net row)), some (.str KT), some (.bl goes), some (.bl begins), some (.bl plain), some (.str T), some (.ref h6.length), a10, a11, none, none, none]) ∧ Grow h h' ∧ h'[h6.length]? = some (.lst ((List.replicate (2 * k) T).map .str))) hit (fun _ _ _ _ => rfl) ⟨⟨_, _, rfl⟩, g07, c7⟩ (by
    rintro k d s h' ed ⟨⟨a10, a11, rfl⟩, g, cF⟩
    obtain ⟨hk, rfl⟩ := rng_get ed
    have hk : k < 2 := hk
    obtain ⟨a11', h3, e, g3, c3⟩ := run_turn hn R g hF (by rw [List.length_replicate]; omega) cF T7 (some (.str KT)) (some (.bl goes)) (some (.bl begins)) (some (.bl plain)) (some (.str T)) (some (.int ((0 : Int) + (k : Nat)))) a11 none none none
    refine ⟨_, h3, .inl (by rw [turn_N]; exact e), ⟨_, _, rfl⟩, g3, ?_⟩
    rw [c3, show 2 * (k + 1) = 2 * k + 2 by omega, ← List.replicate_append_replicate (n := 2 * k) (m := 2)]
    rfl)
  have eL : RUF L1_law_is_run_right [some (.int (n : Int)), some (netD net), some (tupI row), some (tupI (madeR net row)), some (.str KT), some (.bl goes), some (.bl begins), some (.bl plain), some (.str T), some (.ref h6.length), none, none, none, none, none] h7 = _ := eL0
  have cF : h8[h6.length]? = some (.lst ([T, T, T, T].map .str)) := cF0
  obtain ⟨h9, e9, g9⟩ := R.made h8
  obtain ⟨hA, ehA⟩ : ∃ hA, hA = h9 ++ [.lst [.str T]] := ⟨_, rfl⟩
  have m40 := dMul_L (h := hA) (m := h9.length) (x := .str T) (n := 4) (by rw [ehA]; exact cell_at _ _) (by decide)
  obtain ⟨hB, ehB⟩ : ∃ hB, hB = hA ++ [.lst [.str T, .str T, .str T, .str T]] := ⟨_, rfl⟩
  have m4 : dMul (.ref h9.length) (.int 4) hA = some (.ref hA.length, hB) := by rw [ehB]; exact m40
  have gA : Grow h9 hA := by rw [ehA]; exact .new _ _
  have gB : Grow hA hB := by rw [ehB]; exact .new _ _
  have okT : PyData.strOk T = true := by rw [hT]; exact okSs_told
  have ne := dNe_strs (h := hB) (n := h6.length) (m := hA.length) (a := [T, T, T, T]) (b := [T, T, T, T]) (lk_of ((((g9.trans gA).trans gB)).cell cF)) (by rw [ehB]; exact lk_at _ _ []) (by simp [okT]) (by simp [okT])
  rw [decide_eq_true rfl] at ne
  obtain ⟨hC, eC, gC⟩ := R.berr hB
  obtain ⟨hD, eD, gD⟩ := R.ascm hC
  rw [← hgo, ← hmd] at eD
  rw [← hmd] at eC e9 e1
  rw [← hgo, ← hmd] at e3
  rw [← hbe] at e4
  rw [← hpl] at ba
  obtain ⟨hE, ehE⟩ : ∃ hE, hE = hD ++ [.lst [.non, .bl goes]] := ⟨_, rfl⟩
  have rE := repr_ng (h := hE) (m := hD.length) (g := goes) (by rw [ehE]; exact lk_at _ _ [])
  obtain ⟨hG, ehG⟩ : ∃ hG, hG = hE ++ [.lst [.non, .bl goes]] := ⟨_, rfl⟩
  have rG := repr_ng (h := hG) (m := hE.length) (g := goes) (by rw [ehG]; exact lk_at _ _ [])
  obtain ⟨hH, ehH⟩ : ∃ hH, hH = hG ++ [.lst [netD net, tupI row]] := ⟨_, rfl⟩
  have rH := repr_two (h := hH) (m := hG.length) hn w z hr lim (by rw [ehH]; exact lk_at _ _ [])
  rw [← hKT] at rH
  have gE : Grow hD hE := by rw [ehE]; exact .new _ _
  have gG : Grow hE hG := by rw [ehG]; exact .new _ _
  have gH : Grow hG hH := by rw [ehH]; exact .new _ _
  have gall : Grow h hH := (((((((gL.trans g9).trans gA).trans gB).trans gC).trans gD).trans gE).trans gG).trans gH
  refine ⟨hH, mF_rt (s' := [some (.int (n : Int)), some (netD net), some (tupI row), some (tupI md), some (.str KT), some (.bl goes), some (.bl begins), some (.bl plain), some (.str T), some (.ref h6.length), a10, a11, some (tupI md), none, none]) ?_, gall⟩
  show RUF m_law_is_run_right [some (.int (n : Int)), some (netD net), some (tupI row), none, none, none, none, none, none, none, none, none, none, none, none] h = _
  simp only [RUF] at *
  rw [← hgo, ← hbe, ← hmd] at c5
  rw [← hmd] at eL
  have eh2' := eh2.symm
  have eh6' : h5 ++ [Cell.lst [.non, .non, tupI md, .bl goes, .bl begins, .bl goes, .bl plain]] = h6 := eh6.symm
  have eh7' := eh7.symm
  have ehA' := ehA.symm
  have ehE' := ehE.symm
  have ehG' := ehG.symm
  have ehH' := ehH.symm
  generalize (net.map fun p => decide (p.1 < p.2)).map D.bl = bs at *
  clear eh5 eh6 T7 hT hKT eL0 m40 cF0 hit
  generalize netD net = u2 at *
  generalize tupI row = u3 at *
  generalize tupI md = u4 at *
  unfold m_law_is_run_right
  simp -implicitDefEqProofs [S7_law_is_run_right, S6_law_is_run_right, S5_law_is_run_right, S4_law_is_run_right, S3_law_is_run_right, S2_law_is_run_right, S1_law_is_run_right, e1, eh2', r2, e3, e4, c5, ba, eh6', r6, eh7', eL, e9, ehA', m4, ne, eC, eD, ehE', rE, ehG', rG, ehH', rH]
end K01

namespace K01
open PySem Vq
abbrev UF {α : Type} (f : Fn → Fn → Fn → Fn → Fn → Fn → α) : α := f F_law_is_run_right F_joined_nets F_law_made F_law_draw F_law_net F_law_pick
theorem mul2_net {net : List (Int × Int)} (h0 : net ≠ []) (hz : net.length ≤ 1000) (h : VH) : dMul (netD net) (.int 2) h = some (netD (net ++ net), h) := by
  have := dMul_tup (l := net.map pD) (k := 2) (by decide) (by decide) (by simpa using h0) (by rw [List.length_map]; exact hz) h
  have e : repD 2 (net.map pD) = (net ++ net).map pD := by
    rw [rep_net]
    simp [List.replicate]
  rw [e] at this
  exact this
theorem repr_net {n : Nat} (hn : n ≤ 1000) {net : List (Int × Int)} (w : Wires n net) (z : net.length ≤ 2000) (h : VH) : bRepr [netD net] h = some (.str (pyOf (netD net)).shown, h) :=
  repr_D (pl_net hn w) (by decide) (by rw [sz_net hn w]; omega) h
theorem snoc_net {a : List (Int × Int)} (p : Int × Int) (hz : a.length ≤ 100000) (h : VH) : dAdd (netD a) (.tup [pD p]) h = some (netD (a ++ [p]), h) := by
  have := add_nets (a := a) (b := [p]) (by simp only [List.length_singleton]; omega) h
  exact this
theorem great_double {n : Nat} {b : D} {style one other items : D} {G : List (Int × Int)} {k : Nat} (w : Wires n G) (hG : G.length = 120 * 2 ^ k) (hk : k < 2) (a8 : Option D) (h : VH) :
    UF B2_law_is_great_run [some b, some (.int (n : Int)), some style, some one, some other, some items, some (netD G), some (netD G), a8, none, none, none, none] h = .ok (.nx, [some b, some (.int (n : Int)), some style, some one, some other, some items, some (netD (G ++ G)), some (netD (G ++ G)), a8, none, none, none, none], h) := by
  have z : G.length ≤ 240 ∧ 0 < G.length := by
    have : k = 0 ∨ k = 1 := by omega
    rcases this with rfl | rfl <;> omega
  have j := x_joined (a := G) (b := G) (by omega) h
  have m := mul2_net (net := G) (fun e => by rw [e] at z; simp at z) (by omega) h
  generalize netD (G ++ G) = u at *
  generalize netD G = v at *
  simp -implicitDefEqProofs [UF, B2_law_is_great_run, j, m]
theorem last_turn {n : Nat} {row : List Int} (hr : row.length = n) {k : Nat} (hk : k + 1 < n) {p : Int × Int} (hp : OkP n p) {b style one other items great due : D} (a8 a12 : Option D) (h : VH) :
    ∃ p', OkP n p' ∧ UF B1_law_is_great_run [some b, some (.int (n : Int)), some style, some one, some other, some items, some great, some due, a8, some (tupI row), some (pD p), some (.int (k : Int)), a12] h = .ok (.nx, [some b, some (.int (n : Int)), some style, some one, some other, some items, some great, some due, a8, some (tupI row), some (pD p'), some (.int (k : Int)), a12], h) := by
  have a1 := atR (row := row) (i := (k : Int)) (by omega) (by omega)
  have a2 := atR (row := row) (i := (k : Int) + 1) (by omega) (by omega)
  have e2 : ((k : Int) + 1).toNat = k + 1 := by omega
  rw [Int.toNat_natCast] at a1
  rw [e2] at a2
  have r0 : ∀ g, seqOf g (tupI row) = some (row.map .int) := fun _ => rfl
  have fp : ∀ x y : Int, pD (x, y) = .tup [.int x, .int y] := fun _ _ => rfl
  by_cases q : gt row k = gt row (k + 1)
  · refine ⟨p, hp, ?_⟩
    generalize gt row k = u1 at *
    generalize gt row (k + 1) = u2 at *
    generalize tupI row = u3 at *
    generalize row.map D.int = u4 at *
    generalize pD p = u5 at *
    simp -implicitDefEqProofs [UF, B1_law_is_great_run, r0, a1, a2, q]
  · by_cases g : gt row (k + 1) < gt row k
    · refine ⟨((k : Int), (k : Int) + 1), by unfold OkP; simp only; omega, ?_⟩
      rw [fp]
      generalize gt row k = u1 at *
      generalize gt row (k + 1) = u2 at *
      generalize tupI row = u3 at *
      generalize row.map D.int = u4 at *
      generalize pD p = u5 at *
      simp -implicitDefEqProofs [UF, B1_law_is_great_run, r0, a1, a2, q, g]
      rfl
    · refine ⟨((k : Int) + 1, (k : Int)), by unfold OkP; simp only; omega, ?_⟩
      rw [fp]
      generalize gt row k = u1 at *
      generalize gt row (k + 1) = u2 at *
      generalize tupI row = u3 at *
      generalize row.map D.int = u4 at *
      generalize pD p = u5 at *
      simp -implicitDefEqProofs [UF, B1_law_is_great_run, r0, a1, a2, q, g]
      rfl
theorem s_great_run {h : VH} {b c : Nat} (q : Hb b c h) {n : Nat} (h2n : 2 ≤ n) (hn : n ≤ 100) : ∃ h', F_law_is_great_run [.ref b, .int n] h = .ok (.bl true, h') ∧ Keep b c h h' := by
  obtain ⟨sd, h1, e1, hs, k1⟩ := s_pickL q [.int 0, .int 0, .int 3] (by simp) (by simp)
  have hs : ∃ st : Int, sd = .int st := by
    simp only [List.mem_cons, List.not_mem_nil, or_false] at hs
    rcases hs with rfl | rfl | rfl
    · exact ⟨_, rfl⟩
    · exact ⟨_, rfl⟩
    · exact ⟨_, rfl⟩
  obtain ⟨st, rfl⟩ := hs
  obtain ⟨one, h2, e2, w1, z1, k2⟩ := s_net k1.bag (n := n) h2n (by omega) (k := 60) (by decide) st
  obtain ⟨other, h3, e3, w2, z2, k3⟩ := s_net k2.bag (n := n) h2n (by omega) (k := 19) (by decide) st
  have e2' : F_law_net [.ref b, .int (n : Int), .int 60, .int st] h1 = .ok (netD one, h2) := e2
  have e3' : F_law_net [.ref b, .int (n : Int), .int 19, .int st] h2 = .ok (netD other, h3) := e3
  obtain ⟨h4, acc, e40, c4, l4, i4, k4⟩ := lc_bagR (a := vCons (vVar 1) vNil) (vs := [12]) (g := pN 12) (e := UF E1_law_is_great_run) (s := [some (.ref b), some (.int (n : Int)), some (.int st), some (netD one), some (netD other), none, none, none, none, none, none, none, none]) (h := h3) (h1 := h3) (n := (n : Int)) (fun d => ∃ x, d = .int x ∧ (-E30 ≤ x ∧ x ≤ E30)) k3.bag (by simp) (by omega) (by omega) (by
    intro i h hi kk
    obtain ⟨d, h', ed, d1, d2, kd⟩ := s_draw kk.bag (n := 9) (by decide) (by decide)
    have := E30_ge
    refine ⟨_, .int d, h', rfl, ?_, ⟨d, rfl, by omega, by omega⟩, kd⟩
    simp -implicitDefEqProofs [UF, E1_law_is_great_run, vwipe, ed])
  obtain ⟨items, rfl, hi⟩ := ints_of i4
  have e4 : UF C1_law_is_great_run [some (.ref b), some (.int (n : Int)), some (.int st), some (netD one), some (netD other), none, none, none, none, none, none, none, none] h3 = .ok (.ref h3.length, h4) := e40
  have lim : Lim items := ⟨hi⟩
  rw [List.length_map, Int.toNat_natCast] at l4
  have lk4 := lk_of c4
  have j4 := x_joined (a := one) (b := one) (by omega) h4
  have m4 := mul2_net (net := one) (fun e => by rw [e] at z1; simp at z1) (by omega) h4
  have wG := w1.app w1
  have hit : (vRng1 (vCons (vC (.int 2)) vNil)) [some (.ref b), some (.int (n : Int)), some (.int st), some (netD one), some (netD other), some (tupI items), some (netD (one ++ one)), some (netD (one ++ one)), none, none, none, none, none] h4 = .ok (fun _ => some (rangeD 0 1 (2 : Int).toNat), h4) := vRng1_of rfl (by decide)
  obtain ⟨s', h5, eL20, ⟨a8, G, rfl, wG, zG⟩, h54⟩ := for_all (g := gP (pN 8)) (body := UF B2_law_is_great_run) (fun k s h' => (∃ a8 G, s = [some (.ref b), some (.int (n : Int)), some (.int st), some (netD one), some (netD other), some (tupI items), some (netD G), some (netD G), a8, none, none, none, none] ∧ Wires n G ∧ G.length = 120 * 2 ^ k) ∧ h' = h4) hit (fun _ _ _ _ => rfl) ⟨⟨none, one ++ one, rfl, wG, by rw [List.length_append]; omega⟩, rfl⟩ (by
    rintro k d s h' ed ⟨⟨a8, G, rfl, wG, zG⟩, rfl⟩
    obtain ⟨hk, rfl⟩ := rng_get ed
    exact ⟨_, h', .inl (by rw [turn_N]; exact great_double wG zG hk (some (.int ((0 : Int) + (k : Nat)))) h'), ⟨_, G ++ G, rfl, wG.app wG, by rw [List.length_append, zG, Nat.pow_succ]; omega⟩, rfl⟩)
  subst h54
  have eL2 : UF L2_law_is_great_run [some (.ref b), some (.int (n : Int)), some (.int st), some (netD one), some (netD other), some (tupI items), some (netD (one ++ one)), some (netD (one ++ one)), none, none, none, none, none] h5 = _ := eL20
  have zG : G.length = 480 := zG
  have r5 := repr_net (by omega) wG (by omega) h5
  obtain ⟨h6, e6, g6⟩ := s_run_right (h := h5) hn wG (by omega) l4 lim
  have a6 := add_nets (a := G) (b := other) (by omega) h6
  have wGo := wG.app w2
  obtain ⟨h7, e7, g7⟩ := r_lmade (net := G ++ other) (row := items) (by rw [l4]; exact wGo) h6
  obtain ⟨md, hmd⟩ : ∃ md, md = madeR (G ++ other) items := ⟨_, rfl⟩
  have lmd : md.length = n := by rw [hmd, madeR_len, l4]
  rw [← hmd] at e7
  have hit1 : (vRng1 (vCons (vOp aSub (vVar 1) (vC (.int 1))) vNil)) [some (.ref b), some (.int (n : Int)), some (.int st), some (netD one), some (netD other), some (tupI items), some (netD G), some (netD G), a8, some (tupI md), some (pD (1, 0)), none, none] h7 = .ok (fun _ => some (rangeD 0 1 ((n : Int) - 1).toNat), h7) := vRng1_of (by simp) (inRng_small (by omega) (by omega))
  rw [show ((n : Int) - 1).toNat = n - 1 by omega] at hit1
  obtain ⟨s', h8, eL10, ⟨a11, p, rfl, hp⟩, h87⟩ := for_all (g := gP (pN 11)) (body := UF B1_law_is_great_run) (fun k s h' => (∃ a11 p, s = [some (.ref b), some (.int (n : Int)), some (.int st), some (netD one), some (netD other), some (tupI items), some (netD G), some (netD G), a8, some (tupI md), some (pD p), a11, none] ∧ OkP n p) ∧ h' = h7) hit1 (fun _ _ _ _ => rfl) ⟨⟨none, (1, 0), rfl, by unfold OkP; simp only; omega⟩, rfl⟩ (by
    rintro k d s h' ed ⟨⟨a11, p, rfl, hp⟩, rfl⟩
    obtain ⟨hk, rfl⟩ := rng_get ed
    obtain ⟨p', hp', e⟩ := last_turn (n := n) lmd (k := k) (by omega) hp (b := .ref b) (style := .int st) (one := netD one) (other := netD other) (items := tupI items) (great := netD G) (due := netD G) a8 none h'
    rw [show (0 : Int) + (k : Int) = (k : Int) by omega]
    exact ⟨_, h', .inl (by rw [turn_N]; exact e), ⟨_, p', rfl, hp'⟩, rfl⟩)
  subst h87
  have eL1 : UF L1_law_is_great_run [some (.ref b), some (.int (n : Int)), some (.int st), some (netD one), some (netD other), some (tupI items), some (netD G), some (netD G), a8, some (tupI md), some (pD (1, 0)), none, none] h8 = _ := eL10
  have s1 := snoc_net (a := other) p (by omega) h8
  have j1 := x_joined (a := G) (b := other ++ [p]) (by rw [List.length_append, List.length_singleton]; omega) h8
  have s2 := snoc_net (a := G ++ other) p (by rw [List.length_append]; omega) h8
  have a8' := add_nets (a := G) (b := other) (by omega) h8
  rw [← List.append_assoc] at j1
  have wE : Wires n (G ++ other ++ [p]) := wires_snoc wGo hp
  have zE : (G ++ other ++ [p]).length ≤ 500 := by
    rw [List.length_append, List.length_append, List.length_singleton]
    omega
  have r8 := repr_net (by omega) wE (by omega) h8
  obtain ⟨h9, e9, g9⟩ := s_run_right (h := h8) hn wE zE l4 lim
  have kk := ((k1.trans k2).trans k3).trans k4
  refine ⟨h9, mF_rt (s' := [some (.ref b), some (.int (n : Int)), some (.int st), some (netD one), some (netD other), some (tupI items), some (netD (G ++ other ++ [p])), some (netD (G ++ other ++ [p])), a8, some (tupI md), some (pD p), a11, none]) ?_, kk.trans (kk.bag.grow ((g6.trans g7).trans g9))⟩
  show UF m_law_is_great_run [some (.ref b), some (.int (n : Int)), none, none, none, none, none, none, none, none, none, none, none] h = _
  simp only [UF] at *
  clear e2 e3 e40 hit hit1 eL10 eL20
  have fp : pD (1, 0) = .tup [.int 1, .int 0] := rfl
  have ft : tupI items = .tup (items.map .int) := rfl
  rw [ft] at eL2 e6 e7 eL1 e9 ⊢
  rw [fp] at eL1
  generalize (pyOf (netD (G ++ other ++ [p]))).shown = T2 at *
  generalize (pyOf (netD G)).shown = T1 at *
  clear fp ft hmd wE zE c4
  generalize netD (G ++ other ++ [p]) = n1 at *
  generalize netD (G ++ other) = n2 at *
  generalize netD (other ++ [p]) = n3 at *
  generalize netD (one ++ one) = n4 at *
  generalize netD one = n5 at *
  generalize netD other = n6 at *
  generalize netD G = n7 at *
  generalize tupI md = n8 at *
  generalize pD p = n9 at *
  generalize items.map D.int = n10 at *
  unfold m_law_is_great_run
  simp -implicitDefEqProofs [S7_law_is_great_run, S6_law_is_great_run, S5_law_is_great_run, S4_law_is_great_run, S3_law_is_great_run, S2_law_is_great_run, S1_law_is_great_run, e1, e2', e3', e4, lk4, j4, m4, eL2, r5, e6, a6, e7, eL1, s1, j1, s2, a8', r8, e9]
end K01

namespace K01
open PySem Vq
abbrev WR {α : Type} (f : Fn → Fn → Fn → α) : α := f F_is_ascending F_law_ascends F_law_draw
def P60 : Int := 10 ^ 60
def WIDE : Int := P60 ^ 6
theorem pow60 (h : VH) : aPow (.int 10) (.int 60) h = some (.int P60, h) := by
  have e : aPow (.int 10) (.int 60) h = (if powOk 10 60 = true then some (D.int ((10 : Int) ^ (60 : Int).toNat)) else none).map fun d => (d, h) := rfl
  rw [e, if_pos (by decide +kernel)]
  rfl
theorem powWide (h : VH) : aPow (.int P60) (.int 6) h = some (.int WIDE, h) := by
  have e : aPow (.int P60) (.int 6) h = (if powOk P60 6 = true then some (D.int (P60 ^ (6 : Int).toNat)) else none).map fun d => (d, h) := rfl
  rw [e, if_pos (by decide +kernel)]
  rfl
theorem pow6 (h : VH) : aPow (.int 10) (.int 6) h = some (.int 1000000, h) := by
  have e : aPow (.int 10) (.int 6) h = (if powOk 10 6 = true then some (D.int ((10 : Int) ^ (6 : Int).toNat)) else none).map fun d => (d, h) := rfl
  rw [e, if_pos (by decide +kernel)]
  rfl
def cutI (l : List Int) (lo hi : Option Int) : List Int := (l.drop (HT.sIx l.length 0 lo)).take (HT.sIx l.length l.length hi - HT.sIx l.length 0 lo)
theorem cutI_map (l : List Int) (lo hi : Option Int) : cutD (l.map .int) lo hi = (cutI l lo hi).map .int := by
  unfold cutD cutI
  rw [List.length_map, List.map_take, List.map_drop]
theorem cutI_len (l : List Int) (lo hi : Option Int) : (cutI l lo hi).length ≤ l.length := by
  unfold cutI
  rw [List.length_take, List.length_drop]
  omega
theorem add_ints {a b : List Int} (hz : a.length + b.length ≤ 1000000) (h : VH) : dAdd (tupI a) (tupI b) h = some (tupI (a ++ b), h) := by
  have := add_tups (a := a.map .int) (b := b.map .int) (by rw [List.length_map, List.length_map]; exact hz) h
  rw [← List.map_append] at this
  exact this
theorem wide_turn {b c : Nat} {h0 h : VH} (q0 : Hb b c h0) (kp : Keep b c h0 h) {R : Nat} (hR : h0.length ≤ R) {r : List Int} (hz : r.length ≤ 1000) (cR : h[R]? = some (.lst (r.map .int))) (a3 a4 a5 a6 a7 a8 : Option D) :
    ∃ (v : Int) (h' : VH), WR B2_law_are_wide_right [some (.ref b), some (.int WIDE), some (.ref R), a3, a4, a5, a6, a7, a8] h = .ok (.nx, [some (.ref b), some (.int WIDE), some (.ref R), a3, a4, a5, a6, a7, a8], h') ∧ Keep b c h0 h' ∧ h'[R]? = some (.lst ((r ++ [v]).map .int)) := by
  obtain ⟨x, h1, e1, x0, x1, k1⟩ := s_draw kp.bag (n := 9) (by decide) (by decide)
  obtain ⟨y, h2, e2, y0, y1, k2⟩ := s_draw k1.bag (n := 1000000) (by decide) (by decide)
  have c2 : h2[R]? = some (.lst (r.map .int)) := Keep.cell q0 hR (k1.trans k2) cR
  have ty := tyL_of (lk_of cR)
  have ty2 := tyL_of (lk_of c2)
  have mi := fun h => dMul_i (h := h) (i := x - 4) (j := WIDE) (by
    unfold mulOk
    rw [decide_eq_true (⟨by omega, by omega⟩ : -(2 ^ 64) < x - 4 ∧ x - 4 < 2 ^ 64)]
    rfl)
  have p6 := pow6 h1
  have ap := mAppend_of (d := .int ((x - 4) * WIDE + y)) c2 (by rw [List.length_map]; omega)
  have em : r.map D.int ++ [D.int ((x - 4) * WIDE + y)] = (r ++ [(x - 4) * WIDE + y]).map D.int := by simp
  rw [em] at ap
  have bl := q0.b_lt
  have cl := q0.c_lt
  refine ⟨(x - 4) * WIDE + y, h2.set R (.lst ((r ++ [(x - 4) * WIDE + y]).map .int)), ?_, ((kp.trans k1).trans k2).set hR (by omega) (by omega), List.getElem?_set_self (lt_of_get c2)⟩
  generalize (r ++ [(x - 4) * WIDE + y]).map D.int = u at *
  generalize WIDE = ww at *
  generalize hv : (x - 4) * ww = v1 at *
  simp -implicitDefEqProofs [WR, B2_law_are_wide_right, ty, ty2, e1, mi, p6, e2, ap]
theorem s_own {n : Nat} (row : List Int) (hz : row.length ≤ 1000) (a0 a1 a2 a3 a4 a5 a6 a8 : Option D) (h : VH) :
    ∃ (a8' : Option D) (h' : VH), WR B1_law_are_wide_right [a0, a1, a2, a3, a4, a5, a6, some (tupI row), a8] h = .ok (.nx, [a0, a1, a2, a3, a4, a5, a6, some (tupI row), a8'], h') ∧ Grow h h' := by
  obtain ⟨h1, e1, g1⟩ := x_law_ascends (row := row) (by omega) h
  obtain ⟨h2, e2, g2⟩ := x_ascending (row := row) (by omega) h1
  have e2 : F_is_ascending [tupI row] h1 = .ok (.bl (ascB row), h2) := e2
  obtain ⟨h3, e3, g3⟩ := x_ascending (row := row) (by omega) h2
  have e3 : F_is_ascending [tupI row] h2 = .ok (.bl (ascB row), h3) := e3
  obtain ⟨h4, eh4⟩ : ∃ h4, h4 = h3 ++ [.lst [.bl (ascB row), .bl (ascB row)]] := ⟨_, rfl⟩
  obtain ⟨h5, eh5⟩ : ∃ h5, h5 = h4 ++ [.lst [.bl (ascB row), .bl (ascB row)]] := ⟨_, rfl⟩
  have r4 := repr_bs (h := h4) (m := h3.length) (l := [ascB row, ascB row]) (by rw [eh4]; exact lk_at _ _ []) (by simp)
  have r5 := repr_bs (h := h5) (m := h4.length) (l := [ascB row, ascB row]) (by rw [eh5]; exact lk_at _ _ []) (by simp)
  have eh4' := eh4.symm
  have eh5' := eh5.symm
  refine ⟨some (.bl (ascB row)), h5, ?_, by rw [eh5, eh4]; exact (((g1.trans g2).trans g3).app _).app _⟩
  generalize txtL ([ascB row, ascB row].map D.bl) = T at *
  generalize ascB row = g at *
  generalize tupI row = u at *
  simp -implicitDefEqProofs [WR, B1_law_are_wide_right, e1, e2, e3, eh4', r4, eh5', r5]
theorem s_wide_right {h : VH} {b c : Nat} (q : Hb b c h) : ∃ h', F_law_are_wide_right [.ref b] h = .ok (.bl true, h') ∧ Keep b c h h' := by
  obtain ⟨h1, eh1⟩ : ∃ h1, h1 = h ++ [.lst []] := ⟨_, rfl⟩
  have k1 : Keep b c h h1 := by rw [eh1]; exact q.keep _
  have c1 : h1[h.length]? = some (.lst (([] : List Int).map .int)) := by rw [eh1]; exact cell_at _ _
  have eS4 : WR S4_law_are_wide_right [some (.ref b), none, none, none, none, none, none, none, none] h = .ok (.nx, [some (.ref b), some (.int WIDE), some (.ref h.length), none, none, none, none, none, none], h1) := by
    have p60 := pow60 h
    have pw := powWide h
    generalize WIDE = ww at *
    generalize P60 = pp at *
    simp -implicitDefEqProofs [WR, S4_law_are_wide_right, p60, pw, eh1]
  obtain ⟨m, h2, e2, m1, k2⟩ := draw_nat k1.bag (m := 121) (by decide) (by decide)
  have hit : (vRng1 (vCons (vCall 2 F_law_draw (vCons (vVar 0) (vCons (vC (.int 121)) vNil))) vNil)) [some (.ref b), some (.int WIDE), some (.ref h.length), none, none, none, none, none, none] h1 = .ok (fun _ => some (rangeD 0 1 (m : Int).toNat), h2) := vRng1_of (by simp [e2]) (inRng_small (by omega) (by omega))
  rw [Int.toNat_natCast] at hit
  obtain ⟨s', h3, eL20, ⟨a3, rfl⟩, r, k3, c3, zr⟩ := for_all (g := gP (pN 3)) (body := WR B2_law_are_wide_right) (fun k s h' => (∃ a3, s = [some (.ref b), some (.int WIDE), some (.ref h.length), a3, none, none, none, none, none]) ∧ ∃ r : List Int, Keep b c h h' ∧ h'[h.length]? = some (.lst (r.map .int)) ∧ r.length = k) hit (fun _ _ _ _ => rfl) ⟨⟨_, rfl⟩, [], k1.trans k2, Keep.cell q (Nat.le_refl _) k2 c1, rfl⟩ (by
    rintro k d s h' ed ⟨⟨a3, rfl⟩, r, kp, cR, lr⟩
    obtain ⟨hk, rfl⟩ := rng_get ed
    obtain ⟨v, h3, e, k3, c3⟩ := wide_turn q kp (Nat.le_refl _) (by omega) cR (some (.int ((0 : Int) + (k : Nat)))) none none none none none
    exact ⟨_, h3, .inl (by rw [turn_N]; exact e), ⟨_, rfl⟩, r ++ [v], k3, c3, by rw [List.length_append, List.length_singleton, lr]⟩)
  have eL2 : WR L2_law_are_wide_right [some (.ref b), some (.int WIDE), some (.ref h.length), none, none, none, none, none, none] h1 = _ := eL20
  rw [show (rangeD 0 1 m).length = m from rangeD_length ..] at zr
  have l3 := lk_of c3
  have so := bSorted_I l3
  obtain ⟨wide, hwide⟩ : ∃ wide, wide = srtI r := ⟨_, rfl⟩
  have lw : wide.length = m := by rw [hwide, (srtI_perm r).length_eq, zr]
  rw [← hwide] at so
  obtain ⟨h4, eh4⟩ : ∃ h4, h4 = h3 ++ [.lst (wide.map .int)] := ⟨_, rfl⟩
  rw [← eh4] at so
  have l4 : lk h4 h3.length = some (wide.map .int) := by rw [eh4]; exact lk_at _ _ []
  have k4 : Keep b c h h4 := by rw [eh4]; exact k3.app _
  have eS3 : WR S3_law_are_wide_right [some (.ref b), some (.int WIDE), some (.ref h.length), a3, none, none, none, none, none] h3 = .ok (.nx, [some (.ref b), some (.int WIDE), some (.ref h.length), a3, some (tupI wide), none, none, none, none], h4) := by
    have ft : tupI wide = .tup (wide.map .int) := rfl
    rw [ft]
    generalize wide.map D.int = u at *
    simp -implicitDefEqProofs [WR, S3_law_are_wide_right, so, l4]
  have c4 : h4[h.length]? = some (.lst (r.map .int)) := by rw [eh4]; exact get_at c3
  obtain ⟨h5, eh5⟩ : ∃ h5, h5 = h4 ++ [.lst []] := ⟨_, rfl⟩
  have c5 : h5[h.length]? = some (.lst (r.map .int)) := by rw [eh5]; exact get_at c4
  have k5 : Keep b c h h5 := by rw [eh5]; exact k4.app _
  have ne := eqLp (α := Int) (by decide) true (h := h5) (n := h.length) (m := h4.length) (a := r) (b := []) (lk_of c5) (by rw [eh5]; exact lk_at _ _ [])
  have ne : dNe (.ref h.length) (.ref h4.length) h5 = some (.bl (!decide (r = [])), h5) := ne
  obtain ⟨at', h6, eS2, k6, c6⟩ : ∃ (at' : Nat) (h6 : VH), WR S2_law_are_wide_right [some (.ref b), some (.int WIDE), some (.ref h.length), a3, some (tupI wide), none, none, none, none] h4 = .ok (.nx, [some (.ref b), some (.int WIDE), some (.ref h.length), a3, some (tupI wide), some (.int (at' : Int)), none, none, none], h6) ∧ Keep b c h h6 ∧ h6[h.length]? = some (.lst (r.map .int)) := by
    by_cases r0 : r = []
    · rw [decide_eq_true r0] at ne
      refine ⟨0, h5, ?_, k5, c5⟩
      have eh5' := eh5.symm
      simp -implicitDefEqProofs [WR, S2_law_are_wide_right, eh5', ne]
    · rw [decide_eq_false r0] at ne
      have rp : 0 < r.length := List.length_pos_iff.mpr r0
      obtain ⟨a, h6, e6, a6, k6⟩ := draw_nat k5.bag (m := (r.length : Int)) (by omega) (by omega)
      refine ⟨a, h6, ?_, k5.trans k6, Keep.cell q (Nat.le_refl _) k6 c5⟩
      have eh5' := eh5.symm
      have l5 := lk_of c5
      have le : (r.map D.int).length = r.length := by simp
      generalize r.map D.int = u at *
      rw [← le] at e6
      simp -implicitDefEqProofs [WR, S2_law_are_wide_right, eh5', ne, l5, e6]
  obtain ⟨c1', hc1⟩ : ∃ c, c = cutI wide none (some (at' : Int)) := ⟨_, rfl⟩
  obtain ⟨c2', hc2⟩ : ∃ c, c = cutI wide (some ((at' : Int) + 1)) (some ((at' : Int) + 2)) := ⟨_, rfl⟩
  obtain ⟨c3', hc3⟩ : ∃ c, c = cutI wide (some (at' : Int)) (some ((at' : Int) + 1)) := ⟨_, rfl⟩
  obtain ⟨c4', hc4⟩ : ∃ c, c = cutI wide (some ((at' : Int) + 2)) none := ⟨_, rfl⟩
  have z1 : c1'.length ≤ m := by rw [hc1, ← lw]; exact cutI_len _ _ _
  have z2 : c2'.length ≤ m := by rw [hc2, ← lw]; exact cutI_len _ _ _
  have z3 : c3'.length ≤ m := by rw [hc3, ← lw]; exact cutI_len _ _ _
  have z4 : c4'.length ≤ m := by rw [hc4, ← lw]; exact cutI_len _ _ _
  have q1 : ∀ h, slD (tupI wide) none (some (at' : Int)) h = some (tupI c1', h) := fun h => by
    rw [hc1]
    unfold tupI
    rw [← cutI_map]
    rfl
  have q2 : ∀ h, slD (tupI wide) (some ((at' : Int) + 1)) (some ((at' : Int) + 2)) h = some (tupI c2', h) := fun h => by
    rw [hc2]
    unfold tupI
    rw [← cutI_map]
    rfl
  have q3 : ∀ h, slD (tupI wide) (some (at' : Int)) (some ((at' : Int) + 1)) h = some (tupI c3', h) := fun h => by
    rw [hc3]
    unfold tupI
    rw [← cutI_map]
    rfl
  have q4 : ∀ h, slD (tupI wide) (some ((at' : Int) + 2)) none h = some (tupI c4', h) := fun h => by
    rw [hc4]
    unfold tupI
    rw [← cutI_map]
    rfl
  have t1 := add_ints (a := c1') (b := c2') (by omega) h6
  have t2 := add_ints (a := c1' ++ c2') (b := c3') (by rw [List.length_append]; omega) h6
  have t3 := add_ints (a := c1' ++ c2' ++ c3') (b := c4') (by rw [List.length_append, List.length_append]; omega) h6
  obtain ⟨bent, hbent⟩ : ∃ bent, bent = c1' ++ c2' ++ c3' ++ c4' := ⟨_, rfl⟩
  have zb : bent.length ≤ 1000 := by
    rw [hbent]
    simp only [List.length_append]
    omega
  rw [← hbent] at t3
  have eS1 : WR S1_law_are_wide_right [some (.ref b), some (.int WIDE), some (.ref h.length), a3, some (tupI wide), some (.int (at' : Int)), none, none, none] h6 = .ok (.nx, [some (.ref b), some (.int WIDE), some (.ref h.length), a3, some (tupI wide), some (.int (at' : Int)), some (tupI bent), none, none], h6) := by
    generalize tupI (c1' ++ c2' ++ c3') = u1 at *
    generalize tupI (c1' ++ c2') = u2 at *
    generalize tupI c1' = u3 at *
    generalize tupI c2' = u4 at *
    generalize tupI c3' = u5 at *
    generalize tupI c4' = u6 at *
    generalize tupI wide = u7 at *
    generalize tupI bent = u8 at *
    simp -implicitDefEqProofs [WR, S1_law_are_wide_right, q1, q2, q3, q4, t1, t2, t3]
  obtain ⟨xs, hxs⟩ : ∃ xs : List (List Int), xs = [wide, bent, r, [WIDE], [-WIDE - 1]] := ⟨_, rfl⟩
  obtain ⟨h7, eh7⟩ : ∃ h7, h7 = h6 ++ [.lst (xs.map tupI)] := ⟨_, rfl⟩
  have c7 : h7[h6.length]? = some (.lst (xs.map tupI)) := by rw [eh7]; exact cell_at _ _
  have l6 := lk_of c6
  have hit1 : (vIt (vLst (vCons (vVar 4) (vCons (vVar 6) (vCons (vBl bTup (vCons (vVar 2) vNil)) (vCons (vTup (vCons (vVar 1) vNil)) (vCons (vTup (vCons (vOp aSub (vUn uNeg (vVar 1)) (vC (.int 1))) vNil)) vNil))))))) [some (.ref b), some (.int WIDE), some (.ref h.length), a3, some (tupI wide), some (.int (at' : Int)), some (tupI bent), none, none] h6 = .ok (fun h => lk h h6.length, h7) := by
    refine vIt_ref ?_
    have ex : xs.map tupI = [tupI wide, tupI bent, .tup (r.map .int), .tup [.int WIDE], .tup [.int (-WIDE - 1)]] := by rw [hxs]; rfl
    rw [eh7, ex]
    generalize tupI wide = u1 at *
    generalize tupI bent = u2 at *
    generalize r.map D.int = u3 at *
    generalize WIDE = ww at *
    simp -implicitDefEqProofs [l6]
  obtain ⟨s', h8, eL10, ⟨a7, a8, rfl⟩, gL⟩ := for_all (g := gP (pN 7)) (body := WR B1_law_are_wide_right) (xs := xs.map tupI) (fun _ s h' => (∃ a7 a8, s = [some (.ref b), some (.int WIDE), some (.ref h.length), a3, some (tupI wide), some (.int (at' : Int)), some (tupI bent), a7, a8]) ∧ Grow h7 h') hit1 (fun _ _ h' I => I.2.lk (lk_of c7)) ⟨⟨_, _, rfl⟩, .refl _⟩ (by
    rintro k x s h' ed ⟨⟨a7, a8, rfl⟩, g⟩
    obtain ⟨o, ho, rfl⟩ := List.mem_map.mp (List.mem_of_getElem? ed)
    have zo : o.length ≤ 1000 := by
      rw [hxs] at ho
      simp only [List.mem_cons, List.not_mem_nil, or_false] at ho
      rcases ho with rfl | rfl | rfl | rfl | rfl
      · omega
      · exact zb
      · omega
      · simp
      · simp
    obtain ⟨a8', h2, e, g2⟩ := s_own (n := 0) o zo (some (.ref b)) (some (.int WIDE)) (some (.ref h.length)) a3 (some (tupI wide)) (some (.int (at' : Int))) (some (tupI bent)) a8 h'
    exact ⟨_, h2, .inl (by rw [turn_N]; exact e), ⟨_, _, rfl⟩, g.trans g2⟩)
  have eL1 : WR L1_law_are_wide_right [some (.ref b), some (.int WIDE), some (.ref h.length), a3, some (tupI wide), some (.int (at' : Int)), some (tupI bent), none, none] h6 = _ := eL10
  have g7 : Grow h6 h7 := by rw [eh7]; exact .new _ _
  refine ⟨h8, mF_rt (s' := [some (.ref b), some (.int WIDE), some (.ref h.length), a3, some (tupI wide), some (.int (at' : Int)), some (tupI bent), a7, a8]) ?_, k6.trans (k6.bag.grow (g7.trans gL))⟩
  show WR m_law_are_wide_right [some (.ref b), none, none, none, none, none, none, none, none] h = _
  simp only [WR] at *
  unfold m_law_are_wide_right
  rw [seq_nx eS4, seq_nx eL2, seq_nx eS3, seq_nx eS2, seq_nx eS1, seq_nx eL1]
  simp -implicitDefEqProofs
end K01

namespace K01
open PySem Vq
abbrev LW {α : Type} (f : Fn → Fn → Fn → Fn → Fn → Fn → Fn → Fn → Fn → Fn → Fn → α) : α := f F_law_are_wide_right F_law_are_rows_judged F_law_row F_law_pick F_law_is_great_run F_law_are_great_judged F_law_some_net F_law_draw F_law_are_nets_judged F_law_is_run_right F_law_own_bag
theorem law_turn {h : VH} {b c : Nat} (q : Hb b c h) {n : Nat} (hn : n ≤ 100) (a0 : D) : ∃ h', LW B1_law [some a0, some (.ref b), some (.int (n : Int))] h = .ok (.nx, [some a0, some (.ref b), some (.int (n : Int))], h') ∧ Keep b c h h' := by
  obtain ⟨n1, h1, e1, w1, z1, k1⟩ := s_some_net q (n := n) (by omega)
  obtain ⟨r1, h2, e2, l2, i2, k2⟩ := s_row k1.bag (n := n) (by omega)
  obtain ⟨h3, e3, g3⟩ := s_run_right (h := h2) hn w1 (by omega) l2 i2
  have k3 := k2.bag.grow g3
  obtain ⟨n4, h4, e4, w4, z4, k4⟩ := s_some_net k3.bag (n := n) (by omega)
  obtain ⟨r5, h5, e5, l5, i5, k5⟩ := s_row k4.bag (n := n) (by omega)
  obtain ⟨h6, e6, g6⟩ := s_run_right (h := h5) hn w4 (by omega) l5 i5
  refine ⟨h6, ?_, ((((k1.trans k2).trans k3).trans k4).trans k5).trans (k5.bag.grow g6)⟩
  simp -implicitDefEqProofs [LW, B1_law, e1, e2, e3, e4, e5, e6]
theorem bounds_same (h : VH) (a0 a1 a2 : Option D) : ∃ h', LW S6_law [a0, a1, a2] h = .ok (.nx, [a0, a1, a2], h') ∧ Grow h h' := by
  obtain ⟨l, hl⟩ : ∃ l : List Int, l = [10, 60, 500, 500, 1000000000000000000000000000000] := ⟨_, rfl⟩
  have lim : Lim l := ⟨by rw [hl]; decide +kernel⟩
  have lz : l.length ≤ 1000 := by rw [hl]; decide
  obtain ⟨h1, eh1⟩ : ∃ h1, h1 = h ++ [.lst (l.map .int)] := ⟨_, rfl⟩
  obtain ⟨h2, eh2⟩ : ∃ h2, h2 = h1 ++ [.lst (l.map .int)] := ⟨_, rfl⟩
  have r1 := repr_is (h := h1) (m := h.length) (l := l) (by rw [eh1]; exact lk_at _ _ []) lim lz
  have r2 := repr_is (h := h2) (m := h1.length) (l := l) (by rw [eh2]; exact lk_at _ _ []) lim lz
  have p30 : aPow (.int 10) (.int 30) h1 = some (.int 1000000000000000000000000000000, h1) := pow30 h1
  generalize txtL (l.map .int) = T at *
  have eh1' : h ++ [Cell.lst [.int 10, .int 60, .int 500, .int 500, .int 1000000000000000000000000000000]] = h1 := by rw [eh1, hl]; rfl
  have eh2' : h1 ++ [Cell.lst [.int 10, .int 60, .int 500, .int 500, .int 1000000000000000000000000000000]] = h2 := by rw [eh2, hl]; rfl
  refine ⟨h2, ?_, by rw [eh2, eh1]; exact (Grow.new _ _).app _⟩
  clear eh1 eh2 lim hl
  simp -implicitDefEqProofs [LW, S6_law, eh1', r1, p30, eh2', r2]
theorem law_true (ns : List Int) (hn : ns.length ≤ 63) : ∃ h', F_law [.ref 0] (scriptH ns) = .ok (.bl true, h') := by
  obtain ⟨b, c, h0, e0, q⟩ := s_own_bag ns hn
  have e0 : F_law_own_bag [.ref 0] (scriptH ns) = .ok (.ref b, h0) := e0
  have f7 : LW S7_law [some (.ref 0), none, none] (scriptH ns) = .ok (.nx, [some (.ref 0), some (.ref b), none], h0) := by
    simp -implicitDefEqProofs [LW, S7_law, e0]
  obtain ⟨h1, f6, g1⟩ := bounds_same h0 (some (.ref 0)) (some (.ref b)) none
  have k1 := q.grow g1
  obtain ⟨x, h2, e2, d2, k2⟩ := draw_nat k1.bag (m := 11) (by decide) (by decide)
  obtain ⟨y, h3, e3, d3, k3⟩ := draw_nat k2.bag (m := 9) (by decide) (by decide)
  obtain ⟨p, h4, e4, hp, k4⟩ := s_pickL k3.bag [.int 0, .int 1, .int 2, .int 10] (by simp) (by simp)
  have hp : ∃ k : Nat, p = .int (k : Int) ∧ k ≤ 10 := by
    simp only [List.mem_cons, List.not_mem_nil, or_false] at hp
    rcases hp with rfl | rfl | rfl | rfl
    · exact ⟨0, rfl, by omega⟩
    · exact ⟨1, rfl, by omega⟩
    · exact ⟨2, rfl, by omega⟩
    · exact ⟨10, rfl, by omega⟩
  obtain ⟨z, rfl, hz⟩ := hp
  obtain ⟨xs, hxs⟩ : ∃ xs : List D, xs = [.int (x : Int), .int (2 + (y : Int)), .int (z : Int)] := ⟨_, rfl⟩
  obtain ⟨h5, eh5⟩ : ∃ h5, h5 = h4 ++ [.lst xs] := ⟨_, rfl⟩
  have kk := ((k1.trans k2).trans k3).trans k4
  have k5 : Keep b c h0 h5 := by rw [eh5]; exact kk.app _
  have c5 : h5[h4.length]? = some (.lst xs) := by rw [eh5]; exact cell_at _ _
  have hit : (vIt (vLst (vCons (vCall 2 F_law_draw (vCons (vVar 1) (vCons (vC (.int 11)) vNil))) (vCons (vOp dAdd (vC (.int 2)) (vCall 2 F_law_draw (vCons (vVar 1) (vCons (vC (.int 9)) vNil)))) (vCons (vCall 2 F_law_pick (vCons (vVar 1) (vCons (vLst (vCons (vC (.int 0)) (vCons (vC (.int 1)) (vCons (vC (.int 2)) (vCons (vC (.int 10)) vNil))))) vNil))) vNil))))) [some (.ref 0), some (.ref b), none] h1 = .ok (fun h => lk h h4.length, h5) := by
    refine vIt_ref ?_
    rw [eh5, hxs]
    simp -implicitDefEqProofs [e2, e3, e4]
  obtain ⟨s', h6, eL0, ⟨n', rfl⟩, k6, _⟩ := for_all (g := gP (pN 2)) (body := LW B1_law) (xs := xs) (fun _ s h' => (∃ n, s = [some (.ref 0), some (.ref b), n]) ∧ Keep b c h0 h' ∧ h'[h4.length]? = some (.lst xs)) hit (fun _ _ h' I => lk_of I.2.2) ⟨⟨_, rfl⟩, k5, c5⟩ (by
    rintro k d s h' ed ⟨⟨n, rfl⟩, kp, cM⟩
    have hd : ∃ m : Nat, d = .int (m : Int) ∧ m ≤ 100 := by
      have := List.mem_of_getElem? ed
      rw [hxs] at this
      simp only [List.mem_cons, List.not_mem_nil, or_false] at this
      rcases this with rfl | rfl | rfl
      · exact ⟨x, rfl, by omega⟩
      · exact ⟨2 + y, rfl, by omega⟩
      · exact ⟨z, rfl, by omega⟩
    obtain ⟨m, rfl, hm⟩ := hd
    obtain ⟨h3, e, k3⟩ := law_turn kp.bag hm (.ref 0)
    exact ⟨_, h3, .inl (by rw [turn_N]; exact e), ⟨_, rfl⟩, kp.trans k3, Keep.cell q kk.le k3 cM⟩)
  have eL : LW L1_law [some (.ref 0), some (.ref b), none] h1 = _ := eL0
  obtain ⟨n5, h7, e7, d7, k7⟩ := draw_nat k6.bag (m := 11) (by decide) (by decide)
  have f5 : LW S5_law [some (.ref 0), some (.ref b), n'] h6 = .ok (.nx, [some (.ref 0), some (.ref b), some (.int (n5 : Int))], h7) := by
    simp -implicitDefEqProofs [LW, S5_law, e7]
  obtain ⟨n1, h8, e8, w8, z8, k8⟩ := s_some_net k7.bag (n := n5) (by omega)
  obtain ⟨h9, e9, k9⟩ := s_nets_judged k8.bag (n := n5) (by omega) w8 z8
  obtain ⟨r1, hA, eA, lA, iA, kA⟩ := s_row k9.bag (n := n5) (by omega)
  obtain ⟨hB, eB, kB⟩ := s_rows_judged kA.bag (n := n5) (by omega) lA iA
  have f4 : LW S4_law [some (.ref 0), some (.ref b), some (.int (n5 : Int))] h7 = .ok (.nx, [some (.ref 0), some (.ref b), some (.int (n5 : Int))], hB) := by
    simp -implicitDefEqProofs [LW, S4_law, e8, e9, eA, eB]
  obtain ⟨n3, hC, eC, dC, kC⟩ := draw_nat kB.bag (m := 9) (by decide) (by decide)
  obtain ⟨m3, hm3⟩ : ∃ m : Nat, (2 : Int) + (n3 : Int) = (m : Int) := ⟨2 + n3, by omega⟩
  have f3 : LW S3_law [some (.ref 0), some (.ref b), some (.int (n5 : Int))] hB = .ok (.nx, [some (.ref 0), some (.ref b), some (.int (m3 : Int))], hC) := by
    simp -implicitDefEqProofs [LW, S3_law, eC, hm3]
  obtain ⟨nD, hD, eD, wD, zD, kD⟩ := s_some_net kC.bag (n := m3) (by omega)
  obtain ⟨hE, eE, kE⟩ := s_great_judged kD.bag (n := m3) (by omega) (by omega) wD zD
  obtain ⟨hF, eF, kF⟩ := s_great_run kE.bag (n := m3) (by omega) (by omega)
  have f2 : LW S2_law [some (.ref 0), some (.ref b), some (.int (m3 : Int))] hC = .ok (.nx, [some (.ref 0), some (.ref b), some (.int (m3 : Int))], hF) := by
    simp -implicitDefEqProofs [LW, S2_law, eD, eE, eF]
  obtain ⟨p, hG, eG, hp, kG⟩ := s_pickL kF.bag [.int 1, .int 3, .int 10] (by simp) (by simp)
  have hp : ∃ k : Nat, p = .int (k : Int) ∧ k ≤ 10 := by
    simp only [List.mem_cons, List.not_mem_nil, or_false] at hp
    rcases hp with rfl | rfl | rfl
    · exact ⟨1, rfl, by omega⟩
    · exact ⟨3, rfl, by omega⟩
    · exact ⟨10, rfl, by omega⟩
  obtain ⟨u, rfl, hu⟩ := hp
  have f1 : LW S1_law [some (.ref 0), some (.ref b), some (.int (m3 : Int))] hF = .ok (.nx, [some (.ref 0), some (.ref b), some (.int (u : Int))], hG) := by
    simp -implicitDefEqProofs [LW, S1_law, eG]
  obtain ⟨rH, hH, eH, lH, iH, kH⟩ := s_row kG.bag (n := u) (by omega)
  obtain ⟨hI, eI, kI⟩ := s_rows_judged kH.bag (n := u) (by omega) lH iH
  obtain ⟨hJ, eJ, kJ⟩ := s_wide_right kI.bag
  refine ⟨hJ, ?_⟩
  unfold F_law
  refine mF_rt (s' := [some (.ref 0), some (.ref b), some (.int (u : Int))]) ?_
  show LW m_law [some (.ref 0), none, none] (scriptH ns) = _
  simp only [LW] at *
  unfold m_law
  rw [seq_nx f7, seq_nx f6, seq_nx eL, seq_nx f5, seq_nx f4, seq_nx f3, seq_nx f2, seq_nx f1]
  simp -implicitDefEqProofs [eH, eI, eJ]
end K01

namespace K01
open PySem PySem.Spec PyProof.Rows L2 Vq
theorem all_mk {w : World} {K : PySem.W.Frag} {h : Heap} {mg : Str → Option Value} {fa : Addr} (X : K.In h) (G : h.Ns mainGlobals mg) (hfa : mg "law" = some (.ref fa))
    {f0 f1 f2 f3 f4 f5 f6 f7 f8 f9 f10 f11 f12 f13 f14 f15 f16 f17 f18 f19 f20 f21 f22 f23 f24 f25 f26 f27 f28 f29 : Addr} {od0 od1 od2 od3 od4 od5 od6 od7 od8 od9 od10 od11 od12 od13 od14 od15 od16 od17 od18 od19 od20 od21 od22 od23 od24 od25 od26 od27 od28 od29 an0 an1 an2 an3 an4 an5 an6 an7 an8 an9 an10 an11 an12 an13 an14 an15 an16 an17 an18 an19 an20 an21 an22 an23 an24 an25 an26 an27 an28 an29 : Option Addr} {sl0 sl1 sl2 sl3 sl4 sl5 sl6 sl7 sl8 sl9 sl10 sl11 sl12 sl13 sl14 sl15 sl16 sl17 sl18 sl19 sl20 sl21 sl22 sl23 sl24 sl25 sl26 sl27 sl28 sl29 : Array (Option Value)} {oc0 kV0 dc0 pm0 cd0 ct0 oc1 kV1 dc1 pm1 cd1 ct1 oc2 kV2 dc2 pm2 cd2 ct2 oc3 kV3 dc3 pm3 cd3 ct3 oc4 kV4 dc4 pm4 cd4 ct4 oc5 kV5 dc5 pm5 cd5 ct5 oc6 kV6 dc6 pm6 cd6 ct6 oc7 kV7 dc7 pm7 cd7 ct7 oc8 kV8 dc8 pm8 cd8 ct8 oc9 kV9 dc9 pm9 cd9 ct9 oc10 kV10 dc10 pm10 cd10 ct10 oc11 kV11 dc11 pm11 cd11 ct11 oc12 kV12 dc12 pm12 cd12 ct12 oc13 kV13 dc13 pm13 cd13 ct13 oc14 kV14 dc14 pm14 cd14 ct14 oc15 kV15 dc15 pm15 cd15 ct15 oc16 kV16 dc16 pm16 cd16 ct16 oc17 kV17 dc17 pm17 cd17 ct17 oc18 kV18 dc18 pm18 cd18 ct18 oc19 kV19 dc19 pm19 cd19 ct19 oc20 kV20 dc20 pm20 cd20 ct20 oc21 kV21 dc21 pm21 cd21 ct21 oc22 kV22 dc22 pm22 cd22 ct22 oc23 kV23 dc23 pm23 cd23 ct23 oc24 kV24 dc24 pm24 cd24 ct24 oc25 kV25 dc25 pm25 cd25 ct25 oc26 kV26 dc26 pm26 cd26 ct26 oc27 kV27 dc27 pm27 cd27 ct27 oc28 kV28 dc28 pm28 cd28 ct28 oc29 kV29 dc29 pm29 cd29 ct29 : Value}
    (a0 : PySem.W.nsIn K mainGlobals "joined_nets" = some (some (.ref f0)))
    (l0 : K.lookup f0 = some ⟨oc0, od0, .func (PySem.W.fnOf "joined_nets" "joined_nets" (defArgs s_joined_nets) (defBody s_joined_nets) (defScope s_joined_nets) .none kV0 dc0 pm0 an0 cd0 ct0), sl0⟩)
    (c0 : PySem.W.codeIn K cd0 "joined_nets" = true) (k0 : PySem.W.keepIn K (.ref f0) = true)
    (a1 : PySem.W.nsIn K mainGlobals "is_number" = some (some (.ref f1)))
    (l1 : K.lookup f1 = some ⟨oc1, od1, .func (PySem.W.fnOf "is_number" "is_number" (defArgs s_is_number) (defBody s_is_number) (defScope s_is_number) .none kV1 dc1 pm1 an1 cd1 ct1), sl1⟩)
    (c1 : PySem.W.codeIn K cd1 "is_number" = true) (k1 : PySem.W.keepIn K (.ref f1) = true)
    (a2 : PySem.W.nsIn K mainGlobals "is_within" = some (some (.ref f2)))
    (l2 : K.lookup f2 = some ⟨oc2, od2, .func (PySem.W.fnOf "is_within" "is_within" (defArgs s_is_within) (defBody s_is_within) (defScope s_is_within) .none kV2 dc2 pm2 an2 cd2 ct2), sl2⟩)
    (c2 : PySem.W.codeIn K cd2 "is_within" = true) (k2 : PySem.W.keepIn K (.ref f2) = true)
    (a3 : PySem.W.nsIn K mainGlobals "is_comparator" = some (some (.ref f3)))
    (l3 : K.lookup f3 = some ⟨oc3, od3, .func (PySem.W.fnOf "is_comparator" "is_comparator" (defArgs s_is_comparator) (defBody s_is_comparator) (defScope s_is_comparator) .none kV3 dc3 pm3 an3 cd3 ct3), sl3⟩)
    (c3 : PySem.W.codeIn K cd3 "is_comparator" = true) (k3 : PySem.W.keepIn K (.ref f3) = true)
    (a4 : PySem.W.nsIn K mainGlobals "net_error" = some (some (.ref f4)))
    (l4 : K.lookup f4 = some ⟨oc4, od4, .func (PySem.W.fnOf "net_error" "net_error" (defArgs s_net_error) (defBody s_net_error) (defScope s_net_error) .none kV4 dc4 pm4 an4 cd4 ct4), sl4⟩)
    (c4 : PySem.W.codeIn K cd4 "net_error" = true) (k4 : PySem.W.keepIn K (.ref f4) = true)
    (a5 : PySem.W.nsIn K mainGlobals "row_error" = some (some (.ref f5)))
    (l5 : K.lookup f5 = some ⟨oc5, od5, .func (PySem.W.fnOf "row_error" "row_error" (defArgs s_row_error) (defBody s_row_error) (defScope s_row_error) .none kV5 dc5 pm5 an5 cd5 ct5), sl5⟩)
    (c5 : PySem.W.codeIn K cd5 "row_error" = true) (k5 : PySem.W.keepIn K (.ref f5) = true)
    (a6 : PySem.W.nsIn K mainGlobals "made_row" = some (some (.ref f6)))
    (l6 : K.lookup f6 = some ⟨oc6, od6, .func (PySem.W.fnOf "made_row" "made_row" (defArgs s_made_row) (defBody s_made_row) (defScope s_made_row) .none kV6 dc6 pm6 an6 cd6 ct6), sl6⟩)
    (c6 : PySem.W.codeIn K cd6 "made_row" = true) (k6 : PySem.W.keepIn K (.ref f6) = true)
    (a7 : PySem.W.nsIn K mainGlobals "is_ascending" = some (some (.ref f7)))
    (l7 : K.lookup f7 = some ⟨oc7, od7, .func (PySem.W.fnOf "is_ascending" "is_ascending" (defArgs s_is_ascending) (defBody s_is_ascending) (defScope s_is_ascending) .none kV7 dc7 pm7 an7 cd7 ct7), sl7⟩)
    (c7 : PySem.W.codeIn K cd7 "is_ascending" = true) (k7 : PySem.W.keepIn K (.ref f7) = true)
    (a8 : PySem.W.nsIn K mainGlobals "is_standard" = some (some (.ref f8)))
    (l8 : K.lookup f8 = some ⟨oc8, od8, .func (PySem.W.fnOf "is_standard" "is_standard" (defArgs s_is_standard) (defBody s_is_standard) (defScope s_is_standard) .none kV8 dc8 pm8 an8 cd8 ct8), sl8⟩)
    (c8 : PySem.W.codeIn K cd8 "is_standard" = true) (k8 : PySem.W.keepIn K (.ref f8) = true)
    (a9 : PySem.W.nsIn K mainGlobals "does_sort_row" = some (some (.ref f9)))
    (l9 : K.lookup f9 = some ⟨oc9, od9, .func (PySem.W.fnOf "does_sort_row" "does_sort_row" (defArgs s_does_sort_row) (defBody s_does_sort_row) (defScope s_does_sort_row) .none kV9 dc9 pm9 an9 cd9 ct9), sl9⟩)
    (c9 : PySem.W.codeIn K cd9 "does_sort_row" = true) (k9 : PySem.W.keepIn K (.ref f9) = true)
    (a10 : PySem.W.nsIn K mainGlobals "_law_own_bag" = some (some (.ref f10)))
    (l10 : K.lookup f10 = some ⟨oc10, od10, .func (PySem.W.fnOf "_law_own_bag" "_law_own_bag" (defArgs s_law_own_bag) (defBody s_law_own_bag) (defScope s_law_own_bag) .none kV10 dc10 pm10 an10 cd10 ct10), sl10⟩)
    (c10 : PySem.W.codeIn K cd10 "_law_own_bag" = true) (k10 : PySem.W.keepIn K (.ref f10) = true)
    (a11 : PySem.W.nsIn K mainGlobals "_law_draw" = some (some (.ref f11)))
    (l11 : K.lookup f11 = some ⟨oc11, od11, .func (PySem.W.fnOf "_law_draw" "_law_draw" (defArgs s_law_draw) (defBody s_law_draw) (defScope s_law_draw) .none kV11 dc11 pm11 an11 cd11 ct11), sl11⟩)
    (c11 : PySem.W.codeIn K cd11 "_law_draw" = true) (k11 : PySem.W.keepIn K (.ref f11) = true)
    (a12 : PySem.W.nsIn K mainGlobals "_law_pick" = some (some (.ref f12)))
    (l12 : K.lookup f12 = some ⟨oc12, od12, .func (PySem.W.fnOf "_law_pick" "_law_pick" (defArgs s_law_pick) (defBody s_law_pick) (defScope s_law_pick) .none kV12 dc12 pm12 an12 cd12 ct12), sl12⟩)
    (c12 : PySem.W.codeIn K cd12 "_law_pick" = true) (k12 : PySem.W.keepIn K (.ref f12) = true)
    (a13 : PySem.W.nsIn K mainGlobals "_law_pair" = some (some (.ref f13)))
    (l13 : K.lookup f13 = some ⟨oc13, od13, .func (PySem.W.fnOf "_law_pair" "_law_pair" (defArgs s_law_pair) (defBody s_law_pair) (defScope s_law_pair) .none kV13 dc13 pm13 an13 cd13 ct13), sl13⟩)
    (c13 : PySem.W.codeIn K cd13 "_law_pair" = true) (k13 : PySem.W.keepIn K (.ref f13) = true)
    (a14 : PySem.W.nsIn K mainGlobals "_law_great" = some (some (.ref f14)))
    (l14 : K.lookup f14 = some ⟨oc14, od14, .func (PySem.W.fnOf "_law_great" "_law_great" (defArgs s_law_great) (defBody s_law_great) (defScope s_law_great) .none kV14 dc14 pm14 an14 cd14 ct14), sl14⟩)
    (c14 : PySem.W.codeIn K cd14 "_law_great" = true) (k14 : PySem.W.keepIn K (.ref f14) = true)
    (a15 : PySem.W.nsIn K mainGlobals "_law_row" = some (some (.ref f15)))
    (l15 : K.lookup f15 = some ⟨oc15, od15, .func (PySem.W.fnOf "_law_row" "_law_row" (defArgs s_law_row) (defBody s_law_row) (defScope s_law_row) .none kV15 dc15 pm15 an15 cd15 ct15), sl15⟩)
    (c15 : PySem.W.codeIn K cd15 "_law_row" = true) (k15 : PySem.W.keepIn K (.ref f15) = true)
    (a16 : PySem.W.nsIn K mainGlobals "_law_made" = some (some (.ref f16)))
    (l16 : K.lookup f16 = some ⟨oc16, od16, .func (PySem.W.fnOf "_law_made" "_law_made" (defArgs s_law_made) (defBody s_law_made) (defScope s_law_made) .none kV16 dc16 pm16 an16 cd16 ct16), sl16⟩)
    (c16 : PySem.W.codeIn K cd16 "_law_made" = true) (k16 : PySem.W.keepIn K (.ref f16) = true)
    (a17 : PySem.W.nsIn K mainGlobals "_law_ascends" = some (some (.ref f17)))
    (l17 : K.lookup f17 = some ⟨oc17, od17, .func (PySem.W.fnOf "_law_ascends" "_law_ascends" (defArgs s_law_ascends) (defBody s_law_ascends) (defScope s_law_ascends) .none kV17 dc17 pm17 an17 cd17 ct17), sl17⟩)
    (c17 : PySem.W.codeIn K cd17 "_law_ascends" = true) (k17 : PySem.W.keepIn K (.ref f17) = true)
    (a18 : PySem.W.nsIn K mainGlobals "_law_net" = some (some (.ref f18)))
    (l18 : K.lookup f18 = some ⟨oc18, od18, .func (PySem.W.fnOf "_law_net" "_law_net" (defArgs s_law_net) (defBody s_law_net) (defScope s_law_net) .none kV18 dc18 pm18 an18 cd18 ct18), sl18⟩)
    (c18 : PySem.W.codeIn K cd18 "_law_net" = true) (k18 : PySem.W.keepIn K (.ref f18) = true)
    (a19 : PySem.W.nsIn K mainGlobals "_law_some_net" = some (some (.ref f19)))
    (l19 : K.lookup f19 = some ⟨oc19, od19, .func (PySem.W.fnOf "_law_some_net" "_law_some_net" (defArgs s_law_some_net) (defBody s_law_some_net) (defScope s_law_some_net) .none kV19 dc19 pm19 an19 cd19 ct19), sl19⟩)
    (c19 : PySem.W.codeIn K cd19 "_law_some_net" = true) (k19 : PySem.W.keepIn K (.ref f19) = true)
    (a20 : PySem.W.nsIn K mainGlobals "_law_is_run_right" = some (some (.ref f20)))
    (l20 : K.lookup f20 = some ⟨oc20, od20, .func (PySem.W.fnOf "_law_is_run_right" "_law_is_run_right" (defArgs s_law_is_run_right) (defBody s_law_is_run_right) (defScope s_law_is_run_right) .none kV20 dc20 pm20 an20 cd20 ct20), sl20⟩)
    (c20 : PySem.W.codeIn K cd20 "_law_is_run_right" = true) (k20 : PySem.W.keepIn K (.ref f20) = true)
    (a21 : PySem.W.nsIn K mainGlobals "_law_no_comparators" = some (some (.ref f21)))
    (l21 : K.lookup f21 = some ⟨oc21, od21, .func (PySem.W.fnOf "_law_no_comparators" "_law_no_comparators" (defArgs s_law_no_comparators) (defBody s_law_no_comparators) (defScope s_law_no_comparators) .none kV21 dc21 pm21 an21 cd21 ct21), sl21⟩)
    (c21 : PySem.W.codeIn K cd21 "_law_no_comparators" = true) (k21 : PySem.W.keepIn K (.ref f21) = true)
    (a22 : PySem.W.nsIn K mainGlobals "_law_is_net_error" = some (some (.ref f22)))
    (l22 : K.lookup f22 = some ⟨oc22, od22, .func (PySem.W.fnOf "_law_is_net_error" "_law_is_net_error" (defArgs s_law_is_net_error) (defBody s_law_is_net_error) (defScope s_law_is_net_error) .none kV22 dc22 pm22 an22 cd22 ct22), sl22⟩)
    (c22 : PySem.W.codeIn K cd22 "_law_is_net_error" = true) (k22 : PySem.W.keepIn K (.ref f22) = true)
    (a23 : PySem.W.nsIn K mainGlobals "_law_are_nets_judged" = some (some (.ref f23)))
    (l23 : K.lookup f23 = some ⟨oc23, od23, .func (PySem.W.fnOf "_law_are_nets_judged" "_law_are_nets_judged" (defArgs s_law_are_nets_judged) (defBody s_law_are_nets_judged) (defScope s_law_are_nets_judged) .none kV23 dc23 pm23 an23 cd23 ct23), sl23⟩)
    (c23 : PySem.W.codeIn K cd23 "_law_are_nets_judged" = true) (k23 : PySem.W.keepIn K (.ref f23) = true)
    (a24 : PySem.W.nsIn K mainGlobals "_law_are_great_judged" = some (some (.ref f24)))
    (l24 : K.lookup f24 = some ⟨oc24, od24, .func (PySem.W.fnOf "_law_are_great_judged" "_law_are_great_judged" (defArgs s_law_are_great_judged) (defBody s_law_are_great_judged) (defScope s_law_are_great_judged) .none kV24 dc24 pm24 an24 cd24 ct24), sl24⟩)
    (c24 : PySem.W.codeIn K cd24 "_law_are_great_judged" = true) (k24 : PySem.W.keepIn K (.ref f24) = true)
    (a25 : PySem.W.nsIn K mainGlobals "_law_is_row_error" = some (some (.ref f25)))
    (l25 : K.lookup f25 = some ⟨oc25, od25, .func (PySem.W.fnOf "_law_is_row_error" "_law_is_row_error" (defArgs s_law_is_row_error) (defBody s_law_is_row_error) (defScope s_law_is_row_error) .none kV25 dc25 pm25 an25 cd25 ct25), sl25⟩)
    (c25 : PySem.W.codeIn K cd25 "_law_is_row_error" = true) (k25 : PySem.W.keepIn K (.ref f25) = true)
    (a26 : PySem.W.nsIn K mainGlobals "_law_are_rows_judged" = some (some (.ref f26)))
    (l26 : K.lookup f26 = some ⟨oc26, od26, .func (PySem.W.fnOf "_law_are_rows_judged" "_law_are_rows_judged" (defArgs s_law_are_rows_judged) (defBody s_law_are_rows_judged) (defScope s_law_are_rows_judged) .none kV26 dc26 pm26 an26 cd26 ct26), sl26⟩)
    (c26 : PySem.W.codeIn K cd26 "_law_are_rows_judged" = true) (k26 : PySem.W.keepIn K (.ref f26) = true)
    (a27 : PySem.W.nsIn K mainGlobals "_law_is_great_run" = some (some (.ref f27)))
    (l27 : K.lookup f27 = some ⟨oc27, od27, .func (PySem.W.fnOf "_law_is_great_run" "_law_is_great_run" (defArgs s_law_is_great_run) (defBody s_law_is_great_run) (defScope s_law_is_great_run) .none kV27 dc27 pm27 an27 cd27 ct27), sl27⟩)
    (c27 : PySem.W.codeIn K cd27 "_law_is_great_run" = true) (k27 : PySem.W.keepIn K (.ref f27) = true)
    (a28 : PySem.W.nsIn K mainGlobals "_law_are_wide_right" = some (some (.ref f28)))
    (l28 : K.lookup f28 = some ⟨oc28, od28, .func (PySem.W.fnOf "_law_are_wide_right" "_law_are_wide_right" (defArgs s_law_are_wide_right) (defBody s_law_are_wide_right) (defScope s_law_are_wide_right) .none kV28 dc28 pm28 an28 cd28 ct28), sl28⟩)
    (c28 : PySem.W.codeIn K cd28 "_law_are_wide_right" = true) (k28 : PySem.W.keepIn K (.ref f28) = true)
    (a29 : PySem.W.nsIn K mainGlobals "law" = some (some (.ref f29)))
    (l29 : K.lookup f29 = some ⟨oc29, od29, .func (PySem.W.fnOf "law" "law" (defArgs s_law) (defBody s_law) (defScope s_law) .none kV29 dc29 pm29 an29 cd29 ct29), sl29⟩)
    (c29 : PySem.W.codeIn K cd29 "law" = true) (k29 : PySem.W.keepIn K (.ref f29) = true)
    (z_abs : PySem.W.nsIn K mainGlobals "abs" = some none)
    (z_all : PySem.W.nsIn K mainGlobals "all" = some none)
    (z_bool : PySem.W.nsIn K mainGlobals "bool" = some none)
    (z_enumerate : PySem.W.nsIn K mainGlobals "enumerate" = some none)
    (z_int : PySem.W.nsIn K mainGlobals "int" = some none)
    (z_isinstance : PySem.W.nsIn K mainGlobals "isinstance" = some none)
    (z_len : PySem.W.nsIn K mainGlobals "len" = some none)
    (z_list : PySem.W.nsIn K mainGlobals "list" = some none)
    (z_max : PySem.W.nsIn K mainGlobals "max" = some none)
    (z_min : PySem.W.nsIn K mainGlobals "min" = some none)
    (z_range : PySem.W.nsIn K mainGlobals "range" = some none)
    (z_repr : PySem.W.nsIn K mainGlobals "repr" = some none)
    (z_reversed : PySem.W.nsIn K mainGlobals "reversed" = some none)
    (z_sorted : PySem.W.nsIn K mainGlobals "sorted" = some none)
    (z_tuple : PySem.W.nsIn K mainGlobals "tuple" = some none)
    (z_zip : PySem.W.nsIn K mainGlobals "zip" = some none)
    {t_MAX_GREAT_NET : Tok} (y_MAX_GREAT_NET : PySem.W.nsIn K mainGlobals "MAX_GREAT_NET" = some (some (.int 500 t_MAX_GREAT_NET)))
    {t_MAX_NUMBER : Tok} (y_MAX_NUMBER : PySem.W.nsIn K mainGlobals "MAX_NUMBER" = some (some (.int 1000000000000000000000000000000 t_MAX_NUMBER)))
    {t_MAX_LISTED : Tok} (y_MAX_LISTED : PySem.W.nsIn K mainGlobals "MAX_LISTED" = some (some (.int 500 t_MAX_LISTED)))
    {t_MAX_NET : Tok} (y_MAX_NET : PySem.W.nsIn K mainGlobals "MAX_NET" = some (some (.int 60 t_MAX_NET)))
    {t_MAX_WIRES : Tok} (y_MAX_WIRES : PySem.W.nsIn K mainGlobals "MAX_WIRES" = some (some (.int 10 t_MAX_WIRES)))
    : ∃ fd : FuncData, (∀ u : Value, bindArgs fd ⟨[u], []⟩ = (pure [(("script" : Str), u)] : Sem _)) ∧ ∀ base : Heap, K.In base → base.Ns mainGlobals mg → SysIn base → FnG PySem.Challenge.pw_comparenets_k01_whole_judged_and_run w K mg base 7 fa fd ["script"] F_law := by
  have e := hfa.symm.trans (PySem.W.mg_of X G a29)
  cases e
  have h0 := fun_mk (st := s_joined_nets) l0 c0 k0
  have h1 := fun_mk (st := s_is_number) l1 c1 k1
  have h2 := fun_mk (st := s_is_within) l2 c2 k2
  have h3 := fun_mk (st := s_is_comparator) l3 c3 k3
  have h4 := fun_mk (st := s_net_error) l4 c4 k4
  have h5 := fun_mk (st := s_row_error) l5 c5 k5
  have h6 := fun_mk (st := s_made_row) l6 c6 k6
  have h7 := fun_mk (st := s_is_ascending) l7 c7 k7
  have h8 := fun_mk (st := s_is_standard) l8 c8 k8
  have h9 := fun_mk (st := s_does_sort_row) l9 c9 k9
  have h10 := fun_mk (st := s_law_own_bag) l10 c10 k10
  have h11 := fun_mk (st := s_law_draw) l11 c11 k11
  have h12 := fun_mk (st := s_law_pick) l12 c12 k12
  have h13 := fun_mk (st := s_law_pair) l13 c13 k13
  have h14 := fun_mk (st := s_law_great) l14 c14 k14
  have h15 := fun_mk (st := s_law_row) l15 c15 k15
  have h16 := fun_mk (st := s_law_made) l16 c16 k16
  have h17 := fun_mk (st := s_law_ascends) l17 c17 k17
  have h18 := fun_mk (st := s_law_net) l18 c18 k18
  have h19 := fun_mk (st := s_law_some_net) l19 c19 k19
  have h20 := fun_mk (st := s_law_is_run_right) l20 c20 k20
  have h21 := fun_mk (st := s_law_no_comparators) l21 c21 k21
  have h22 := fun_mk (st := s_law_is_net_error) l22 c22 k22
  have h23 := fun_mk (st := s_law_are_nets_judged) l23 c23 k23
  have h24 := fun_mk (st := s_law_are_great_judged) l24 c24 k24
  have h25 := fun_mk (st := s_law_is_row_error) l25 c25 k25
  have h26 := fun_mk (st := s_law_are_rows_judged) l26 c26 k26
  have h27 := fun_mk (st := s_law_is_great_run) l27 c27 k27
  have h28 := fun_mk (st := s_law_are_wide_right) l28 c28 k28
  have h29 := fun_mk (st := s_law) l29 c29 k29
  let T : Txt K mg := {
    a_joined_nets := f0
    d_joined_nets := _
    g_joined_nets := PySem.W.mg_of X G a0
    k_joined_nets := k0
    f_joined_nets := h0
    b_joined_nets := bindP_of h0 fun _ _ _ _ _ _ us hl => match us, hl with | [_, _], _ => rfl
    a_is_number := f1
    d_is_number := _
    g_is_number := PySem.W.mg_of X G a1
    k_is_number := k1
    f_is_number := h1
    b_is_number := bindP_of h1 fun _ _ _ _ _ _ us hl => match us, hl with | [_], _ => rfl
    a_is_within := f2
    d_is_within := _
    g_is_within := PySem.W.mg_of X G a2
    k_is_within := k2
    f_is_within := h2
    b_is_within := bindP_of h2 fun _ _ _ _ _ _ us hl => match us, hl with | [_, _, _], _ => rfl
    a_is_comparator := f3
    d_is_comparator := _
    g_is_comparator := PySem.W.mg_of X G a3
    k_is_comparator := k3
    f_is_comparator := h3
    b_is_comparator := bindP_of h3 fun _ _ _ _ _ _ us hl => match us, hl with | [_, _], _ => rfl
    a_net_error := f4
    d_net_error := _
    g_net_error := PySem.W.mg_of X G a4
    k_net_error := k4
    f_net_error := h4
    b_net_error := bindP_of h4 fun _ _ _ _ _ _ us hl => match us, hl with | [_, _], _ => rfl
    a_row_error := f5
    d_row_error := _
    g_row_error := PySem.W.mg_of X G a5
    k_row_error := k5
    f_row_error := h5
    b_row_error := bindP_of h5 fun _ _ _ _ _ _ us hl => match us, hl with | [_, _], _ => rfl
    a_made_row := f6
    d_made_row := _
    g_made_row := PySem.W.mg_of X G a6
    k_made_row := k6
    f_made_row := h6
    b_made_row := bindP_of h6 fun _ _ _ _ _ _ us hl => match us, hl with | [_, _], _ => rfl
    a_is_ascending := f7
    d_is_ascending := _
    g_is_ascending := PySem.W.mg_of X G a7
    k_is_ascending := k7
    f_is_ascending := h7
    b_is_ascending := bindP_of h7 fun _ _ _ _ _ _ us hl => match us, hl with | [_], _ => rfl
    a_is_standard := f8
    d_is_standard := _
    g_is_standard := PySem.W.mg_of X G a8
    k_is_standard := k8
    f_is_standard := h8
    b_is_standard := bindP_of h8 fun _ _ _ _ _ _ us hl => match us, hl with | [_], _ => rfl
    a_does_sort_row := f9
    d_does_sort_row := _
    g_does_sort_row := PySem.W.mg_of X G a9
    k_does_sort_row := k9
    f_does_sort_row := h9
    b_does_sort_row := bindP_of h9 fun _ _ _ _ _ _ us hl => match us, hl with | [_, _], _ => rfl
    a_law_own_bag := f10
    d_law_own_bag := _
    g_law_own_bag := PySem.W.mg_of X G a10
    k_law_own_bag := k10
    f_law_own_bag := h10
    b_law_own_bag := bindP_of h10 fun _ _ _ _ _ _ us hl => match us, hl with | [_], _ => rfl
    a_law_draw := f11
    d_law_draw := _
    g_law_draw := PySem.W.mg_of X G a11
    k_law_draw := k11
    f_law_draw := h11
    b_law_draw := bindP_of h11 fun _ _ _ _ _ _ us hl => match us, hl with | [_, _], _ => rfl
    a_law_pick := f12
    d_law_pick := _
    g_law_pick := PySem.W.mg_of X G a12
    k_law_pick := k12
    f_law_pick := h12
    b_law_pick := bindP_of h12 fun _ _ _ _ _ _ us hl => match us, hl with | [_, _], _ => rfl
    a_law_pair := f13
    d_law_pair := _
    g_law_pair := PySem.W.mg_of X G a13
    k_law_pair := k13
    f_law_pair := h13
    b_law_pair := bindP_of h13 fun _ _ _ _ _ _ us hl => match us, hl with | [_, _], _ => rfl
    a_law_great := f14
    d_law_great := _
    g_law_great := PySem.W.mg_of X G a14
    k_law_great := k14
    f_law_great := h14
    b_law_great := bindP_of h14 fun _ _ _ _ _ _ us hl => match us, hl with | [_], _ => rfl
    a_law_row := f15
    d_law_row := _
    g_law_row := PySem.W.mg_of X G a15
    k_law_row := k15
    f_law_row := h15
    b_law_row := bindP_of h15 fun _ _ _ _ _ _ us hl => match us, hl with | [_, _], _ => rfl
    a_law_made := f16
    d_law_made := _
    g_law_made := PySem.W.mg_of X G a16
    k_law_made := k16
    f_law_made := h16
    b_law_made := bindP_of h16 fun _ _ _ _ _ _ us hl => match us, hl with | [_, _], _ => rfl
    a_law_ascends := f17
    d_law_ascends := _
    g_law_ascends := PySem.W.mg_of X G a17
    k_law_ascends := k17
    f_law_ascends := h17
    b_law_ascends := bindP_of h17 fun _ _ _ _ _ _ us hl => match us, hl with | [_], _ => rfl
    a_law_net := f18
    d_law_net := _
    g_law_net := PySem.W.mg_of X G a18
    k_law_net := k18
    f_law_net := h18
    b_law_net := bindP_of h18 fun _ _ _ _ _ _ us hl => match us, hl with | [_, _, _, _], _ => rfl
    a_law_some_net := f19
    d_law_some_net := _
    g_law_some_net := PySem.W.mg_of X G a19
    k_law_some_net := k19
    f_law_some_net := h19
    b_law_some_net := bindP_of h19 fun _ _ _ _ _ _ us hl => match us, hl with | [_, _], _ => rfl
    a_law_is_run_right := f20
    d_law_is_run_right := _
    g_law_is_run_right := PySem.W.mg_of X G a20
    k_law_is_run_right := k20
    f_law_is_run_right := h20
    b_law_is_run_right := bindP_of h20 fun _ _ _ _ _ _ us hl => match us, hl with | [_, _, _], _ => rfl
    a_law_no_comparators := f21
    d_law_no_comparators := _
    g_law_no_comparators := PySem.W.mg_of X G a21
    k_law_no_comparators := k21
    f_law_no_comparators := h21
    b_law_no_comparators := bindP_of h21 fun _ _ _ _ _ _ us hl => match us, hl with | [_], _ => rfl
    a_law_is_net_error := f22
    d_law_is_net_error := _
    g_law_is_net_error := PySem.W.mg_of X G a22
    k_law_is_net_error := k22
    f_law_is_net_error := h22
    b_law_is_net_error := bindP_of h22 fun _ _ _ _ _ _ us hl => match us, hl with | [_, _, _], _ => rfl
    a_law_are_nets_judged := f23
    d_law_are_nets_judged := _
    g_law_are_nets_judged := PySem.W.mg_of X G a23
    k_law_are_nets_judged := k23
    f_law_are_nets_judged := h23
    b_law_are_nets_judged := bindP_of h23 fun _ _ _ _ _ _ us hl => match us, hl with | [_, _, _], _ => rfl
    a_law_are_great_judged := f24
    d_law_are_great_judged := _
    g_law_are_great_judged := PySem.W.mg_of X G a24
    k_law_are_great_judged := k24
    f_law_are_great_judged := h24
    b_law_are_great_judged := bindP_of h24 fun _ _ _ _ _ _ us hl => match us, hl with | [_, _, _], _ => rfl
    a_law_is_row_error := f25
    d_law_is_row_error := _
    g_law_is_row_error := PySem.W.mg_of X G a25
    k_law_is_row_error := k25
    f_law_is_row_error := h25
    b_law_is_row_error := bindP_of h25 fun _ _ _ _ _ _ us hl => match us, hl with | [_, _, _], _ => rfl
    a_law_are_rows_judged := f26
    d_law_are_rows_judged := _
    g_law_are_rows_judged := PySem.W.mg_of X G a26
    k_law_are_rows_judged := k26
    f_law_are_rows_judged := h26
    b_law_are_rows_judged := bindP_of h26 fun _ _ _ _ _ _ us hl => match us, hl with | [_, _, _], _ => rfl
    a_law_is_great_run := f27
    d_law_is_great_run := _
    g_law_is_great_run := PySem.W.mg_of X G a27
    k_law_is_great_run := k27
    f_law_is_great_run := h27
    b_law_is_great_run := bindP_of h27 fun _ _ _ _ _ _ us hl => match us, hl with | [_, _], _ => rfl
    a_law_are_wide_right := f28
    d_law_are_wide_right := _
    g_law_are_wide_right := PySem.W.mg_of X G a28
    k_law_are_wide_right := k28
    f_law_are_wide_right := h28
    b_law_are_wide_right := bindP_of h28 fun _ _ _ _ _ _ us hl => match us, hl with | [_], _ => rfl
    a_law := fa
    d_law := _
    g_law := PySem.W.mg_of X G a29
    k_law := k29
    f_law := h29
    b_law := bindP_of h29 fun _ _ _ _ _ _ us hl => match us, hl with | [_], _ => rfl
    n_abs := PySem.W.mg_none_of X G z_abs
    n_all := PySem.W.mg_none_of X G z_all
    n_bool := PySem.W.mg_none_of X G z_bool
    n_enumerate := PySem.W.mg_none_of X G z_enumerate
    n_int := PySem.W.mg_none_of X G z_int
    n_isinstance := PySem.W.mg_none_of X G z_isinstance
    n_len := PySem.W.mg_none_of X G z_len
    n_list := PySem.W.mg_none_of X G z_list
    n_max := PySem.W.mg_none_of X G z_max
    n_min := PySem.W.mg_none_of X G z_min
    n_range := PySem.W.mg_none_of X G z_range
    n_repr := PySem.W.mg_none_of X G z_repr
    n_reversed := PySem.W.mg_none_of X G z_reversed
    n_sorted := PySem.W.mg_none_of X G z_sorted
    n_tuple := PySem.W.mg_none_of X G z_tuple
    n_zip := PySem.W.mg_none_of X G z_zip
    c_MAX_GREAT_NET := ⟨_, PySem.W.mg_of X G y_MAX_GREAT_NET⟩
    c_MAX_NUMBER := ⟨_, PySem.W.mg_of X G y_MAX_NUMBER⟩
    c_MAX_LISTED := ⟨_, PySem.W.mg_of X G y_MAX_LISTED⟩
    c_MAX_NET := ⟨_, PySem.W.mg_of X G y_MAX_NET⟩
    c_MAX_WIRES := ⟨_, PySem.W.mg_of X G y_MAX_WIRES⟩
  }
  exact ⟨T.d_law, fun u => rfl, fun base _ _ hs => haveI := hs; chain (base := base) T⟩
end K01
open PySem PySem.W PyProof.Rows
set_option maxHeartbeats 0 in
theorem PySem.Challenge.cw_comparenets_k01_whole_judged_and_run_holds : PySem.Challenge.rw_comparenets_k01_whole_judged_and_run.Holds := by
  w_on; o_law; k_head; (case hw => w_witness2)
  k_fill
  refine Vq.walkG (l := PySem.Challenge.rw_comparenets_k01_whole_judged_and_run) (n := 63) (k := 7) (x := "script") (F := K01.F_law) rfl (by decide) rfl ⟨rfl, by decide, by decide⟩ (fun w h Y => PySem.W.kIn_of Y) ?G (fun ns hl => K01.law_true ns hl) (by decide +kernel)
  case G =>
    intro w mg fa h KX G hmg
    refine' K01.all_mk KX G hmg ?a0 ?l0 ?c0 ?k0 ?a1 ?l1 ?c1 ?k1 ?a2 ?l2 ?c2 ?k2 ?a3 ?l3 ?c3 ?k3 ?a4 ?l4 ?c4 ?k4 ?a5 ?l5 ?c5 ?k5 ?a6 ?l6 ?c6 ?k6 ?a7 ?l7 ?c7 ?k7 ?a8 ?l8 ?c8 ?k8 ?a9 ?l9 ?c9 ?k9 ?a10 ?l10 ?c10 ?k10 ?a11 ?l11 ?c11 ?k11 ?a12 ?l12 ?c12 ?k12 ?a13 ?l13 ?c13 ?k13 ?a14 ?l14 ?c14 ?k14 ?a15 ?l15 ?c15 ?k15 ?a16 ?l16 ?c16 ?k16 ?a17 ?l17 ?c17 ?k17 ?a18 ?l18 ?c18 ?k18 ?a19 ?l19 ?c19 ?k19 ?a20 ?l20 ?c20 ?k20 ?a21 ?l21 ?c21 ?k21 ?a22 ?l22 ?c22 ?k22 ?a23 ?l23 ?c23 ?k23 ?a24 ?l24 ?c24 ?k24 ?a25 ?l25 ?c25 ?k25 ?a26 ?l26 ?c26 ?k26 ?a27 ?l27 ?c27 ?k27 ?a28 ?l28 ?c28 ?k28 ?a29 ?l29 ?c29 ?k29 ?z_abs ?z_all ?z_bool ?z_enumerate ?z_int ?z_isinstance ?z_len ?z_list ?z_max ?z_min ?z_range ?z_repr ?z_reversed ?z_sorted ?z_tuple ?z_zip ?y_MAX_GREAT_NET ?y_MAX_NUMBER ?y_MAX_LISTED ?y_MAX_NET ?y_MAX_WIRES
    (case a0 => k_is)
    (case l0 => k_is)
    (case c0 => k_is)
    (case k0 => k_is)
    (case a1 => k_is)
    (case l1 => k_is)
    (case c1 => k_is)
    (case k1 => k_is)
    (case a2 => k_is)
    (case l2 => k_is)
    (case c2 => k_is)
    (case k2 => k_is)
    (case a3 => k_is)
    (case l3 => k_is)
    (case c3 => k_is)
    (case k3 => k_is)
    (case a4 => k_is)
    (case l4 => k_is)
    (case c4 => k_is)
    (case k4 => k_is)
    (case a5 => k_is)
    (case l5 => k_is)
    (case c5 => k_is)
    (case k5 => k_is)
    (case a6 => k_is)
    (case l6 => k_is)
    (case c6 => k_is)
    (case k6 => k_is)
    (case a7 => k_is)
    (case l7 => k_is)
    (case c7 => k_is)
    (case k7 => k_is)
    (case a8 => k_is)
    (case l8 => k_is)
    (case c8 => k_is)
    (case k8 => k_is)
    (case a9 => k_is)
    (case l9 => k_is)
    (case c9 => k_is)
    (case k9 => k_is)
    (case a10 => k_is)
    (case l10 => k_is)
    (case c10 => k_is)
    (case k10 => k_is)
    (case a11 => k_is)
    (case l11 => k_is)
    (case c11 => k_is)
    (case k11 => k_is)
    (case a12 => k_is)
    (case l12 => k_is)
    (case c12 => k_is)
    (case k12 => k_is)
    (case a13 => k_is)
    (case l13 => k_is)
    (case c13 => k_is)
    (case k13 => k_is)
    (case a14 => k_is)
    (case l14 => k_is)
    (case c14 => k_is)
    (case k14 => k_is)
    (case a15 => k_is)
    (case l15 => k_is)
    (case c15 => k_is)
    (case k15 => k_is)
    (case a16 => k_is)
    (case l16 => k_is)
    (case c16 => k_is)
    (case k16 => k_is)
    (case a17 => k_is)
    (case l17 => k_is)
    (case c17 => k_is)
    (case k17 => k_is)
    (case a18 => k_is)
    (case l18 => k_is)
    (case c18 => k_is)
    (case k18 => k_is)
    (case a19 => k_is)
    (case l19 => k_is)
    (case c19 => k_is)
    (case k19 => k_is)
    (case a20 => k_is)
    (case l20 => k_is)
    (case c20 => k_is)
    (case k20 => k_is)
    (case a21 => k_is)
    (case l21 => k_is)
    (case c21 => k_is)
    (case k21 => k_is)
    (case a22 => k_is)
    (case l22 => k_is)
    (case c22 => k_is)
    (case k22 => k_is)
    (case a23 => k_is)
    (case l23 => k_is)
    (case c23 => k_is)
    (case k23 => k_is)
    (case a24 => k_is)
    (case l24 => k_is)
    (case c24 => k_is)
    (case k24 => k_is)
    (case a25 => k_is)
    (case l25 => k_is)
    (case c25 => k_is)
    (case k25 => k_is)
    (case a26 => k_is)
    (case l26 => k_is)
    (case c26 => k_is)
    (case k26 => k_is)
    (case a27 => k_is)
    (case l27 => k_is)
    (case c27 => k_is)
    (case k27 => k_is)
    (case a28 => k_is)
    (case l28 => k_is)
    (case c28 => k_is)
    (case k28 => k_is)
    (case a29 => k_is)
    (case l29 => k_is)
    (case c29 => k_is)
    (case k29 => k_is)
    (case z_abs => k_is)
    (case z_all => k_is)
    (case z_bool => k_is)
    (case z_enumerate => k_is)
    (case z_int => k_is)
    (case z_isinstance => k_is)
    (case z_len => k_is)
    (case z_list => k_is)
    (case z_max => k_is)
    (case z_min => k_is)
    (case z_range => k_is)
    (case z_repr => k_is)
    (case z_reversed => k_is)
    (case z_sorted => k_is)
    (case z_tuple => k_is)
    (case z_zip => k_is)
    (case y_MAX_GREAT_NET => k_is)
    (case y_MAX_NUMBER => k_is)
    (case y_MAX_LISTED => k_is)
    (case y_MAX_NET => k_is)
    (case y_MAX_WIRES => k_is)

