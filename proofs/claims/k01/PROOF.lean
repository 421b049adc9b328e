import PyProof.Rows.All
import HandS.ForMost
import HandS.Walk
import HandS.IsInst
import HandS.Conv
import HandS.Style
import HandS.Strs
import HandS.SetBool
import HandS.Wide
import HandS.TupAny
import KE.KSortedM
import KE.GoesMore
import HandS.Ends
import HandS.Words
import PySem.Challenge.RW_whoevercomesfirst_k01_clashes_facts
set_option Elab.async false
set_option linter.all false
set_option maxRecDepth 100000
set_option autoImplicit false
namespace Mi
open PySem PySem.Spec L2
abbrev Slots := L2.St

/-- a value of the small language; lst: a list that is never changed again; scr: the script; ref: an object of the store -/
inductive M where
  | non | bl (b : Bool) | int (i : Int) | str (s : Str) | tup (l : List M) | lst (l : List M) | scr (l : List Int) | ref (n : Nat)

/-- an object of the store -/
inductive O where
  | lst (l : List M)

abbrev Store := List O
abbrev Env := List (Option M)

/-- the script's list: as it stood at the start, or a written constant -/
def SqF (K : PySem.W.Frag) (H : Hp) (a : Addr) (xs : List V) : Prop := (∃ o, H a = some (.frz o (.lst xs))) ∨ SqL K (fun _ => none) a xs
theorem SqF.seq {K : PySem.W.Frag} {H : Hp} {a : Addr} {xs : List V} (h : SqF K H a xs) : SqL K H a xs := by
  rcases h with h | (h | ⟨o, h⟩) | h
  · exact .inl (.inr h)
  · cases h
  · cases h
  · exact .inr h
mutual
def Rep (K : PySem.W.Frag) (Z α : List Addr) (H : Hp) : M → V → Prop
  | .non, v => v = .non
  | .bl b, v => v = .bl b
  | .int i, v => v = .int i
  | .str s, v => v = .str s
  | .scr ns, v => ∃ a, v = .ref a ∧ SqF K H a (ns.map V.int)
  | .ref n, v => ∃ a, α[n]? = some a ∧ v = .ref a
  | .tup ms, v => ∃ a xs, v = .ref a ∧ SqT K H a xs ∧ RepL K Z α H ms xs
  | .lst ms, v => ∃ a xs, v = .ref a ∧ H a = some (.lst xs) ∧ (a ∉ α ∧ a ∉ Z) ∧ RepL K Z α H ms xs
def RepL (K : PySem.W.Frag) (Z α : List Addr) (H : Hp) : List M → List V → Prop
  | [], xs => xs = []
  | m :: ms, xs => ∃ x r, xs = x :: r ∧ Rep K Z α H m x ∧ RepL K Z α H ms r
end
/-- the kinds of objects that a store's object may be -/
def MutO : HO → Prop
  | .lst _ => True
  | .dK _ => True
  | .dT _ => True
  | .ins _ _ _ => True
  | _ => False
def ObjR (K : PySem.W.Frag) (Z α : List Addr) (H : Hp) (a : Addr) : O → Prop
  | .lst ms => ∃ xs, H a = some (.lst xs) ∧ RepL K Z α H ms xs
/-- the store's objects stand in the heap -/
structure SR (K : PySem.W.Frag) (Z α : List Addr) (H : Hp) (S : Store) : Prop where
  nd : α.Nodup
  len : α.length = S.length
  obj : ∀ (n : Nat) (o : O), S[n]? = some o → ∃ a, α[n]? = some a ∧ ObjR K Z α H a o
  zs : ∀ a ∈ Z, a ∉ α ∧ H a ≠ none
/-- the names -/
structure ER (K : PySem.W.Frag) (Z α : List Addr) (H : Hp) (γ : Env) (σ : Slots) : Prop where
  len : γ.length = σ.length
  get : ∀ (i : Nat) (m : M), γ[i]? = some (some m) → ∃ v, σ[i]? = some (some v) ∧ Rep K Z α H m v
/-- what was tracked and is no object of the store is as it was; new objects of the store are new -/
structure Tr (α : List Addr) (H : Hp) (α' : List Addr) (H' : Hp) : Prop where
  keep : ∀ a o, H a = some o → a ∉ α → H' a = some o
  ext : ∃ β, α' = α ++ β ∧ ∀ a ∈ β, H a = none
  live : ∀ a ∈ α', H' a ≠ none

section
variable {K : PySem.W.Frag} {Z α α' α'' : List Addr} {H H' H'' : Hp} {S S' : Store}
def Muts (α : List Addr) (H : Hp) : Prop := ∀ a ∈ α, ∃ o, H a = some o ∧ MutO o
theorem ObjR.mut {a : Addr} {o : O} (h : ObjR K Z α H a o) : ∃ u, H a = some u ∧ MutO u := by
  cases o with
  | lst ms => obtain ⟨xs, e, _⟩ := h; exact ⟨_, e, trivial⟩
theorem SR.muts (s : SR K Z α H S) : Muts α H := fun a h => by
  obtain ⟨n, hn⟩ := List.mem_iff_getElem?.mp h
  have hl : n < S.length := by rw [← s.len]; exact (List.getElem?_eq_some_iff.mp hn).1
  obtain ⟨a', ha', o⟩ := s.obj n S[n] (by simp [hl])
  rw [hn] at ha'; cases ha'
  exact o.mut
theorem Muts.live (s : Muts α H) : ∀ a ∈ α, H a ≠ none := fun a h => by
  obtain ⟨u, e, _⟩ := s a h
  rw [e]; exact fun z => by cases z
theorem SR.live (s : SR K Z α H S) : ∀ a ∈ α, H a ≠ none := s.muts.live
theorem Tr.refl (s : SR K Z α H S) : Tr α H α H := ⟨fun _ _ h _ => h, ⟨[], by simp, by simp⟩, s.live⟩
theorem Tr.trans (a : Tr α H α' H') (b : Tr α' H' α'' H'') : Tr α H α'' H'' := by
  obtain ⟨β, e, hβ⟩ := a.ext
  obtain ⟨β', e', hβ'⟩ := b.ext
  refine ⟨fun c o h hc => b.keep c o (a.keep c o h hc) ?_, ⟨β ++ β', by rw [e', e, List.append_assoc], ?_⟩, b.live⟩
  · rw [e]
    intro hm
    rcases List.mem_append.mp hm with z | z
    · exact hc z
    · rw [hβ c z] at h; cases h
  · intro c hc
    rcases List.mem_append.mp hc with z | z
    · exact hβ c z
    · have n := hβ' c z
      cases q : H c with
      | none => rfl
      | some o =>
        by_cases hm : c ∈ α
        · exact absurd n (a.live c (by rw [e]; exact List.mem_append_left _ hm))
        · rw [a.keep c o q hm] at n; cases n
theorem tup_tr {a : Addr} {xs : List V} (l : Muts α H) (t : Tr α H α' H') (h : H a = some (.tup xs)) : H' a = some (.tup xs) :=
  t.keep _ _ h fun hm => by obtain ⟨u, e, m⟩ := l a hm; rw [h] at e; cases e; exact m
theorem frz_tr {a : Addr} {o : Obj} {u : HO} (l : Muts α H) (t : Tr α H α' H') (h : H a = some (.frz o u)) : H' a = some (.frz o u) :=
  t.keep _ _ h fun hm => by obtain ⟨u, e, m⟩ := l a hm; rw [h] at e; cases e; exact m
theorem sqT_tr {a : Addr} {xs : List V} (l : Muts α H) (t : Tr α H α' H') (h : SqT K H a xs) : SqT K H' a xs := by
  rcases h with (h | ⟨o, h⟩) | h
  · exact .inl (.inl (tup_tr l t h))
  · exact .inl (.inr ⟨o, frz_tr l t h⟩)
  · exact .inr h
theorem notin_tr {a : Addr} {o : HO} (t : Tr α H α' H') (h : H a = some o) (n : a ∉ α) : a ∉ α' := by
  obtain ⟨β, e, hβ⟩ := t.ext
  rw [e]
  intro hm
  rcases List.mem_append.mp hm with z | z
  · exact n z
  · rw [hβ a z] at h; cases h
theorem get_tr {n : Nat} {a : Addr} (t : Tr α H α' H') (h : α[n]? = some a) : α'[n]? = some a := by
  obtain ⟨β, e, _⟩ := t.ext
  rw [e, List.getElem?_append_left (List.getElem?_eq_some_iff.mp h).1]
  exact h
mutual
theorem Rep.tr (l : Muts α H) (t : Tr α H α' H') : ∀ (m : M) (v : V), Rep K Z α H m v → Rep K Z α' H' m v
  | .non, v, h => by simpa only [Rep] using h
  | .bl b, v, h => by simpa only [Rep] using h
  | .int i, v, h => by simpa only [Rep] using h
  | .str s, v, h => by simpa only [Rep] using h
  | .scr ns, v, h => by
    simp only [Rep] at h ⊢
    obtain ⟨a, e, h⟩ := h
    exact ⟨a, e, h.imp (fun ⟨o, h⟩ => ⟨o, frz_tr l t h⟩) id⟩
  | .ref n, v, h => by
    simp only [Rep] at h ⊢
    obtain ⟨a, h, e⟩ := h
    exact ⟨a, get_tr t h, e⟩
  | .tup ms, v, h => by
    simp only [Rep] at h ⊢
    obtain ⟨a, xs, e, h, r⟩ := h
    exact ⟨a, xs, e, sqT_tr l t h, RepL.tr l t ms xs r⟩
  | .lst ms, v, h => by
    simp only [Rep] at h ⊢
    obtain ⟨a, xs, e, h, n, r⟩ := h
    exact ⟨a, xs, e, t.keep _ _ h n.1, ⟨notin_tr t h n.1, n.2⟩, RepL.tr l t ms xs r⟩
theorem RepL.tr (l : Muts α H) (t : Tr α H α' H') : ∀ (ms : List M) (xs : List V), RepL K Z α H ms xs → RepL K Z α' H' ms xs
  | [], xs, h => by simpa only [RepL] using h
  | m :: ms, xs, h => by
    simp only [RepL] at h ⊢
    obtain ⟨x, r, e, h, q⟩ := h
    exact ⟨x, r, e, Rep.tr l t m x h, RepL.tr l t ms r q⟩
end
theorem ER.tr {γ : Env} {σ : Slots} (l : Muts α H) (t : Tr α H α' H') (e : ER K Z α H γ σ) : ER K Z α' H' γ σ :=
  ⟨e.len, fun i m h => let ⟨v, h1, h2⟩ := e.get i m h; ⟨v, h1, Rep.tr l t m v h2⟩⟩

theorem RepL.length : ∀ {ms : List M} {xs : List V}, RepL K Z α H ms xs → ms.length = xs.length
  | [], xs, h => by simp only [RepL] at h; rw [h]; rfl
  | m :: ms, xs, h => by
    simp only [RepL] at h
    obtain ⟨x, r, rfl, _, q⟩ := h
    simp only [List.length_cons, RepL.length q]
theorem RepL.get : ∀ {ms : List M} {xs : List V} {i : Nat} {m : M}, RepL K Z α H ms xs → ms[i]? = some m → ∃ x, xs[i]? = some x ∧ Rep K Z α H m x
  | [], xs, i, m, h, e => by simp at e
  | m :: ms, xs, i, m', h, e => by
    simp only [RepL] at h
    obtain ⟨x, r, rfl, h1, q⟩ := h
    cases i with
    | zero => simp at e; subst e; exact ⟨x, rfl, h1⟩
    | succ i => simp at e; obtain ⟨y, e1, e2⟩ := RepL.get q e; exact ⟨y, by simpa using e1, e2⟩
theorem RepL.of_get : ∀ {ms : List M} {xs : List V}, ms.length = xs.length → (∀ (i : Nat) m, ms[i]? = some m → ∃ x, xs[i]? = some x ∧ Rep K Z α H m x) → RepL K Z α H ms xs
  | [], [], _, _ => by simp only [RepL]
  | m :: ms, x :: xs, hl, h => by
    simp only [RepL]
    obtain ⟨x', e, r⟩ := h 0 m rfl
    simp at e; subst e
    refine ⟨x, xs, rfl, r, RepL.of_get (by simpa using hl) fun i m' q => ?_⟩
    obtain ⟨y, e1, e2⟩ := h (i + 1) m' (by simpa using q)
    exact ⟨y, by simpa using e1, e2⟩
theorem RepL.append : ∀ {ms ns : List M} {xs ys : List V}, RepL K Z α H ms xs → RepL K Z α H ns ys → RepL K Z α H (ms ++ ns) (xs ++ ys)
  | [], ns, xs, ys, h, q => by simp only [RepL] at h; subst h; exact q
  | m :: ms, ns, xs, ys, h, q => by
    simp only [RepL] at h
    obtain ⟨x, r, rfl, h1, h2⟩ := h
    simp only [List.cons_append, RepL]
    exact ⟨x, r ++ ys, rfl, h1, RepL.append h2 q⟩
theorem RepL.one {m : M} {x : V} (h : Rep K Z α H m x) : RepL K Z α H [m] [x] := by simp only [RepL]; exact ⟨x, [], rfl, h, rfl⟩
theorem RepL.take {ms : List M} {xs : List V} (k : Nat) (h : RepL K Z α H ms xs) : RepL K Z α H (ms.take k) (xs.take k) := by
  refine RepL.of_get (by simp [h.length]) fun i m e => ?_
  rw [List.getElem?_take] at e ⊢
  split at e
  · rw [if_pos (by assumption)]; exact h.get e
  · cases e
theorem RepL.drop {ms : List M} {xs : List V} (k : Nat) (h : RepL K Z α H ms xs) : RepL K Z α H (ms.drop k) (xs.drop k) := by
  refine RepL.of_get (by simp [h.length]) fun i m e => ?_
  rw [List.getElem?_drop] at e ⊢
  exact h.get e
theorem RepL.reverse {ms : List M} {xs : List V} (h : RepL K Z α H ms xs) : RepL K Z α H ms.reverse xs.reverse := by
  have hl := h.length
  refine RepL.of_get (by simp [hl]) fun i m e => ?_
  have hi : i < ms.length := by
    have := (List.getElem?_eq_some_iff.mp e).1
    simpa using this
  rw [List.getElem?_reverse hi] at e
  rw [List.getElem?_reverse (by omega), ← hl]
  exact h.get e
theorem RepL.set {ms : List M} {xs : List V} {m : M} {x : V} (j : Nat) (h : RepL K Z α H ms xs) (r : Rep K Z α H m x) : RepL K Z α H (ms.set j m) (xs.set j x) := by
  refine RepL.of_get (by simp [h.length]) fun i m' e => ?_
  rw [List.getElem?_set] at e ⊢
  split at e
  · rename_i hj
    subst hj
    split at e
    · rename_i hlt
      cases e
      rw [if_pos rfl, if_pos (by rw [← h.length]; exact hlt)]
      exact ⟨x, rfl, r⟩
    · cases e
  · rename_i hj
    rw [if_neg hj]
    exact h.get e
theorem RepL.dropLast {ms : List M} {xs : List V} (h : RepL K Z α H ms xs) : RepL K Z α H ms.dropLast xs.dropLast := by
  rw [List.dropLast_eq_take, List.dropLast_eq_take, ← h.length]
  exact h.take _
theorem RepL.ints : ∀ {ns : List Int} {xs : List V}, RepL K Z α H (ns.map M.int) xs → xs = ns.map V.int
  | [], xs, h => by simpa only [List.map_nil, RepL] using h
  | n :: ns, xs, h => by
    simp only [List.map_cons, RepL, Rep] at h
    obtain ⟨x, r, rfl, rfl, q⟩ := h
    rw [RepL.ints q]; rfl
theorem RepL.of_ints : ∀ (ns : List Int), RepL K Z α H (ns.map M.int) (ns.map V.int)
  | [] => by simp only [List.map_nil, RepL]
  | n :: ns => by simp only [List.map_cons, RepL, Rep]; exact ⟨_, _, rfl, rfl, RepL.of_ints ns⟩

/-- the readable items of a value -/
def seqOf (S : Store) : M → Option (List M)
  | .tup ms => some ms
  | .lst ms => some ms
  | .scr ns => some (ns.map M.int)
  | .ref n => match S[n]? with
    | some (.lst ms) => some ms
    | _ => none
  | _ => none
/-- .. in the heap: a list (of whatever form) or a tuple -/
theorem seq_rep {m : M} {v : V} {ms : List M} (s : SR K Z α H S) (h : Rep K Z α H m v) (e : seqOf S m = some ms) :
    ∃ a xs, v = .ref a ∧ ((SqL K H a xs ∧ (∀ l, m ≠ .tup l)) ∨ (SqT K H a xs ∧ m = .tup ms)) ∧ RepL K Z α H ms xs := by
  cases m with
  | tup l =>
    simp only [seqOf, Option.some.injEq] at e; subst e
    simp only [Rep] at h
    obtain ⟨a, xs, rfl, h, r⟩ := h
    exact ⟨a, xs, rfl, .inr ⟨h, rfl⟩, r⟩
  | lst l =>
    simp only [seqOf, Option.some.injEq] at e; subst e
    simp only [Rep] at h
    obtain ⟨a, xs, rfl, h, _, r⟩ := h
    exact ⟨a, xs, rfl, .inl ⟨.of h, by simp⟩, r⟩
  | scr ns =>
    simp only [seqOf, Option.some.injEq] at e; subst e
    simp only [Rep] at h
    obtain ⟨a, rfl, h⟩ := h
    exact ⟨a, _, rfl, .inl ⟨h.seq, by simp⟩, RepL.of_ints ns⟩
  | ref n =>
    simp only [seqOf] at e
    simp only [Rep] at h
    obtain ⟨a, ha, rfl⟩ := h
    cases q : S[n]? with
    | none => rw [q] at e; cases e
    | some o =>
      rw [q] at e
      obtain ⟨a', ha', ob⟩ := s.obj n o q
      rw [ha] at ha'; cases ha'
      cases o with
      | lst l =>
        cases e
        obtain ⟨xs, hx, r⟩ := ob
        exact ⟨a, xs, rfl, .inl ⟨.of hx, by simp⟩, r⟩
  | non => simp [seqOf] at e
  | bl b => simp [seqOf] at e
  | int b => simp [seqOf] at e
  | str b => simp [seqOf] at e
end
end Mi

namespace Mi
open PySem PySem.Spec L2

/-- an own exception: its class, its fields -/
structure Ex where
  cls : String
  fs : List (String × M)
inductive R (τ : Type) where
  | ok (a : τ) (S : Store)
  | exc (x : Ex) (S : Store)
  | bad
def R.bind {τ υ : Type} (r : R τ) (f : τ → Store → R υ) : R υ := match r with
  | .ok a S => f a S
  | .exc x S => .exc x S
  | .bad => .bad
@[simp] theorem R.bind_ok {τ υ : Type} (a : τ) (S : Store) (f : τ → Store → R υ) : (R.ok a S).bind f = f a S := rfl
@[simp] theorem R.bind_exc {τ υ : Type} (x : Ex) (S : Store) (f : τ → Store → R υ) : (R.exc x S).bind f = .exc x S := rfl
@[simp] theorem R.bind_bad {τ υ : Type} (f : τ → Store → R υ) : (R.bad : R τ).bind f = .bad := rfl
/-- under a condition -/
def R.when {τ : Type} (c : Prop) [Decidable c] (r : R τ) : R τ := if c then r else .bad
@[simp] theorem R.when_true {τ : Type} {c : Prop} [Decidable c] (h : c) (r : R τ) : R.when c r = r := if_pos h
def R.of {τ υ : Type} (o : Option τ) (f : τ → R υ) : R υ := match o with
  | some a => f a
  | none => .bad
@[simp] theorem R.of_some {τ υ : Type} (a : τ) (f : τ → R υ) : R.of (some a) f = f a := rfl
@[simp] theorem R.of_none {τ υ : Type} (f : τ → R υ) : R.of none f = .bad := rfl

mutual
def M.beq : M → M → Bool
  | .non, .non => true
  | .bl a, .bl b => a == b
  | .int a, .int b => a == b
  | .str a, .str b => decide (a = b)
  | .scr a, .scr b => decide (a = b)
  | .ref a, .ref b => a == b
  | .tup a, .tup b => M.beqs a b
  | .lst a, .lst b => M.beqs a b
  | _, _ => false
def M.beqs : List M → List M → Bool
  | [], [] => true
  | a :: r, b :: s => M.beq a b && M.beqs r s
  | _, _ => false
end
mutual
theorem M.eq_of_beq : ∀ (a b : M), M.beq a b = true → a = b
  | .non, b, h => by cases b <;> simp_all [M.beq]
  | .bl a, b, h => by cases b <;> simp_all [M.beq]
  | .int a, b, h => by cases b <;> simp_all [M.beq]
  | .str a, b, h => by cases b <;> simp_all [M.beq]
  | .scr a, b, h => by cases b <;> simp_all [M.beq]
  | .ref a, b, h => by cases b <;> simp_all [M.beq]
  | .tup a, b, h => by
    cases b <;> simp only [M.beq, Bool.false_eq_true] at h
    rw [M.eqs_of_beqs _ _ h]
  | .lst a, b, h => by
    cases b <;> simp only [M.beq, Bool.false_eq_true] at h
    rw [M.eqs_of_beqs _ _ h]
theorem M.eqs_of_beqs : ∀ (a b : List M), M.beqs a b = true → a = b
  | [], b, h => by cases b <;> simp_all [M.beqs]
  | a :: r, b, h => by
    cases b with
    | nil => simp [M.beqs] at h
    | cons b s =>
      simp only [M.beqs, Bool.and_eq_true] at h
      rw [M.eq_of_beq a b h.1, M.eqs_of_beqs r s h.2]
end
mutual
theorem M.beq_refl : ∀ (a : M), M.beq a a = true
  | .non => rfl
  | .bl a => by simp [M.beq]
  | .int a => by simp [M.beq]
  | .str a => by simp [M.beq]
  | .scr a => by simp [M.beq]
  | .ref a => by simp [M.beq]
  | .tup a => by simp only [M.beq]; exact M.beqs_refl a
  | .lst a => by simp only [M.beq]; exact M.beqs_refl a
theorem M.beqs_refl : ∀ (a : List M), M.beqs a a = true
  | [] => rfl
  | a :: r => by simp only [M.beqs, Bool.and_eq_true]; exact ⟨M.beq_refl a, M.beqs_refl r⟩
end
instance : DecidableEq M := fun a b => if h : M.beq a b = true then isTrue (M.eq_of_beq a b h) else isFalse fun e => h (e ▸ M.beq_refl a)

inductive Kon where
  | non | bl (b : Bool) | int (i : Int) | str (s : String)
def Kon.m : Kon → M
  | .non => .non
  | .bl b => .bl b
  | .int i => .int i
  | .str s => .str (Str.ofString s)

inductive Bop where | add | sub | mul | mod | fdiv | pow | shl
  deriving DecidableEq
inductive Cop where | eq | ne | lt | le | gt | ge | isN | notN | isin | notin
  deriving DecidableEq
/-- built-in calls by value; al: the new list is an object of the store -/
inductive Bi where | abs | max | min | int | len | sum | list (al : Bool) | tuple | sorted (al : Bool) | maxL | minL | str
  deriving DecidableEq
inductive Me where | append | pop | extend
  deriving DecidableEq
/-- a target -/
inductive Tg where | nm (i : Nat) | tu (l : List Nat)

mutual
inductive C where
  | var (i : Nat)
  | con (k : Kon)
  | tup (es : Cs)
  | lst (al : Bool) (es : Cs)
  | bin (al : Bool) (o : Bop) (a b : C)
  | neg (a : C)
  | cmp (o : Cop) (a b : C)
  | chain (o o' : Cop) (a b c : C)
  | and (a b : C)
  | or (a b : C)
  | one (a : C)
  | not (a : C)
  | ife (t : T) (a b : C)
  | ix (a i : C)
  | sl (al : Bool) (a : C) (lo hi : Co)
  | rev (al : Bool) (a : C)
  | call (pu : Bool) (f : String) (es : Cs)
  | callk (pu : Bool) (f : String) (es : Cs) (qs : List Nat) (kes : Cs)
  | bi (b : Bi) (es : Cs)
  | lrange (al : Bool) (es : Cs)
  | trange (es : Cs)
  | isi (a : C) (ts : List String)
  | meth (m : Me) (o : C) (es : Cs)
  | lc (al : Bool) (tg : Tg) (it : It') (ifs : To) (e : C) (own : List Nat)
  | ssc (al : Bool) (tg : Tg) (it : It') (ifs : To) (e : C) (own : List Nat)
inductive Cs where
  | nil
  | cons (a : C) (r : Cs)
inductive Co where
  | no
  | so (a : C)
inductive T where
  | v (a : C)
  | and (a b : T)
  | or (a b : T)
  | one (a : T)
  | not (a : T)
inductive To where
  | no
  | so (t : T)
inductive It' where
  | val (a : C)
  | range1 (a : C)
  | range2 (a b : C)
  | enum (a : C)
end
mutual
inductive Sm where
  | set (i : Nat) (e : C)
  | unp (l : List Nat) (e : C)
  | par (l : List Nat) (es : Cs)
  | seti (o i e : C)
  | augi (o : Bop) (a i e : C)
  | aug (o : Bop) (i : Nat) (e : C)
  | exp (e : C)
  | ret (e : C)
  | retN
  | ife (t : T) (a b : Sms)
  | for_ (tg : Tg) (it : It') (b : Sms)
  | while_ (t : T) (b : Sms)
  | brk
  | cnt
  | pass
inductive Sms where
  | nil
  | cons (a : Sm) (r : Sms)
end

/-! ### operations by values -/
def mkL (al : Bool) (ms : List M) (S : Store) : R M := if al = true then .ok (.ref S.length) (S ++ [.lst ms]) else .ok (.lst ms) S
def big : Nat := 1000000
def CMulOk (i j : Int) : Prop := (i.natAbs < 2 ^ 64 ∨ j.natAbs < 2 ^ 64) ∨ (i.natAbs < 2 ^ 4096 ∧ j.natAbs < 2 ^ 4096)
instance (i j : Int) : Decidable (CMulOk i j) := by unfold CMulOk; infer_instance
def CDivOk (i j : Int) : Prop := 0 < j ∧ j.natAbs < 2 ^ 4096
instance (i j : Int) : Decidable (CDivOk i j) := by unfold CDivOk; infer_instance
/-- a list that may be copied from: its items -/
def lstOf (S : Store) : M → Option (List M)
  | .lst ms => some ms
  | .ref n => match S[n]? with
    | some (.lst ms) => some ms
    | _ => none
  | _ => none
def binop (al : Bool) (o : Bop) (a b : M) (S : Store) : R M := match o, a, b with
  | .add, .int i, .int j => .ok (.int (i + j)) S
  | .sub, .int i, .int j => .ok (.int (i - j)) S
  | .mul, .int i, .int j => .when (CMulOk i j) (.ok (.int (i * j)) S)
  | .mod, .int i, .int j => .when (0 < j) (.ok (.int (i % j)) S)
  | .fdiv, .int i, .int j => .when (CDivOk i j) (.ok (.int (i / j)) S)
  | .pow, .int i, .int j => .when (0 ≤ j ∧ j.natAbs ≤ 1000000 ∧ i.natAbs < 2 ^ 64) (.ok (.int (i ^ j.toNat)) S)
  | .shl, .int i, .int j => .when (0 ≤ j ∧ j.natAbs ≤ 1000000 ∧ i.natAbs < 2 ^ 64) (.ok (.int (i * 2 ^ j.toNat)) S)
  | .add, .str x, .str y => .when (x.length + y.length ≤ big) (.ok (.str (x ++ y)) S)
  | .add, .tup xs, .tup ys => .when (xs.length + ys.length ≤ big) (.ok (.tup (xs ++ ys)) S)
  | .add, x, y => .of (lstOf S x) fun xs => .of (lstOf S y) fun ys => .when (xs.length + ys.length ≤ big) (mkL al (xs ++ ys) S)
  | .mul, x, .int k => .of (lstOf S x) fun xs => .when (k.natAbs < 2 ^ 63 ∧ xs.length * k.toNat ≤ big) (mkL al (List.replicate k.toNat xs).flatten S)
  | _, _, _ => .bad
/-- == of plain values -/
def eqM : M → M → Option Bool
  | .non, .non => some true
  | .bl a, .bl b => some (a == b)
  | .int a, .int b => some (a == b)
  | .str a, .str b => some (decide (a = b))
  | .non, .int _ => some false
  | .int _, .non => some false
  | .non, .bl _ => some false
  | .bl _, .non => some false
  | .non, .str _ => some false
  | .str _, .non => some false
  | .int _, .str _ => some false
  | .str _, .int _ => some false
  | .bl _, .str _ => some false
  | .str _, .bl _ => some false
  | _, _ => none
/-- x in xs, ints -/
def intsOf : List M → Option (List Int)
  | [] => some []
  | .int i :: r => (intsOf r).map (i :: ·)
  | _ => none
def isNon : M → Bool
  | .non => true
  | _ => false
def cmpop (o : Cop) (a b : M) (S : Store) : R M := match o, a, b with
  | .eq, x, y => .of (eqM x y) fun r => .ok (.bl r) S
  | .ne, x, y => .of (eqM x y) fun r => .ok (.bl (!r)) S
  | .lt, .int i, .int j => .ok (.bl (decide (i < j))) S
  | .le, .int i, .int j => .ok (.bl (decide (i ≤ j))) S
  | .gt, .int i, .int j => .ok (.bl (decide (j < i))) S
  | .ge, .int i, .int j => .ok (.bl (decide (j ≤ i))) S
  | .isN, x, .non => .ok (.bl (isNon x)) S
  | .notN, x, .non => .ok (.bl (!isNon x)) S
  | .isin, .int i, y => .of ((seqOf S y).bind intsOf) fun is => .ok (.bl (decide (i ∈ is))) S
  | .notin, .int i, y => .of ((seqOf S y).bind intsOf) fun is => .ok (.bl (!decide (i ∈ is))) S
  | _, _, _ => .bad
/-- an index of any sign -/
def ixop (a i : M) (S : Store) : R M := match i with
  | .int i => .of (seqOf S a) fun ms => .of (atI ms i) fun m => .ok m S
  | _ => .bad
def truth (S : Store) : M → Option Bool
  | .bl b => some b
  | .int i => some (i != 0)
  | .non => some false
  | .str x => if x.length ≤ big then some ((x.length : Int) != 0) else none
  | .tup ms => some (!ms.isEmpty)
  | .lst ms => some (!ms.isEmpty)
  | .ref n => match S[n]? with
    | some (.lst ms) => some (!ms.isEmpty)
    | _ => none
  | _ => none
def cutM (xs : List M) (lo hi : Option Int) : List M := (xs.drop (HT.sIx xs.length 0 lo)).take (HT.sIx xs.length xs.length hi - HT.sIx xs.length 0 lo)
def slop (al : Bool) (a : M) (l h : Option Int) (S : Store) : R M := match a with
  | .tup ms => .ok (.tup (cutM ms l h)) S
  | .str _ => .bad
  | x => .of (seqOf S x) fun ms => mkL al (cutM ms l h) S
def insI (a : Int) : List Int → List Int
  | [] => [a]
  | b :: r => if a ≤ b then a :: b :: r else b :: insI a r
def isort : List Int → List Int
  | [] => []
  | a :: r => insI a (isort r)
def maxZ : List Int → Int
  | [] => 0
  | [a] => a
  | a :: r => max a (maxZ r)
def minZ : List Int → Int
  | [] => 0
  | [a] => a
  | a :: r => min a (minZ r)
def biop (b : Bi) (as : List M) (S : Store) : R M := match b, as with
  | .abs, [.int i] => .ok (.int (if i < 0 then -i else i)) S
  | .max, [.int i, .int j] => .ok (.int (if j > i then j else i)) S
  | .min, [.int i, .int j] => .ok (.int (if j < i then j else i)) S
  | .int, [.int i] => .ok (.int i) S
  | .int, [.bl b] => .ok (.int (if b then 1 else 0)) S
  | .len, [.str x] => .when (x.length ≤ big) (.ok (.int x.length) S)
  | .len, [x] => .of (seqOf S x) fun ms => .ok (.int ms.length) S
  | .sum, [x] => .of ((lstOf S x).bind intsOf) fun is => .ok (.int is.sum) S
  | .list al, [x] => .of (seqOf S x) fun ms => mkL al ms S
  | .tuple, [x] => .of (seqOf S x) fun ms => .ok (.tup ms) S
  | .sorted al, [x] => .of ((lstOf S x).bind intsOf) fun is => .when (is.length < 64) (mkL al ((isort is).map M.int) S)
  | .maxL, [x] => .of ((lstOf S x).bind intsOf) fun is => .when (0 < is.length) (.ok (.int (maxZ is)) S)
  | .minL, [x] => .of ((lstOf S x).bind intsOf) fun is => .when (0 < is.length) (.ok (.int (minZ is)) S)
  | .str, [.int i] => .when (i.natAbs.log2 < 1900) (.ok (.str (toString i)) S)
  | _, _ => .bad
def rangeL (a b : Int) : List M := (List.range (b - a).toNat).map fun i => M.int (a + (i : Nat))
def RgOk' (a b : Int) : Prop := a.natAbs < 2 ^ 62 ∧ b.natAbs < 2 ^ 62 ∧ (b - a).toNat ≤ big
instance (a b : Int) : Decidable (RgOk' a b) := by unfold RgOk'; infer_instance
def range12 : List M → Option (Int × Int)
  | [.int b] => some (0, b)
  | [.int a, .int b] => some (a, b)
  | _ => none
def tyOf (S : Store) : M → Option String
  | .non => some "NoneType"
  | .bl _ => some "bool"
  | .int _ => some "int"
  | .str _ => some "str"
  | .tup _ => some "tuple"
  | .lst _ => some "list"
  | .ref n => match S[n]? with
    | some (.lst _) => some "list"
    | _ => none
  | .scr _ => none
/-- isinstance by names; bool is a kind of int -/
def isTy (t c : String) : Bool := t == c || (t == "bool" && c == "int")
def isiop (a : M) (ts : List String) (S : Store) : R M := .of (tyOf S a) fun t => .ok (.bl (ts.any (isTy t))) S
/-- a method of a list of the store -/
def meop (m : Me) (o : M) (as : List M) (S : Store) : R M := match o with
  | .ref n => .of S[n]? fun ob => match ob with
    | .lst xs => match m, as with
      | .append, [x] => .when (xs.length < big) (.ok .non (S.set n (.lst (xs ++ [x]))))
      | .pop, [] => .of xs[xs.length - 1]? fun y => .ok y (S.set n (.lst xs.dropLast))
      | .extend, [y] => match y with
        | .lst ys => .when (xs.length + ys.length ≤ big) (.ok .non (S.set n (.lst (xs ++ ys))))
        | _ => .bad
      | _, _ => .bad
  | _ => .bad
/-- o[i] = v -/
def setiop (o i v : M) (S : Store) : R Unit := match o, i with
  | .ref n, .int k => .of S[n]? fun ob => match ob with
    | .lst xs => .of (ixN xs.length k) fun j => .ok () (S.set n (.lst (xs.set j v)))
  | _, _ => .bad
/-- what is handed to a call that can't change it -/
def M.plain : M → Bool
  | .non => true
  | .bl _ => true
  | .int _ => true
  | .str _ => true
  | .tup ms => go ms
  | .lst _ => false
  | .scr _ => false
  | .ref _ => false
where go : List M → Bool
  | [] => true
  | m :: r => M.plain m && go r
/-- no object of the store within -/
def M.noref : M → Bool
  | .ref _ => false
  | .tup ms => go ms
  | .lst ms => go ms
  | _ => true
where go : List M → Bool
  | [] => true
  | m :: r => M.noref m && go r
def derefA (S : Store) : M → Option M
  | .ref n => match S[n]? with
    | some (.lst ms) => if M.noref.go ms = true then some (.lst ms) else none
    | _ => none
  | m => if m.noref = true then some m else none
def derefs (S : Store) : List M → Option (List M)
  | [] => some []
  | m :: r => (derefA S m).bind fun x => (derefs S r).map (x :: ·)
/-- what comes back of such a call: lists that it made are never changed again -/
def freeze (S : Store) : M → Option M
  | .ref n => match S[n]? with
    | some (.lst ms) => if M.plain.go ms = true then some (.lst ms) else none
    | _ => none
  | m => if m.plain = true then some m else none
/-- a target in the names -/
def bindT (tg : Tg) (m : M) (γ : Env) : Option Env := match tg with
  | .nm i => some (γ.set i (some m))
  | .tu l => match m with
    | .tup ms => if ms.length = l.length then some (go l ms γ) else none
    | _ => none
where go : List Nat → List M → Env → Env
  | i :: l, m :: ms, γ => go l ms (γ.set i (some m))
  | _, _, γ => γ
def wipeE (γ : Env) : List Nat → Env
  | [] => γ
  | v :: vs => (wipeE γ vs).set v none
/-- what is walked: the items; the value that must stay as it is -/
structure Src where
  items : List M
  src : M
  fix : List M
def Src.ok (s : Src) (S : Store) : Prop := seqOf S s.src = some s.fix
instance (s : Src) (S : Store) : Decidable (s.ok S) := by unfold Src.ok; infer_instance
/-- the turns of a comprehension: what each gives, if anything -/
def compLoop (s : Src) (f : M → Store → R (Option M)) : List M → Store → R (List M)
  | [], S => .when (s.ok S) (.ok [] S)
  | x :: xs, S => .when (s.ok S) ((f x S).bind fun o S1 => (compLoop s f xs S1).bind fun r S2 => .ok (o.toList ++ r) S2)
/-- an exception may not leave a comprehension's turn -/
def R.calm {τ : Type} : R τ → R τ
  | .exc _ _ => .bad
  | r => r
inductive F where
  | nx (γ : Env) | ret (m : M) | brk (γ : Env) | cnt (γ : Env)
def forLoop (s : Src) (f : M → Env → Store → R F) : List M → Env → Store → R F
  | [], γ, S => .when (s.ok S) (.ok (.nx γ) S)
  | x :: xs, γ, S => .when (s.ok S) ((f x γ S).bind fun fl S1 => match fl with
    | .nx γ1 => forLoop s f xs γ1 S1
    | .cnt γ1 => forLoop s f xs γ1 S1
    | .brk γ1 => .ok (.nx γ1) S1
    | .ret m => .ok (.ret m) S1)
def whileLoop (t : Env → Store → R Bool) (f : Env → Store → R F) : Nat → Env → Store → R F
  | 0, _, _ => .bad
  | n + 1, γ, S => (t γ S).bind fun b S1 => if b = true then ((f γ S1).bind fun fl S2 => match fl with
      | .nx γ1 => whileLoop t f n γ1 S2
      | .cnt γ1 => whileLoop t f n γ1 S2
      | .brk γ1 => .ok (.nx γ1) S2
      | .ret m => .ok (.ret m) S2)
    else .ok (.nx γ) S1
def dedup : List Int → List Int
  | [] => []
  | a :: r => if a ∈ r then dedup r else a :: dedup r
/-- keywords: the values in the parameters' order; qs: where each further parameter's value stands -/
def place {τ : Type} (qs : List Nat) (as bs : List τ) : List τ := as ++ qs.filterMap fun q => bs[q]?
def placeN {τ : Type} (n : Nat) (qs : List Nat) (as bs : List τ) : List τ := if as.length = n ∧ bs.length = qs.length then place qs as bs else []
def Cs.len : Cs → Nat
  | .nil => 0
  | .cons _ r => r.len + 1

section
variable (call : String → List M → Store → R M)
def callM (pu : Bool) (f : String) (ms : List M) (S : Store) : R M :=
  if pu = true then .of (derefs S ms) fun as => match call f as [] with
    | .ok m S' => .of (freeze S' m) fun r => .ok r S
    | .exc x _ => if (x.fs.all fun p => p.2.plain) = true then .exc x S else .bad
    | .bad => .bad
  else call f ms S
mutual
def ev : C → Env → Store → R M
  | .var i, γ, S => match γ[i]? with
    | some (some m) => .ok m S
    | _ => .bad
  | .con k, _, S => .ok k.m S
  | .tup es, γ, S => (evs es γ S).bind fun ms S => .when (ms.length ≤ big) (.ok (.tup ms) S)
  | .lst al es, γ, S => (evs es γ S).bind fun ms S => .when (ms.length ≤ big) (mkL al ms S)
  | .bin al o a b, γ, S => (ev a γ S).bind fun x S => (ev b γ S).bind fun y S => binop al o x y S
  | .neg a, γ, S => (ev a γ S).bind fun x S => match x with
    | .int i => .ok (.int (-i)) S
    | _ => .bad
  | .cmp o a b, γ, S => (ev a γ S).bind fun x S => (ev b γ S).bind fun y S => cmpop o x y S
  | .chain o o' a b c, γ, S => (ev a γ S).bind fun x S => (ev b γ S).bind fun y S => (cmpop o x y S).bind fun r S => match r with
    | .bl true => (ev c γ S).bind fun z S => cmpop o' y z S
    | .bl false => .ok (.bl false) S
    | _ => .bad
  | .and a b, γ, S => (ev a γ S).bind fun x S => match x with
    | .bl true => ev b γ S
    | .bl false => .ok (.bl false) S
    | _ => .bad
  | .or a b, γ, S => (ev a γ S).bind fun x S => match x with
    | .bl true => .ok (.bl true) S
    | .bl false => ev b γ S
    | _ => .bad
  | .one a, γ, S => ev a γ S
  | .not a, γ, S => (ev a γ S).bind fun x S => match x with
    | .bl b => .ok (.bl !b) S
    | _ => .bad
  | .ife t a b, γ, S => (evT t γ S).bind fun c S => if c = true then ev a γ S else ev b γ S
  | .ix a i, γ, S => (ev a γ S).bind fun x S => (ev i γ S).bind fun y S => ixop x y S
  | .sl al a lo hi, γ, S => (ev a γ S).bind fun x S => (evo lo γ S).bind fun l S => (evo hi γ S).bind fun h S => slop al x l h S
  | .rev al a, γ, S => (ev a γ S).bind fun x S => .of (lstOf S x) fun ms => mkL al ms.reverse S
  | .call pu f es, γ, S => (evs es γ S).bind fun ms S => callM call pu f ms S
  | .callk pu f es qs kes, γ, S => (evs es γ S).bind fun ms S => (evs kes γ S).bind fun ns S => .when (ms.length = es.len ∧ ns.length = qs.length) (callM call pu f (place qs ms ns) S)
  | .bi b es, γ, S => (evs es γ S).bind fun ms S => biop b ms S
  | .lrange al es, γ, S => (evs es γ S).bind fun ms S => .of (range12 ms) fun p => .when (RgOk' p.1 p.2) (mkL al (rangeL p.1 p.2) S)
  | .trange es, γ, S => (evs es γ S).bind fun ms S => .of (range12 ms) fun p => .when (RgOk' p.1 p.2) (.ok (.tup (rangeL p.1 p.2)) S)
  | .isi a ts, γ, S => (ev a γ S).bind fun x S => isiop x ts S
  | .meth m o es, γ, S => (ev o γ S).bind fun x S => .of (lstOf S x) fun _ => (evs es γ S).bind fun ms S => meop m x ms S
  | .lc al tg it ifs e own, γ, S => (evI it γ S).bind fun s S => .when (s.items.length ≤ big) ((compLoop s (fun x S => .of (bindT tg x (wipeE γ own)) fun γ1 =>
      ((evt ifs γ1 S).bind fun b S => if b = true then (ev e γ1 S).bind fun m S => .ok (some m) S else .ok none S).calm) s.items S).bind fun ms S => mkL al ms S)
  | .ssc al tg it ifs e own, γ, S => (evI it γ S).bind fun s S => .when (s.items.length ≤ 4000) ((compLoop s (fun x S => .of (bindT tg x (wipeE γ own)) fun γ1 =>
      ((evt ifs γ1 S).bind fun b S => if b = true then (ev e γ1 S).bind fun m S => .ok (some m) S else .ok none S).calm) s.items S).bind fun ms S =>
      .of (intsOf ms) fun is => .when ((dedup is).length < 64) (mkL al ((isort (dedup is)).map M.int) S))
termination_by structural x => x
def evT : T → Env → Store → R Bool
  | .and a b, γ, S => (evT a γ S).bind fun c S => if c = true then evT b γ S else .ok false S
  | .or a b, γ, S => (evT a γ S).bind fun c S => if c = true then .ok true S else evT b γ S
  | .one a, γ, S => evT a γ S
  | .not a, γ, S => (evT a γ S).bind fun c S => .ok (!c) S
  | .v e, γ, S => (ev e γ S).bind fun m S => .of (truth S m) fun b => .ok b S
termination_by structural x => x
def evs : Cs → Env → Store → R (List M)
  | .nil, _, S => .ok [] S
  | .cons a r, γ, S => (ev a γ S).bind fun x S => (evs r γ S).bind fun xs S => .ok (x :: xs) S
termination_by structural x => x
def evo : Co → Env → Store → R (Option Int)
  | .no, _, S => .ok none S
  | .so a, γ, S => (ev a γ S).bind fun x S => match x with
    | .int i => .ok (some i) S
    | _ => .bad
termination_by structural x => x
def evt : To → Env → Store → R Bool
  | .no, _, S => .ok true S
  | .so a, γ, S => evT a γ S
termination_by structural x => x
def evI : It' → Env → Store → R Src
  | .val a, γ, S => (ev a γ S).bind fun x S => .of (seqOf S x) fun ms => .ok ⟨ms, x, ms⟩ S
  | .range1 a, γ, S => (ev a γ S).bind fun x S => match x with
    | .int j => .when (RgOk' 0 j) (.ok ⟨rangeL 0 j, .tup [], []⟩ S)
    | _ => .bad
  | .range2 a b, γ, S => (ev a γ S).bind fun x S => (ev b γ S).bind fun y S => match x, y with
    | .int i, .int j => .when (RgOk' i j) (.ok ⟨rangeL i j, .tup [], []⟩ S)
    | _, _ => .bad
  | .enum a, γ, S => (ev a γ S).bind fun x S => .of (seqOf S x) fun ms => .ok ⟨(List.range ms.length).map fun i => .tup [.int (i : Nat), ms.getD i .non], x, ms⟩ S
termination_by structural x => x
end
end
end Mi

namespace Mi
open PySem PySem.Spec L2

/-- an exception as it lies: its class, its dict with the fields -/
def ExR (K : PySem.W.Frag) (Z : List Addr) (mg : Str → Option Value) (α : List Addr) (H : Hp) (x : Ex) (cv : Value) (d : Option Addr) : Prop :=
  mg (Str.ofString x.cls) = some cv ∧ ∃ dd fs, d = some dd ∧ H dd = some (.xd fs) ∧ ∀ (f : String) (m : M), (f, m) ∈ x.fs → ∃ v, fs.lookup (Str.ofString f) = some v ∧ Rep K Z α H m v
def EW (K : PySem.W.Frag) (Z : List Addr) (mg : Str → Option Value) (E : XK) (x : Ex) (S : Store) (α : List Addr) (H : Hp) : Prop :=
  ∀ α' H' cv d, Tr α H α' H' → SR K Z α' H' S → ExR K Z mg α' H' x cv d → E cv d H'
/-- what an outcome asks -/
def Out {τ : Type} (K : PySem.W.Frag) (Z : List Addr) (mg : Str → Option Value) (E : XK) (r : R τ) (α : List Addr) (H : Hp) (P : τ → Store → List Addr → Hp → Prop) : Prop := match r with
  | .ok a S => ∀ α' H', Tr α H α' H' → SR K Z α' H' S → P a S α' H'
  | .exc x S => EW K Z mg E x S α H
  | .bad => False
section
variable {K : PySem.W.Frag} {mg : Str → Option Value} {E : XK} {Z α α' : List Addr} {H H' : Hp} {S : Store} {τ υ : Type}
theorem EW.tr {x : Ex} (t : Tr α H α' H') (h : EW K Z mg E x S α H) : EW K Z mg E x S α' H' := fun α2 H2 cv d t2 s2 e => h α2 H2 cv d (t.trans t2) s2 e
theorem Out.tr {r : R τ} {P : τ → Store → List Addr → Hp → Prop} (t : Tr α H α' H') (h : Out K Z mg E r α H P) : Out K Z mg E r α' H' P := by
  cases r with
  | ok a S => exact fun α2 H2 t2 s2 => h α2 H2 (t.trans t2) s2
  | exc x S => exact EW.tr t h
  | bad => exact h
theorem Out.imp {r : R τ} {P Q : τ → Store → List Addr → Hp → Prop} (h : Out K Z mg E r α H P) (hi : ∀ a S' α' H', Tr α H α' H' → SR K Z α' H' S' → P a S' α' H' → Q a S' α' H') : Out K Z mg E r α H Q := by
  cases r with
  | ok a S => exact fun α2 H2 t2 s2 => hi a S α2 H2 t2 s2 (h α2 H2 t2 s2)
  | exc x S => exact h
  | bad => exact h
theorem Out.bind {r : R τ} {f : τ → Store → R υ} {P : υ → Store → List Addr → Hp → Prop} (h : Out K Z mg E (r.bind f) α H P) :
    Out K Z mg E r α H fun a S1 α1 H1 => Out K Z mg E (f a S1) α1 H1 P := by
  cases r with
  | ok a S => exact fun α2 H2 t2 s2 => Out.tr t2 h
  | exc x S => exact h
  | bad => exact h
theorem Out.when {c : Prop} [Decidable c] {r : R τ} {P : τ → Store → List Addr → Hp → Prop} (h : Out K Z mg E (.when c r) α H P) : c ∧ Out K Z mg E r α H P := by
  unfold R.when at h
  split at h
  · exact ⟨by assumption, h⟩
  · exact False.elim h
theorem Out.of {o : Option τ} {f : τ → R υ} {P : υ → Store → List Addr → Hp → Prop} (h : Out K Z mg E (.of o f) α H P) : ∃ a, o = some a ∧ Out K Z mg E (f a) α H P := by
  cases o with
  | none => exact False.elim h
  | some a => exact ⟨a, rfl, h⟩
/-- at once -/
theorem Out.now {a : τ} {P : τ → Store → List Addr → Hp → Prop} (s : SR K Z α H S) (h : Out K Z mg E (.ok a S) α H P) : P a S α H := h α H (Tr.refl s) s
/-- the readings -/
abbrev PM (K : PySem.W.Frag) (Z : List Addr) (Q : VK) : M → Store → List Addr → Hp → Prop := fun m _ α' H' => ∀ v, Rep K Z α' H' m v → Q v H'
abbrev PL (K : PySem.W.Frag) (Z : List Addr) (Q : List V → Hp → Prop) : List M → Store → List Addr → Hp → Prop := fun ms _ α' H' => ∀ vs, RepL K Z α' H' ms vs → Q vs H'
def tR {τ : Type} (K : PySem.W.Frag) (mg : Str → Option Value) (E : XK) (e : Env → Store → R τ) (σ : Slots) (H : Hp) (P : List Addr → τ → Store → List Addr → Hp → Prop) : Prop :=
  ∃ Z α S γ, SR K Z α H S ∧ ER K Z α H γ σ ∧ Out K Z mg E (e γ S) α H (P Z)
def tM (K : PySem.W.Frag) (mg : Str → Option Value) (E : XK) (e : Env → Store → R M) : TE := fun σ H Q => tR K mg E e σ H fun Z => PM K Z Q
def tB' (K : PySem.W.Frag) (mg : Str → Option Value) (E : XK) (e : Env → Store → R Bool) : TT := fun σ H Q => tR K mg E e σ H fun _ b _ _ H' => Q b H'
def tMs (K : PySem.W.Frag) (mg : Str → Option Value) (E : XK) (e : Env → Store → R (List M)) : TA := fun σ H Q => tR K mg E e σ H fun Z => PL K Z Q
end
theorem PE.wk {X : Cx} {e : Expr} {t t' : TE} (h : PE X e t) (w : ∀ σ H Q, t' σ H Q → t σ H Q) : PE X e t' := ⟨fun pins s σ H Q I ht => h.run pins s σ H Q I (w σ H Q ht)⟩
theorem PT.wk {X : Cx} {e : Expr} {t t' : TT} (h : PT X e t) (w : ∀ σ H Q, t' σ H Q → t σ H Q) : PT X e t' := ⟨fun pins s σ H Q I ht => h.run pins s σ H Q I (w σ H Q ht)⟩
theorem PW.wk {X : Cx} {e : Expr} {t t' : TT} (h : PW X e t) (w : ∀ σ H Q, t' σ H Q → t σ H Q) : PW X e t' := ⟨fun wh pins s σ H Q I ht => h.run wh pins s σ H Q I (w σ H Q ht)⟩
theorem PA.wk {X : Cx} {e : List Expr} {t t' : TA} (h : PA X e t) (w : ∀ σ H Q, t' σ H Q → t σ H Q) : PA X e t' := ⟨fun pos pins s σ H Q I ht => h.run pos pins s σ H Q I (w σ H Q ht)⟩
theorem PS.wk {X : Cx} {e : Stmt} {t t' : TS} (h : PS X e t) (w : ∀ D σ H, t' D σ H → t D σ H) : PS X e t' := ⟨fun pins s σ H D I ht => h.run pins s σ H D I (w D σ H ht)⟩
theorem PSs.wk {X : Cx} {e : List Stmt} {t t' : TS} (h : PSs X e t) (w : ∀ D σ H, t' D σ H → t D σ H) : PSs X e t' := ⟨fun pins s σ H D I ht => h.run pins s σ H D I (w D σ H ht)⟩

section
variable {K : PySem.W.Frag} {mg : Str → Option Value} {E : XK} {Z α : List Addr} {H : Hp} {S : Store}
theorem big_line : big < sizeLine := by rw [sizeLine_eq]; decide
/-- a new object that is none of the store's -/
theorem Tr.new {p : Addr} {o : HO} (s : SR K Z α H S) (hp : H p = none) : Tr α H α (upd H p o) := by
  refine ⟨fun a u h _ => by rw [upd_ne (ne_of_none h hp)]; exact h, ⟨[], by simp, by simp⟩, fun a ha => ?_⟩
  obtain ⟨u, e, _⟩ := s.muts a ha
  rw [upd_ne (ne_of_none e hp), e]
  exact fun z => by cases z
/-- the reserved addresses stay -/
theorem SR.zkeep {α' : List Addr} {H' : Hp} (s : SR K Z α H S) (t : Tr α H α' H') {a : Addr} (ha : a ∈ Z) : a ∉ α' ∧ H' a ≠ none := by
  obtain ⟨h1, h2⟩ := s.zs a ha
  cases e : H a with
  | none => exact absurd e h2
  | some o => exact ⟨notin_tr t e h1, by rw [t.keep a o e h1]; exact fun z => by cases z⟩
theorem SR.tr {H' : Hp} (s : SR K Z α H S) (t : Tr α H α H') (k : ∀ a ∈ α, H' a = H a) : SR K Z α H' S := by
  refine ⟨s.nd, s.len, fun n o e => ?_, fun a ha => s.zkeep t ha⟩
  obtain ⟨a, ha, ob⟩ := s.obj n o e
  refine ⟨a, ha, ?_⟩
  have hm : a ∈ α := List.mem_of_getElem? ha
  cases o with
  | lst ms =>
    obtain ⟨xs, e, r⟩ := ob
    exact ⟨xs, (k a hm).trans e, RepL.tr s.muts t ms xs r⟩
theorem SR.new {p : Addr} {o : HO} (s : SR K Z α H S) (hp : H p = none) : SR K Z α (upd H p o) S := by
  refine s.tr (Tr.new s hp) fun a ha => ?_
  obtain ⟨u, e, _⟩ := s.muts a ha
  rw [upd_ne (ne_of_none e hp)]
theorem notin_new {p : Addr} (s : SR K Z α H S) (hp : H p = none) : p ∉ α ∧ p ∉ Z := by
  refine ⟨fun h => ?_, fun h => (s.zs p h).2 hp⟩
  obtain ⟨u, e, _⟩ := s.muts p h
  rw [hp] at e; cases e
/-- a new list of the store's -/
theorem Tr.alloc {p : Addr} {xs : List V} (s : SR K Z α H S) (hp : H p = none) : Tr α H (α ++ [p]) (upd H p (.lst xs)) := by
  refine ⟨fun a u h _ => by rw [upd_ne (ne_of_none h hp)]; exact h, ⟨[p], rfl, fun a ha => by rw [List.mem_singleton.mp ha]; exact hp⟩, fun a ha => ?_⟩
  rcases List.mem_append.mp ha with ha | ha
  · obtain ⟨u, e, _⟩ := s.muts a ha
    rw [upd_ne (ne_of_none e hp), e]
    exact fun z => by cases z
  · rw [List.mem_singleton.mp ha, upd_same]; exact fun z => by cases z
theorem SR.alloc {p : Addr} {xs : List V} {ms : List M} (s : SR K Z α H S) (hp : H p = none) (r : RepL K Z α H ms xs) : SR K Z (α ++ [p]) (upd H p (.lst xs)) (S ++ [.lst ms]) := by
  have t := Tr.alloc (xs := xs) s hp
  refine ⟨List.nodup_append.mpr ⟨s.nd, by simp, fun a ha b hb => ?_⟩, by simp [s.len], fun n o e => ?_, fun a ha => s.zkeep t ha⟩
  · rw [List.mem_singleton.mp hb]; rintro rfl; exact (notin_new s hp).1 ha
  · by_cases hn : n < S.length
    · rw [List.getElem?_append_left hn] at e
      obtain ⟨a, ha, ob⟩ := s.obj n o e
      refine ⟨a, get_tr t ha, ?_⟩
      have hm : a ∈ α := List.mem_of_getElem? ha
      obtain ⟨u, hu, _⟩ := s.muts a hm
      cases o with
      | lst ms =>
        obtain ⟨ys, e, q⟩ := ob
        exact ⟨ys, by rw [upd_ne (ne_of_none hu hp)]; exact e, RepL.tr s.muts t _ _ q⟩
    · have hn' : S.length ≤ n := by omega
      rw [List.getElem?_append_right hn'] at e
      have h0 : n - S.length = 0 := by
        have := (List.getElem?_eq_some_iff.mp e).1
        simp at this; omega
      rw [h0] at e
      simp at e
      subst e
      refine ⟨p, ?_, xs, upd_same, RepL.tr s.muts t _ _ r⟩
      rw [List.getElem?_append_right (by rw [s.len]; exact hn'), s.len, h0]; rfl
/-- a new list, however it is held -/
theorem Out.mkL {al : Bool} {ms : List M} {xs : List V} {Q : VK} {p : Addr} (s : SR K Z α H S) (r : RepL K Z α H ms xs) (hp : H p = none) (h : Out K Z mg E (mkL al ms S) α H (PM K Z Q)) : Q (.ref p) (upd H p (.lst xs)) := by
  unfold Mi.mkL at h
  cases al with
  | true =>
    rw [if_pos rfl] at h
    refine h (α ++ [p]) _ (Tr.alloc s hp) (SR.alloc s hp r) (.ref p) ?_
    simp only [Rep]
    exact ⟨p, by rw [List.getElem?_append_right (by rw [s.len]; exact Nat.le_refl _), s.len]; simp, rfl⟩
  | false =>
    rw [if_neg (by simp)] at h
    have t := Tr.new (o := .lst xs) s hp
    refine h α _ t (SR.new s hp) (.ref p) ?_
    simp only [Rep]
    exact ⟨p, xs, rfl, upd_same, notin_new s hp, RepL.tr s.muts t _ _ r⟩
theorem Out.mkT {ms : List M} {xs : List V} {Q : VK} {p : Addr} (s : SR K Z α H S) (r : RepL K Z α H ms xs) (hp : H p = none) (h : Out K Z mg E (.ok (.tup ms) S) α H (PM K Z Q)) : Q (.ref p) (upd H p (.tup xs)) := by
  have t := Tr.new (o := .tup xs) s hp
  refine h α _ t (SR.new s hp) (.ref p) ?_
  simp only [Rep]
  exact ⟨p, xs, rfl, .of upd_same, RepL.tr s.muts t _ _ r⟩
end
end Mi

namespace Mi
open PySem PySem.Spec L2

theorem OpR.or {X : Cx} {f : Value → Value → Sem Value} {r r' : R2} (h : OpR X f r) (h' : OpR X f r') : OpR X f (fun x y H Q => r x y H Q ∨ r' x y H Q) := by
  intro pins s σ H x y v u Q I rx ry q
  rcases q with q | q
  · exact h pins s σ H x y v u Q I rx ry q
  · exact h' pins s σ H x y v u Q I rx ry q

section
variable {K : PySem.W.Frag} {mg : Str → Option Value} {E : XK} {Z α : List Addr} {H : Hp} {S : Store} {Q : VK}

theorem lst_rep {m : M} {v : V} {ms : List M} (s : SR K Z α H S) (h : Rep K Z α H m v) (e : lstOf S m = some ms) : ∃ a xs, v = .ref a ∧ H a = some (.lst xs) ∧ RepL K Z α H ms xs := by
  cases m with
  | lst l =>
    simp only [lstOf, Option.some.injEq] at e; subst e
    simp only [Rep] at h
    obtain ⟨a, xs, rfl, h, _, r⟩ := h
    exact ⟨a, xs, rfl, h, r⟩
  | ref n =>
    simp only [lstOf] at e
    simp only [Rep] at h
    obtain ⟨a, ha, rfl⟩ := h
    cases q : S[n]? with
    | none => rw [q] at e; cases e
    | some o =>
      rw [q] at e
      obtain ⟨a', ha', ob⟩ := s.obj n o q
      rw [ha] at ha'; cases ha'
      cases o with
      | lst l =>
        cases e
        obtain ⟨xs, hx, r⟩ := ob
        exact ⟨a, xs, rfl, hx, r⟩
  | tup l => simp [lstOf] at e
  | scr l => simp [lstOf] at e
  | non => simp [lstOf] at e
  | bl b => simp [lstOf] at e
  | int b => simp [lstOf] at e
  | str b => simp [lstOf] at e
theorem lstOf_seq {m : M} {ms : List M} (e : lstOf S m = some ms) : seqOf S m = some ms := by
  cases m <;> simp_all [lstOf, seqOf] <;> exact e

theorem RepL.flatrep {ms : List M} {xs : List V} (h : RepL K Z α H ms xs) : ∀ k : Nat, RepL K Z α H (List.replicate k ms).flatten (List.replicate k xs).flatten
  | 0 => by simp [RepL]
  | k + 1 => by
    rw [List.replicate_succ, List.replicate_succ, List.flatten_cons, List.flatten_cons]
    exact RepL.append h (RepL.flatrep h k)
theorem log_lt {i : Int} (h : i.natAbs < 2 ^ 4096) : i.natAbs.log2 < 4096 := PySem.Flt.log2_lt_of (by decide) h

/-- the wish of a pair of operands -/
def rBin (K : PySem.W.Frag) (o : Bop) : R2 := match o with
  | .add => fun x y H Q => (rI0 (fun i j => .int (i + j)) x y H Q ∨ (∃ i j, x = .str i ∧ y = .str j ∧ i.length + j.length ≤ sizeLine ∧ Q (.str (i ++ j)) H)) ∨ (rCat x y H Q ∨ rCatA K x y H Q)
  | .sub => rI0 fun i j => .int (i - j)
  | .mul => fun x y H Q => (rI CMul (fun i j => .int (i * j)) x y H Q ∨ rI CMulW (fun i j => .int (i * j)) x y H Q) ∨ rRep x y H Q
  | .mod => rI (fun _ j => 0 < j) fun i j => .int (i % j)
  | .fdiv => rI CDivW fun i j => .int (i / j)
  | .pow => rI CPow fun i j => .int (i ^ j.toNat)
  | .shl => rI CPow fun i j => .int (i * 2 ^ j.toNat)
def Bop.op : Bop → Operator
  | .add => .Add
  | .sub => .Sub
  | .mul => .Mult
  | .mod => .Mod
  | .fdiv => .FloorDiv
  | .pow => .Pow
  | .shl => .LShift
theorem op_bin {X : Cx} (o : Bop) : OpR X (binaryOp o.op) (rBin X.K o) := by
  cases o with
  | add => exact (OpR.or (OpR.or op_add op_add_str) (OpR.or op_cat op_catA))
  | sub => exact op_sub
  | mul => exact (OpR.or (OpR.or op_mul op_mulW) op_rep)
  | mod => exact op_mod
  | fdiv => exact op_fdivW
  | pow => exact op_pow
  | shl => exact op_shl

theorem out_int {i : Int} (s : SR K Z α H S) (h : Out K Z mg E (.ok (.int i) S) α H (PM K Z Q)) : Q (.int i) H := h.now s (.int i) (by simp only [Rep])
theorem out_bl {b : Bool} (s : SR K Z α H S) (h : Out K Z mg E (.ok (.bl b) S) α H (PM K Z Q)) : Q (.bl b) H := h.now s (.bl b) (by simp only [Rep])
theorem out_str {b : Str} (s : SR K Z α H S) (h : Out K Z mg E (.ok (.str b) S) α H (PM K Z Q)) : Q (.str b) H := h.now s (.str b) (by simp only [Rep])
theorem out_val {m : M} {v : V} (s : SR K Z α H S) (r : Rep K Z α H m v) (h : Out K Z mg E (.ok m S) α H (PM K Z Q)) : Q v H := h.now s v r

theorem rep_int {i : Int} {x : V} (h : Rep K Z α H (.int i) x) : x = .int i := by simpa only [Rep] using h
theorem rep_bl {i : Bool} {x : V} (h : Rep K Z α H (.bl i) x) : x = .bl i := by simpa only [Rep] using h
theorem rep_str {i : Str} {x : V} (h : Rep K Z α H (.str i) x) : x = .str i := by simpa only [Rep] using h
theorem rep_non {x : V} (h : Rep K Z α H .non x) : x = .non := by simpa only [Rep] using h

theorem cat_out {al : Bool} {m n : M} {x y : V} (s : SR K Z α H S) (rx : Rep K Z α H m x) (ry : Rep K Z α H n y)
    (h : Out K Z mg E (.of (lstOf S m) fun xs => .of (lstOf S n) fun ys => .when (xs.length + ys.length ≤ big) (mkL al (xs ++ ys) S)) α H (PM K Z Q)) : rCat x y H Q := by
  obtain ⟨xs, e1, h⟩ := h.of
  obtain ⟨ys, e2, h⟩ := h.of
  obtain ⟨hl, h⟩ := h.when
  obtain ⟨a, us, rfl, ha, r1⟩ := lst_rep s rx e1
  obtain ⟨b, ws, rfl, hb, r2⟩ := lst_rep s ry e2
  have l1 := r1.length
  have l2 := r2.length
  have := big_line
  exact ⟨a, b, us, ws, rfl, rfl, ha, hb, by omega, fun p hp => Out.mkL s (r1.append r2) hp h⟩
theorem rep_out {al : Bool} {m : M} {k : Int} {x y : V} (s : SR K Z α H S) (rx : Rep K Z α H m x) (ry : Rep K Z α H (.int k) y)
    (h : Out K Z mg E (.of (lstOf S m) fun xs => .when (k.natAbs < 2 ^ 63 ∧ xs.length * k.toNat ≤ big) (mkL al (List.replicate k.toNat xs).flatten S)) α H (PM K Z Q)) : rRep x y H Q := by
  obtain ⟨xs, e1, h⟩ := h.of
  obtain ⟨⟨k0, hl⟩, h⟩ := h.when
  have k1 : -(2 ^ 63 : Int) ≤ k := by omega
  have k2 : k < 2 ^ 63 := by omega
  obtain ⟨a, us, rfl, ha, r1⟩ := lst_rep s rx e1
  have l1 := r1.length
  have := big_line
  refine ⟨a, k, us, rfl, rep_int ry, ha, k1, k2, Nat.le_trans (by rw [← l1]; exact hl) (Nat.le_of_lt big_line), fun p hp => ?_⟩
  exact Out.mkL s (r1.flatrep k.toNat) hp h
theorem bin_out {al : Bool} {o : Bop} {m n : M} {x y : V} (s : SR K Z α H S) (rx : Rep K Z α H m x) (ry : Rep K Z α H n y) (h : Out K Z mg E (binop al o m n S) α H (PM K Z Q)) : rBin K o x y H Q := by
  unfold binop at h
  split at h
  · exact .inl (.inl ⟨_, _, rep_int rx, rep_int ry, out_int s h⟩)
  · exact ⟨_, _, rep_int rx, rep_int ry, out_int s h⟩
  · obtain ⟨c, h⟩ := h.when
    rcases c with c | ⟨c1, c2⟩
    · exact .inl (.inl ⟨_, _, rep_int rx, rep_int ry, c.imp (fun c => ⟨by omega, by omega⟩) fun c => ⟨by omega, by omega⟩, out_int s h⟩)
    · exact .inl (.inr ⟨_, _, rep_int rx, rep_int ry, wide_mul c1 c2 (by decide) (by decide) (by decide), out_int s h⟩)
  · obtain ⟨c, h⟩ := h.when
    exact ⟨_, _, rep_int rx, rep_int ry, c, out_int s h⟩
  · obtain ⟨⟨c1, c2⟩, h⟩ := h.when
    exact ⟨_, _, rep_int rx, rep_int ry, wide_div c1 (b := 4096) (by omega) (by decide) (by decide), out_int s h⟩
  · obtain ⟨c, h⟩ := h.when
    exact ⟨_, _, rep_int rx, rep_int ry, ⟨c.1, by omega, c.2.2⟩, out_int s h⟩
  · obtain ⟨c, h⟩ := h.when
    exact ⟨_, _, rep_int rx, rep_int ry, ⟨c.1, by omega, c.2.2⟩, out_int s h⟩
  · obtain ⟨c, h⟩ := h.when
    have := big_line
    exact .inl (.inr ⟨_, _, rep_str rx, rep_str ry, by omega, out_str s h⟩)
  · rename_i xs ys
    obtain ⟨c, h⟩ := h.when
    simp only [Rep] at rx ry
    obtain ⟨a, us, rfl, ha, r1⟩ := rx
    obtain ⟨b, ws, rfl, hb, r2⟩ := ry
    have l1 := r1.length
    have l2 := r2.length
    have := big_line
    refine .inr (.inr ⟨a, b, us, ws, rfl, rfl, ha, hb, by omega, fun z => ?_, fun _ z => ?_, fun _ _ p hp => Out.mkT s (r1.append r2) hp h⟩)
    · have e : xs = [] := List.eq_nil_of_length_eq_zero (by rw [l1, z]; rfl)
      subst e
      exact out_val s (m := .tup ys) (by simp only [Rep]; exact ⟨b, ws, rfl, hb, r2⟩) h
    · have e : ys = [] := List.eq_nil_of_length_eq_zero (by rw [l2, z]; rfl)
      subst e
      rw [List.append_nil] at h
      exact out_val s (m := .tup xs) (by simp only [Rep]; exact ⟨a, us, rfl, ha, r1⟩) h
  · exact .inr (.inl (cat_out s rx ry h))
  · exact .inr (rep_out s rx ry h)
  · exact False.elim h

/-! ### comparisons -/
theorem eqM_scal {m n : M} {b : Bool} {x y : V} (rx : Rep K Z α H m x) (ry : Rep K Z α H n y) (e : eqM m n = some b) : scal x y = true ∧ decide (x = y) = b := by
  cases m <;> cases n <;> simp only [eqM, Option.some.injEq, reduceCtorEq] at e <;> subst e
  all_goals simp only [Rep] at rx ry; subst rx; subst ry
  all_goals simp [scal]
  all_goals first | rfl | (rw [Bool.eq_iff_iff]; simp)
theorem intsOf_map : ∀ {ms : List M} {is : List Int}, intsOf ms = some is → ms = is.map M.int
  | [], is, h => by simp only [intsOf, Option.some.injEq] at h; subst h; rfl
  | .int i :: r, is, h => by
    simp only [intsOf, Option.map_eq_some_iff] at h
    obtain ⟨js, e, rfl⟩ := h
    rw [intsOf_map e]; rfl
  | .non :: r, is, h => by simp [intsOf] at h
  | .bl _ :: r, is, h => by simp [intsOf] at h
  | .str _ :: r, is, h => by simp [intsOf] at h
  | .tup _ :: r, is, h => by simp [intsOf] at h
  | .lst _ :: r, is, h => by simp [intsOf] at h
  | .scr _ :: r, is, h => by simp [intsOf] at h
  | .ref _ :: r, is, h => by simp [intsOf] at h
theorem inV_ints (i : Int) : ∀ is : List Int, inV (.int i) (is.map V.int) = decide (i ∈ is)
  | [] => by simp [inV]
  | j :: r => by
    have ih := inV_ints i r
    unfold inV at ih ⊢
    rw [List.map_cons, List.any_cons, ih]
    have e : eqV (.int j) (.int i) = decide (i = j) := by
      show (j == i) = _
      rw [Bool.beq_eq_decide_eq]
      exact decide_eq_decide.mpr eq_comm
    rw [e, Bool.eq_iff_iff, Bool.or_eq_true, decide_eq_true_iff, decide_eq_true_iff, decide_eq_true_iff, List.mem_cons]
theorem flat_ints (is : List Int) : (is.map V.int).all flatV = true := by simp [flatV]

def rCmp (K : PySem.W.Frag) (o : Cop) : R2 := match o with
  | .eq => rEq
  | .ne => rNe
  | .lt => rI0 fun i j => .bl (decide (i < j))
  | .le => rI0 fun i j => .bl (decide (i ≤ j))
  | .gt => rI0 fun i j => .bl (decide (j < i))
  | .ge => rI0 fun i j => .bl (decide (j ≤ i))
  | .isN => fun x y H Q => y = .non ∧ Q (.bl (decide (x = .non))) H
  | .notN => fun x y H Q => y = .non ∧ Q (.bl (!decide (x = .non))) H
  | .isin => rIn K false
  | .notin => rIn K true
def Cop.op : Cop → CmpOp
  | .eq => .Eq
  | .ne => .NotEq
  | .lt => .Lt
  | .le => .LtE
  | .gt => .Gt
  | .ge => .GtE
  | .isN => .Is
  | .notN => .IsNot
  | .isin => .In
  | .notin => .NotIn
theorem op_cmp {X : Cx} (o : Cop) : OpR X (compareOp o.op) (rCmp X.K o) := by
  cases o with
  | eq => exact op_eq
  | ne => exact op_ne
  | lt => exact op_lt
  | le => exact op_le
  | gt => exact op_gt
  | ge => exact op_ge
  | isN => exact op_isN
  | notN => exact op_notN
  | isin => exact op_in_seq
  | notin => exact op_notIn_seq
theorem isN_rep {m : M} {x : V} (r : Rep K Z α H m x) : decide (x = .non) = isNon m := by
  cases m <;> simp only [Rep] at r
  case non => simp [r, isNon]
  case bl => simp [r, isNon]
  case int => simp [r, isNon]
  case str => simp [r, isNon]
  case tup => obtain ⟨a, xs, rfl, _⟩ := r; simp [isNon]
  case lst => obtain ⟨a, xs, rfl, _⟩ := r; simp [isNon]
  case scr => obtain ⟨a, rfl, _⟩ := r; simp [isNon]
  case ref => obtain ⟨a, _, rfl⟩ := r; simp [isNon]
theorem notN_rep {m : M} {x : V} (r : Rep K Z α H m x) : (!decide (x = .non)) = !isNon m := by
  rw [isN_rep r]
theorem in_rep {y : V} {n : M} {is : List Int} (s : SR K Z α H S) (ry : Rep K Z α H n y) (e : (seqOf S n).bind intsOf = some is) : ∃ p, y = .ref p ∧ (SqL K H p (is.map V.int) ∨ SqT K H p (is.map V.int)) := by
  obtain ⟨ms, e1, e2⟩ := Option.bind_eq_some_iff.mp e
  obtain ⟨a, xs, rfl, hs, r⟩ := seq_rep s ry e1
  rw [intsOf_map e2] at r
  have := RepL.ints r
  subst this
  exact ⟨a, rfl, hs.imp And.left And.left⟩
theorem cmp_out {o : Cop} {m n : M} {x y : V} (s : SR K Z α H S) (rx : Rep K Z α H m x) (ry : Rep K Z α H n y) (h : Out K Z mg E (cmpop o m n S) α H (PM K Z Q)) : rCmp K o x y H Q := by
  unfold cmpop at h
  split at h
  · obtain ⟨b, e, h⟩ := h.of
    obtain ⟨e1, e2⟩ := eqM_scal rx ry e
    refine ⟨e1, ?_⟩
    rw [e2]; exact out_bl s h
  · obtain ⟨b, e, h⟩ := h.of
    obtain ⟨e1, e2⟩ := eqM_scal rx ry e
    refine ⟨e1, ?_⟩
    rw [e2]; exact out_bl s h
  · exact ⟨_, _, rep_int rx, rep_int ry, out_bl s h⟩
  · exact ⟨_, _, rep_int rx, rep_int ry, out_bl s h⟩
  · exact ⟨_, _, rep_int rx, rep_int ry, out_bl s h⟩
  · exact ⟨_, _, rep_int rx, rep_int ry, out_bl s h⟩
  · refine ⟨rep_non ry, ?_⟩
    rw [isN_rep rx]; exact out_bl s h
  · refine ⟨rep_non ry, ?_⟩
    rw [notN_rep rx]; exact out_bl s h
  · obtain ⟨is, e, h⟩ := h.of
    obtain ⟨p, rfl, hs⟩ := in_rep s ry e
    refine ⟨p, _, rfl, hs, by rw [rep_int rx]; rfl, flat_ints is, ?_⟩
    rw [rep_int rx, if_neg (by simp), inV_ints]
    exact out_bl s h
  · obtain ⟨is, e, h⟩ := h.of
    obtain ⟨p, rfl, hs⟩ := in_rep s ry e
    refine ⟨p, _, rfl, hs, by rw [rep_int rx]; rfl, flat_ints is, ?_⟩
    rw [rep_int rx, if_pos rfl, inV_ints]
    exact out_bl s h
  · exact False.elim h
end
end Mi

namespace Mi
open PySem PySem.Spec L2
section
variable {K : PySem.W.Frag} {mg : Str → Option Value} {E : XK} {Z α : List Addr} {H : Hp} {S : Store} {Q : VK}

theorem atI_rep {ms : List M} {xs : List V} {i : Int} {m : M} (r : RepL K Z α H ms xs) (e : atI ms i = some m) : ∃ v, atI xs i = some v ∧ Rep K Z α H m v := by
  unfold atI at e ⊢
  obtain ⟨j, e1, e2⟩ := Option.bind_eq_some_iff.mp e
  obtain ⟨x, h1, h2⟩ := r.get e2
  rw [← r.length, e1]
  exact ⟨x, h1, h2⟩
theorem ix_out {a i : M} {x y : V} (s : SR K Z α H S) (rx : Rep K Z α H a x) (ry : Rep K Z α H i y) (h : Out K Z mg E (ixop a i S) α H (PM K Z Q)) : rIxL K x y H Q ∨ rIxT K x y H Q := by
  unfold ixop at h
  split at h
  · obtain ⟨ms, e1, h⟩ := h.of
    obtain ⟨m, e2, h⟩ := h.of
    obtain ⟨p, xs, rfl, hs, r⟩ := seq_rep s rx e1
    obtain ⟨v, e3, rv⟩ := atI_rep r e2
    have q := out_val s rv h
    rcases hs with ⟨hs, _⟩ | ⟨hs, _⟩
    · exact .inl ⟨p, xs, _, v, rfl, rep_int ry, hs, e3, q⟩
    · exact .inr ⟨p, xs, _, v, rfl, rep_int ry, hs, e3, q⟩
  · exact False.elim h
/-! ### truth -/
theorem empty_rep {ms : List M} {xs : List V} (r : RepL K Z α H ms xs) : (!ms.isEmpty) = !xs.isEmpty := by
  have := r.length
  cases ms <;> cases xs <;> simp_all
theorem truth_rep {m : M} {x : V} {b : Bool} (s : SR K Z α H S) (r : Rep K Z α H m x) (e : truth S m = some b) : TruV K x H b := by
  cases m with
  | non => rw [rep_non r]; simp only [truth, Option.some.injEq] at e; subst e; rfl
  | bl c => rw [rep_bl r]; simp only [truth, Option.some.injEq] at e; subst e; rfl
  | int c => rw [rep_int r]; simp only [truth, Option.some.injEq] at e; subst e; rfl
  | str c =>
    rw [rep_str r]; simp only [truth] at e
    split at e
    · have := big_line
      simp only [Option.some.injEq] at e
      exact ⟨by omega, e.symm⟩
    · cases e
  | tup ms =>
    simp only [truth, Option.some.injEq] at e; subst e
    simp only [Rep] at r
    obtain ⟨a, xs, rfl, h, q⟩ := r
    exact .inr (.inl ⟨xs, h, empty_rep q⟩)
  | lst ms =>
    simp only [truth, Option.some.injEq] at e; subst e
    simp only [Rep] at r
    obtain ⟨a, xs, rfl, h, _, q⟩ := r
    exact .inl ⟨xs, .of h, empty_rep q⟩
  | scr ns => simp [truth] at e
  | ref n =>
    have hl : ∃ ms, lstOf S (.ref n) = some ms ∧ b = !ms.isEmpty := by
      simp only [truth] at e
      simp only [lstOf]
      split at e
      · simp only [Option.some.injEq] at e; exact ⟨_, rfl, e.symm⟩
      · cases e
    obtain ⟨ms, hl, rfl⟩ := hl
    obtain ⟨a, xs, rfl, h, q⟩ := lst_rep s r hl
    exact .inl ⟨xs, .of h, empty_rep q⟩
/-! ### slices -/
theorem cut_rep {ms : List M} {xs : List V} (lo hi : Option Int) (r : RepL K Z α H ms xs) : RepL K Z α H (cutM ms lo hi) (cutV xs lo hi) := by
  unfold cutM cutV
  rw [r.length]
  exact (r.drop _).take _
theorem cut_len (xs : List V) (lo hi : Option Int) : (cutV xs lo hi).length ≤ xs.length := cutV_length xs lo hi
/-! ### built-in calls -/
theorem isort_ins (a : Int) : ∀ l : List Int, (insI a l).Perm (a :: l)
  | [] => .refl _
  | b :: r => by
    unfold insI
    split
    · exact .refl _
    · exact (List.Perm.cons b (isort_ins a r)).trans (List.Perm.swap a b r)
theorem isort_perm : ∀ l : List Int, (isort l).Perm l
  | [] => .refl _
  | a :: r => (isort_ins a (isort r)).trans (List.Perm.cons a (isort_perm r))
theorem insI_sorted (a : Int) : ∀ l : List Int, l.Pairwise (· ≤ ·) → (insI a l).Pairwise (· ≤ ·)
  | [], _ => by simp [insI]
  | b :: r, h => by
    unfold insI
    obtain ⟨h1, h2⟩ := List.pairwise_cons.mp h
    split
    · rename_i hab
      refine List.pairwise_cons.mpr ⟨fun c hc => ?_, h⟩
      rcases List.mem_cons.mp hc with rfl | hc
      · exact hab
      · exact Int.le_trans hab (h1 c hc)
    · rename_i hab
      refine List.pairwise_cons.mpr ⟨fun c hc => ?_, insI_sorted a r h2⟩
      rcases List.mem_cons.mp ((isort_ins a r).mem_iff.mp hc) with rfl | hc
      · omega
      · exact h1 c hc
theorem isort_sorted : ∀ l : List Int, (isort l).Pairwise (· ≤ ·)
  | [] => .nil
  | a :: r => insI_sorted a _ (isort_sorted r)
theorem isort_same {l l' : List Int} (p : l'.Perm l) (s : l'.Pairwise (· ≤ ·)) : l' = isort l := PySem.W.ksm_same (p.trans (isort_perm l).symm) s (isort_sorted l)
theorem maxZ_le : ∀ (l : List Int) (y : Int), y ∈ l → y ≤ maxZ l
  | [a], y, h => by simp at h; subst h; exact Int.le_refl _
  | a :: b :: r, y, h => by
    have ih := maxZ_le (b :: r)
    rw [maxZ]
    rcases List.mem_cons.mp h with rfl | h
    · omega
    · have := ih y h; omega
    · simp
theorem maxZ_mem : ∀ (l : List Int), l ≠ [] → maxZ l ∈ l
  | [a], _ => by simp [maxZ]
  | a :: b :: r, _ => by
    have ih := maxZ_mem (b :: r) (by simp)
    rw [maxZ]
    · by_cases h : a ≤ maxZ (b :: r)
      · rw [Int.max_eq_right h]; exact List.mem_cons_of_mem _ ih
      · rw [Int.max_eq_left (by omega)]; simp
    · simp
theorem minZ_le : ∀ (l : List Int) (y : Int), y ∈ l → minZ l ≤ y
  | [a], y, h => by simp at h; subst h; exact Int.le_refl _
  | a :: b :: r, y, h => by
    have ih := minZ_le (b :: r)
    rw [minZ]
    rcases List.mem_cons.mp h with rfl | h
    · omega
    · have := ih y h; omega
    · simp
theorem minZ_mem : ∀ (l : List Int), l ≠ [] → minZ l ∈ l
  | [a], _ => by simp [minZ]
  | a :: b :: r, _ => by
    have ih := minZ_mem (b :: r) (by simp)
    rw [minZ]
    · by_cases h : a ≤ minZ (b :: r)
      · rw [Int.min_eq_left h]; simp
      · rw [Int.min_eq_right (by omega)]; exact List.mem_cons_of_mem _ ih
    · simp
/-- the name, the value of a built-in -/
def Bi.name : Bi → String
  | .abs => "abs"
  | .max => "max"
  | .min => "min"
  | .int => "int"
  | .len => "len"
  | .sum => "sum"
  | .list _ => "list"
  | .tuple => "tuple"
  | .sorted _ => "sorted"
  | .maxL => "max"
  | .minL => "min"
  | .str => "str"
def Bi.isT : Bi → Bool
  | .int => true
  | .list _ => true
  | .tuple => true
  | .str => true
  | _ => false
def rBi (K : PySem.W.Frag) : Bi → List V → Hp → VK → Prop
  | .abs => fun xs H Q => ∃ i, xs = [.int i] ∧ Q (.int (if i < 0 then -i else i)) H
  | .max => fun xs H Q => ∃ i j, xs = [.int i, .int j] ∧ Q (.int (if j > i then j else i)) H
  | .min => fun xs H Q => ∃ i j, xs = [.int i, .int j] ∧ Q (.int (if j < i then j else i)) H
  | .int => fun xs H Q => (∃ i, xs = [.int i] ∧ Q (.int i) H) ∨ ∃ k, xs = [.bl k] ∧ Q (.int (if k then 1 else 0)) H
  | .len => fun xs H Q => (∃ p ys, xs = [.ref p] ∧ (SqL K H p ys ∨ SqT K H p ys) ∧ Q (.int ys.length) H) ∨ (∃ z, xs = [.str z] ∧ z.length ≤ sizeLine ∧ Q (.int z.length) H)
  | .sum => rSum K
  | .list _ => fun xs H Q => ∃ p ys, xs = [.ref p] ∧ (SqL K H p ys ∨ SqT K H p ys) ∧ ∀ l, H l = none → Q (.ref l) (upd H l (.lst ys))
  | .tuple => fun xs H Q => ∃ p ys, xs = [.ref p] ∧ ((SqL K H p ys ∧ ∀ l, H l = none → Q (.ref l) (upd H l (.tup ys))) ∨ (SqT K H p ys ∧ Q (.ref p) H))
  | .sorted _ => rSorted K
  | .maxL => rMax K
  | .minL => rMin K
  | .str => fun xs H Q => ∃ i, xs = [.int i] ∧ i.natAbs.log2 < 1920 ∧ Q (.str (toString i)) H
def Bi.val (b : Bi) : Value := if b.isT = true then .type b.name else .builtin b.name
theorem call_bi {X : Cx} (hc : X.calm = true) (b : Bi) : CallR X b.val (rBi X.K b) := by
  cases b with
  | abs => exact call_abs
  | max => exact call_max2 hc
  | min => exact call_min2 hc
  | int => exact call_int1
  | len => exact CallR.or call_len_seq call_len_str
  | sum => exact cr_sum hc
  | list al => exact call_list_of
  | tuple => exact call_tuple_of
  | sorted al => exact cr_sorted
  | maxL => exact cr_max hc
  | minL => exact cr_min hc
  | str => exact call_str_int
theorem repl1 {m : M} {xs : List V} (r : RepL K Z α H [m] xs) : ∃ x, xs = [x] ∧ Rep K Z α H m x := by
  simp only [RepL] at r
  obtain ⟨x, r', rfl, h, rfl⟩ := r
  exact ⟨x, rfl, h⟩
theorem repl2 {m n : M} {xs : List V} (r : RepL K Z α H [m, n] xs) : ∃ x y, xs = [x, y] ∧ Rep K Z α H m x ∧ Rep K Z α H n y := by
  simp only [RepL] at r
  obtain ⟨x, r', rfl, h, y, r2, rfl, h2, rfl⟩ := r
  exact ⟨x, y, rfl, h, h2⟩
theorem ints_rep {x : V} {n : M} {is : List Int} (s : SR K Z α H S) (r : Rep K Z α H n x) (e : (lstOf S n).bind intsOf = some is) : ∃ p, x = .ref p ∧ H p = some (.lst (is.map V.int)) := by
  obtain ⟨ms, e1, e2⟩ := Option.bind_eq_some_iff.mp e
  obtain ⟨a, xs, rfl, hs, r⟩ := lst_rep s r e1
  rw [intsOf_map e2] at r
  have := RepL.ints r
  subst this
  exact ⟨a, rfl, hs⟩
theorem bi_out {b : Bi} {ms : List M} {xs : List V} (s : SR K Z α H S) (r : RepL K Z α H ms xs) (h : Out K Z mg E (biop b ms S) α H (PM K Z Q)) : rBi K b xs H Q := by
  unfold biop at h
  split at h
  · obtain ⟨x, rfl, rx⟩ := repl1 r
    exact ⟨_, by rw [rep_int rx], out_int s h⟩
  · obtain ⟨x, y, rfl, rx, ry⟩ := repl2 r
    exact ⟨_, _, by rw [rep_int rx, rep_int ry], out_int s h⟩
  · obtain ⟨x, y, rfl, rx, ry⟩ := repl2 r
    exact ⟨_, _, by rw [rep_int rx, rep_int ry], out_int s h⟩
  · obtain ⟨x, rfl, rx⟩ := repl1 r
    exact .inl ⟨_, by rw [rep_int rx], out_int s h⟩
  · obtain ⟨x, rfl, rx⟩ := repl1 r
    exact .inr ⟨_, by rw [rep_bl rx], out_int s h⟩
  · obtain ⟨x, rfl, rx⟩ := repl1 r
    obtain ⟨c, h⟩ := h.when
    have := big_line
    exact .inr ⟨_, by rw [rep_str rx], by omega, out_int s h⟩
  · obtain ⟨x, rfl, rx⟩ := repl1 r
    obtain ⟨ns, e, h⟩ := h.of
    obtain ⟨a, ys, rfl, hs, q⟩ := seq_rep s rx e
    refine .inl ⟨a, ys, rfl, hs.imp And.left And.left, ?_⟩
    rw [← q.length]; exact out_int s h
  · obtain ⟨x, rfl, rx⟩ := repl1 r
    obtain ⟨is, e, h⟩ := h.of
    obtain ⟨p, rfl, hp⟩ := ints_rep s rx e
    exact ⟨p, is, rfl, .of hp, out_int s h⟩
  · obtain ⟨x, rfl, rx⟩ := repl1 r
    obtain ⟨ns, e, h⟩ := h.of
    obtain ⟨a, ys, rfl, hs, q⟩ := seq_rep s rx e
    exact ⟨a, ys, rfl, hs.imp And.left And.left, fun p hp => Out.mkL s q hp h⟩
  · obtain ⟨x, rfl, rx⟩ := repl1 r
    obtain ⟨ns, e, h⟩ := h.of
    obtain ⟨a, ys, rfl, hs, q⟩ := seq_rep s rx e
    refine ⟨a, ys, rfl, ?_⟩
    rcases hs with ⟨hs, _⟩ | ⟨hs, em⟩
    · exact .inl ⟨hs, fun p hp => Out.mkT s q hp h⟩
    · refine .inr ⟨hs, out_val s ?_ h⟩
      rw [em] at rx; exact rx
  · obtain ⟨x, rfl, rx⟩ := repl1 r
    obtain ⟨is, e, h⟩ := h.of
    obtain ⟨c, h⟩ := h.when
    obtain ⟨p, rfl, hp⟩ := ints_rep s rx e
    refine ⟨p, is, rfl, .of hp, c, fun ns' q pm so hq => ?_⟩
    rw [isort_same pm so]
    exact Out.mkL s (RepL.of_ints _) hq h
  · obtain ⟨x, rfl, rx⟩ := repl1 r
    obtain ⟨is, e, h⟩ := h.of
    obtain ⟨c, h⟩ := h.when
    obtain ⟨p, rfl, hp⟩ := ints_rep s rx e
    refine ⟨p, is, rfl, .of hp, c, fun m hm hle => ?_⟩
    have ne : is ≠ [] := fun z => by rw [z] at c; cases c
    have : m = maxZ is := Int.le_antisymm (maxZ_le is m hm) (hle _ (maxZ_mem is ne))
    rw [this]; exact out_int s h
  · obtain ⟨x, rfl, rx⟩ := repl1 r
    obtain ⟨is, e, h⟩ := h.of
    obtain ⟨c, h⟩ := h.when
    obtain ⟨p, rfl, hp⟩ := ints_rep s rx e
    refine ⟨p, is, rfl, .of hp, c, fun m hm hle => ?_⟩
    have ne : is ≠ [] := fun z => by rw [z] at c; cases c
    have : m = minZ is := Int.le_antisymm (hle _ (minZ_mem is ne)) (minZ_le is m hm)
    rw [this]; exact out_int s h
  · obtain ⟨x, rfl, rx⟩ := repl1 r
    obtain ⟨c, h⟩ := h.when
    exact ⟨_, by rw [rep_int rx], by omega, out_str s h⟩
  · exact False.elim h
/-! ### isinstance -/
theorem ty_rep {m : M} {x : V} {t : String} (s : SR K Z α H S) (r : Rep K Z α H m x) (e : tyOf S m = some t) : TyX K H x (.type t) := by
  cases m with
  | non => rw [rep_non r]; simp only [tyOf, Option.some.injEq] at e; subst e; exact .base .non
  | bl c => rw [rep_bl r]; simp only [tyOf, Option.some.injEq] at e; subst e; exact .base (.bl _)
  | int c => rw [rep_int r]; simp only [tyOf, Option.some.injEq] at e; subst e; exact .base (.int _)
  | str c => rw [rep_str r]; simp only [tyOf, Option.some.injEq] at e; subst e; exact .base (.str _)
  | tup ms =>
    simp only [tyOf, Option.some.injEq] at e; subst e
    simp only [Rep] at r
    obtain ⟨a, xs, rfl, h, _⟩ := r
    rcases h with (h | ⟨o, h⟩) | ⟨o, its, n, h1, h2, _⟩
    · exact .base (.tup h)
    · exact .fTuple h
    · exact .kTuple h1 h2
  | lst ms =>
    simp only [tyOf, Option.some.injEq] at e; subst e
    simp only [Rep] at r
    obtain ⟨a, xs, rfl, h, _⟩ := r
    exact .base (.lst h)
  | scr ns => simp [tyOf] at e
  | ref n =>
    have hl : t = "list" ∧ ∃ ms, lstOf S (.ref n) = some ms := by
      simp only [tyOf] at e
      simp only [lstOf]
      split at e
      · simp only [Option.some.injEq] at e; exact ⟨e.symm, _, rfl⟩
      · cases e
    obtain ⟨rfl, ms, hl⟩ := hl
    obtain ⟨a, xs, rfl, h, _⟩ := lst_rep s r hl
    exact .base (.lst h)
def tyNames : List String := ["NoneType", "bool", "int", "str", "tuple", "list"]
def clNames : List String := ["bool", "int", "str", "tuple", "list", "dict"]
theorem kit_all : (tyNames.all fun t => clNames.all fun c => decide (kitB t c = some (isTy t c))) = true := by decide +kernel
theorem kit_isTy {t c : String} (ht : t ∈ tyNames) (hc : c ∈ clNames) : PySem.W.kitOne K (.type t) (.type c) = some (isTy t c) := by
  have := List.all_eq_true.mp (List.all_eq_true.mp kit_all t ht) c hc
  exact kit_ty (of_decide_eq_true this)
theorem kit_anyTy {t : String} (ht : t ∈ tyNames) : ∀ {cs : List String}, (∀ c ∈ cs, c ∈ clNames) → PySem.W.kitAny K (.type t) (cs.map Value.type) = some (cs.any (isTy t))
  | [], _ => kitAny_nil
  | c :: cs, h => by
    rw [List.map_cons, List.any_cons]
    refine kitAny_cons (kit_isTy ht (h c List.mem_cons_self)) (fun e => ?_) (fun e => by rw [e]; rfl)
    rw [e, Bool.false_or]
    exact kit_anyTy ht fun d hd => h d (List.mem_cons_of_mem _ hd)
theorem tyOf_mem {m : M} {t : String} (e : tyOf S m = some t) : t ∈ tyNames := by
  cases m with
  | ref n =>
    simp only [tyOf] at e
    split at e
    · simp only [Option.some.injEq] at e; subst e; decide
    · cases e
  | _ => simp only [tyOf, Option.some.injEq, reduceCtorEq] at e <;> subst e <;> decide
end
end Mi

namespace Mi
open PySem PySem.Spec L2

/-! ### statements -/
structure Fn where
  ps : List String
  kw : List (Nat × List Nat)
  ns : Nat
  body : Sms
def lim : Nat := 1000000000
/-- name op= value -/
def augop (o : Bop) (a b : M) (S : Store) : R M := match o, a, b with
  | .add, .int i, .int j => .ok (.int (i + j)) S
  | .sub, .int i, .int j => .ok (.int (i - j)) S
  | _, _, _ => .bad
/-- of a list only -/
def ixlop (a i : M) (S : Store) : R M := match i with
  | .int i => .of (lstOf S a) fun ms => .of (atI ms i) fun m => .ok m S
  | _ => .bad
section
variable (call : String → List M → Store → R M)
mutual
def ex : Sm → Env → Store → R F
  | .set i e, γ, S => (ev call e γ S).bind fun m S => .ok (.nx (γ.set i (some m))) S
  | .unp l e, γ, S => (ev call e γ S).bind fun m S => .of (bindT (.tu l) m γ) fun γ1 => .ok (.nx γ1) S
  | .par l es, γ, S => (evs call es γ S).bind fun ms S => .when (ms.length = l.length) (.ok (.nx (bindT.go l ms γ)) S)
  | .seti o i e, γ, S => (ev call e γ S).bind fun m S => (ev call o γ S).bind fun x S => (ev call i γ S).bind fun y S => (setiop x y m S).bind fun _ S => .ok (.nx γ) S
  | .augi op a i e, γ, S => (ev call a γ S).bind fun x S => (ev call i γ S).bind fun y S => (ixlop x y S).bind fun z S => (ev call e γ S).bind fun u S =>
      (augop op z u S).bind fun r S => (setiop x y r S).bind fun _ S => .ok (.nx γ) S
  | .aug op i e, γ, S => match γ[i]? with
    | some (some z) => (ev call e γ S).bind fun u S => (augop op z u S).bind fun r S => .ok (.nx (γ.set i (some r))) S
    | _ => .bad
  | .exp e, γ, S => (ev call e γ S).bind fun _ S => .ok (.nx γ) S
  | .ret e, γ, S => (ev call e γ S).bind fun m S => .ok (.ret m) S
  | .retN, _, S => .ok (.ret .non) S
  | .ife t a b, γ, S => (evT call t γ S).bind fun c S => if c = true then exs a γ S else exs b γ S
  | .for_ tg it b, γ, S => (evI call it γ S).bind fun s S => forLoop s (fun x γ S => .of (bindT tg x γ) fun γ1 => exs b γ1 S) s.items γ S
  | .while_ t b, γ, S => whileLoop (evT call t) (fun γ S => exs b γ S) lim γ S
  | .brk, γ, S => .ok (.brk γ) S
  | .cnt, γ, S => .ok (.cnt γ) S
  | .pass, γ, S => .ok (.nx γ) S
termination_by structural x => x
def exs : Sms → Env → Store → R F
  | .nil, γ, S => .ok (.nx γ) S
  | .cons a r, γ, S => (ex a γ S).bind fun f S => match f with
    | .nx γ1 => exs r γ1 S
    | f => .ok f S
termination_by structural x => x
end
end
def fin (f : F) (S : Store) : R M := match f with
  | .ret m => .ok m S
  | .nx _ => .ok .non S
  | _ => .bad
def evalFn (Φ : String → Option Fn) : Nat → String → List M → Store → R M
  | 0, _, _, _ => .bad
  | k + 1, f, ms, S => match Φ f with
    | none => .bad
    | some d => .when (ms.length = d.ps.length) ((exs (evalFn Φ k) d.body (ms.map some ++ List.replicate (d.ns - d.ps.length) none) S).bind fin)

section
variable {K : PySem.W.Frag} {mg : Str → Option Value} {E : XK} {Z α : List Addr} {H : Hp} {S : Store} {Q : VK}
/-! ### objects of the store are written -/
theorem Tr.put {n : Nat} {a : Addr} {u : HO} (s : SR K Z α H S) (ha : α[n]? = some a) : Tr α H α (upd H a u) := by
  have hm : a ∈ α := List.mem_of_getElem? ha
  refine ⟨fun b o h hb => by rw [upd_ne (show b ≠ a from fun e => hb (by rw [e]; exact hm))]; exact h, ⟨[], by simp, by simp⟩, fun b hb => ?_⟩
  by_cases e : b = a
  · rw [e, upd_same]; exact fun z => by cases z
  · rw [upd_ne e]; exact s.live b hb
theorem SR.put {n : Nat} {a : Addr} {xs : List V} {ms : List M} (s : SR K Z α H S) (ha : α[n]? = some a) (r : RepL K Z α H ms xs) : SR K Z α (upd H a (.lst xs)) (S.set n (.lst ms)) := by
  have t := Tr.put (u := .lst xs) s ha
  refine ⟨s.nd, by simp [s.len], fun k o e => ?_, fun a ha => s.zkeep t ha⟩
  by_cases hk : n = k
  · subst hk
    have hn : n < S.length := by rw [← s.len]; exact (List.getElem?_eq_some_iff.mp ha).1
    rw [List.getElem?_set_self hn] at e
    cases e
    exact ⟨a, ha, xs, upd_same, RepL.tr s.muts t _ _ r⟩
  · rw [List.getElem?_set_ne hk] at e
    obtain ⟨b, hb, ob⟩ := s.obj k o e
    have hne : b ≠ a := by
      rintro rfl
      obtain ⟨h1, e1⟩ := List.getElem?_eq_some_iff.mp ha
      obtain ⟨h2, e2⟩ := List.getElem?_eq_some_iff.mp hb
      exact hk ((List.getElem_inj s.nd).mp (e1.trans e2.symm))
    refine ⟨b, hb, ?_⟩
    cases o with
    | lst l =>
      obtain ⟨ys, e, q⟩ := ob
      exact ⟨ys, by rw [upd_ne hne]; exact e, RepL.tr s.muts t _ _ q⟩
theorem ref_get {n : Nat} {v : V} {ms : List M} (s : SR K Z α H S) (r : Rep K Z α H (.ref n) v) (e : S[n]? = some (.lst ms)) : ∃ a xs, v = .ref a ∧ α[n]? = some a ∧ H a = some (.lst xs) ∧ RepL K Z α H ms xs := by
  simp only [Rep] at r
  obtain ⟨a, ha, rfl⟩ := r
  obtain ⟨a', ha', ob⟩ := s.obj n _ e
  rw [ha] at ha'; cases ha'
  obtain ⟨xs, hx, q⟩ := ob
  exact ⟨a, xs, rfl, ha, hx, q⟩
theorem out_put {n : Nat} {a : Addr} {xs : List V} {ms : List M} {m : M} {v : V} (s : SR K Z α H S) (ha : α[n]? = some a) (r : RepL K Z α H ms xs) (rv : Rep K Z α H m v)
    (h : Out K Z mg E (.ok m (S.set n (.lst ms))) α H (PM K Z Q)) : Q v (upd H a (.lst xs)) :=
  h α _ (Tr.put s ha) (SR.put s ha r) v (Rep.tr s.muts (Tr.put s ha) m v rv)
/-- what a method asks -/
def rMe : Me → V → List V → Hp → VK → Prop
  | .append => rAppend
  | .pop => rPop
  | .extend => rExtend
theorem me_out {me : Me} {o : M} {as : List M} {x : V} {ys : List V} (s : SR K Z α H S) (rx : Rep K Z α H o x) (rs : RepL K Z α H as ys) (h : Out K Z mg E (meop me o as S) α H (PM K Z Q)) : rMe me x ys H Q := by
  unfold meop at h
  split at h
  · obtain ⟨ob, e, h⟩ := h.of
    split at h
    rename_i n o' xs
    obtain ⟨a, us, rfl, ha, hx, r⟩ := ref_get s rx e
    have hl := r.length
    have bl := big_line
    split at h
    · obtain ⟨c, h⟩ := h.when
      obtain ⟨y, rfl, ry⟩ := repl1 rs
      exact ⟨a, us, y, rfl, rfl, hx, by omega, out_put s ha (r.append (RepL.one ry)) (by simp only [Rep]) h⟩
    · obtain ⟨m, e2, h⟩ := h.of
      simp only [RepL] at rs
      subst rs
      obtain ⟨y, ey, ry⟩ := r.get e2
      exact ⟨a, us, y, rfl, rfl, hx, by rw [← hl]; exact ey, out_put s ha r.dropLast ry h⟩
    · obtain ⟨y, rfl, ry⟩ := repl1 rs
      split at h
      · obtain ⟨c, h⟩ := h.when
        simp only [Rep] at ry
        obtain ⟨b, zs, rfl, hb, _, rz⟩ := ry
        have hz := rz.length
        exact ⟨a, b, us, zs, rfl, rfl, hx, hb, by omega, out_put s ha (r.append rz) (by simp only [Rep]) h⟩
      · exact False.elim h
    · exact False.elim h
  · exact False.elim h
/-- o[i] = v -/
theorem seti_out {o i m : M} {x y v : V} {P : Hp → Prop} (s : SR K Z α H S) (rx : Rep K Z α H o x) (ry : Rep K Z α H i y) (rv : Rep K Z α H m v)
    (h : Out K Z mg E (setiop o i m S) α H fun _ _ _ H' => P H') : rSetL x y v H P := by
  unfold setiop at h
  split at h
  · rename_i n k
    obtain ⟨ob, e, h⟩ := h.of
    split at h
    rename_i o' xs
    obtain ⟨j, e2, h⟩ := h.of
    obtain ⟨a, us, rfl, ha, hx, r⟩ := ref_get s rx e
    exact ⟨a, us, k, j, rfl, rep_int ry, hx, by rw [← r.length]; exact e2, h α _ (Tr.put s ha) (SR.put s ha (r.set j rv))⟩
  · exact False.elim h

/-! ### calls that change nothing -/
mutual
theorem Rep.noref {β : List Addr} (hb : β = []) : ∀ (m : M) (v : V), m.noref = true → Rep K Z α H m v → Rep K Z β H m v
  | .non, v, _, h => by simpa only [Rep] using h
  | .bl b, v, _, h => by simpa only [Rep] using h
  | .int i, v, _, h => by simpa only [Rep] using h
  | .str s, v, _, h => by simpa only [Rep] using h
  | .scr ns, v, _, h => by simpa only [Rep] using h
  | .ref n, v, e, h => by simp [M.noref] at e
  | .tup ms, v, e, h => by
    simp only [M.noref] at e
    simp only [Rep] at h ⊢
    obtain ⟨a, xs, rfl, hs, r⟩ := h
    exact ⟨a, xs, rfl, hs, RepL.noref hb ms xs e r⟩
  | .lst ms, v, e, h => by
    simp only [M.noref] at e
    simp only [Rep] at h ⊢
    obtain ⟨a, xs, rfl, hs, n, r⟩ := h
    exact ⟨a, xs, rfl, hs, ⟨by rw [hb]; simp, n.2⟩, RepL.noref hb ms xs e r⟩
theorem RepL.noref {β : List Addr} (hb : β = []) : ∀ (ms : List M) (xs : List V), M.noref.go ms = true → RepL K Z α H ms xs → RepL K Z β H ms xs
  | [], xs, _, h => by simpa only [RepL] using h
  | m :: ms, xs, e, h => by
    simp only [M.noref.go, Bool.and_eq_true] at e
    simp only [RepL] at h ⊢
    obtain ⟨x, r, rfl, h1, h2⟩ := h
    exact ⟨x, r, rfl, Rep.noref hb m x e.1 h1, RepL.noref hb ms r e.2 h2⟩
end
mutual
theorem Rep.plain {β : List Addr} : ∀ (m : M) (v : V), m.plain = true → Rep K Z α H m v → Rep K Z β H m v
  | .non, v, _, h => by simpa only [Rep] using h
  | .bl b, v, _, h => by simpa only [Rep] using h
  | .int i, v, _, h => by simpa only [Rep] using h
  | .str s, v, _, h => by simpa only [Rep] using h
  | .scr ns, v, e, h => by simp [M.plain] at e
  | .ref n, v, e, h => by simp [M.plain] at e
  | .tup ms, v, e, h => by
    simp only [M.plain] at e
    simp only [Rep] at h ⊢
    obtain ⟨a, xs, rfl, hs, r⟩ := h
    exact ⟨a, xs, rfl, hs, RepL.plain ms xs e r⟩
  | .lst ms, v, e, h => by simp [M.plain] at e
theorem RepL.plain {β : List Addr} : ∀ (ms : List M) (xs : List V), M.plain.go ms = true → RepL K Z α H ms xs → RepL K Z β H ms xs
  | [], xs, _, h => by simpa only [RepL] using h
  | m :: ms, xs, e, h => by
    simp only [M.plain.go, Bool.and_eq_true] at e
    simp only [RepL] at h ⊢
    obtain ⟨x, r, rfl, h1, h2⟩ := h
    exact ⟨x, r, rfl, Rep.plain m x e.1 h1, RepL.plain ms r e.2 h2⟩
end
theorem deref_rep {m m' : M} {v : V} (s : SR K Z α H S) (r : Rep K Z α H m v) (e : derefA S m = some m') : Rep K Z [] H m' v := by
  cases m with
  | ref n =>
    simp only [derefA] at e
    split at e
    · rename_i ms hn
      split at e
      · rename_i hc
        simp only [Option.some.injEq] at e
        subst e
        obtain ⟨a, xs, rfl, ha, hx, q⟩ := ref_get s r hn
        simp only [Rep]
        exact ⟨a, xs, rfl, hx, ⟨by simp, fun hz => (s.zs a hz).1 (List.mem_of_getElem? ha)⟩, RepL.noref rfl ms xs hc q⟩
      · cases e
    · cases e
  | _ =>
    simp only [derefA] at e
    split at e
    · simp only [Option.some.injEq] at e
      subst e
      exact Rep.noref rfl _ v (by assumption) r
    · cases e
theorem derefs_rep : ∀ {ms as : List M} {xs : List V}, SR K Z α H S → RepL K Z α H ms xs → derefs S ms = some as → RepL K Z [] H as xs
  | [], as, xs, s, r, e => by simp only [derefs, Option.some.injEq] at e; subst e; simpa only [RepL] using r
  | m :: ms, as, xs, s, r, e => by
    simp only [derefs] at e
    obtain ⟨a, e1, e⟩ := Option.bind_eq_some_iff.mp e
    obtain ⟨bs, e2, rfl⟩ := Option.map_eq_some_iff.mp e
    simp only [RepL] at r ⊢
    obtain ⟨x, q, rfl, h1, h2⟩ := r
    exact ⟨x, q, rfl, deref_rep s h1 e1, derefs_rep s h2 e2⟩
/-- the state behind such a call -/
theorem back {β : List Addr} {H' : Hp} (s : SR K Z α H S) (t : Tr [] H β H') : Tr α H α H' ∧ SR K Z α H' S ∧ (∀ a ∈ β, a ∉ α) := by
  have kp : ∀ a o, H a = some o → H' a = some o := fun a o h => t.keep a o h (by simp)
  have T : Tr α H α H' := ⟨fun a o h _ => kp a o h, ⟨[], by simp, by simp⟩, fun a ha => by
    obtain ⟨u, e, _⟩ := s.muts a ha
    rw [kp a u e]; exact fun z => by cases z⟩
  refine ⟨T, s.tr T fun a ha => ?_, fun a ha hm => ?_⟩
  · obtain ⟨u, e, _⟩ := s.muts a ha
    rw [kp a u e, e]
  · obtain ⟨γ, e, hγ⟩ := t.ext
    rw [List.nil_append] at e
    subst e
    exact s.live a hm (hγ a ha)
theorem freeze_rep {β : List Addr} {H' : Hp} {S' : Store} {m m' : M} {v : V} (s' : SR K Z β H' S') (hβ : ∀ a ∈ β, a ∉ α) (r : Rep K Z β H' m v) (e : freeze S' m = some m') : Rep K Z α H' m' v := by
  cases m with
  | ref n =>
    simp only [freeze] at e
    split at e
    · rename_i ms hn
      split at e
      · rename_i hc
        simp only [Option.some.injEq] at e
        subst e
        obtain ⟨a, xs, rfl, ha, hx, q⟩ := ref_get s' r hn
        simp only [Rep]
        exact ⟨a, xs, rfl, hx, ⟨hβ a (List.mem_of_getElem? ha), fun hz => (s'.zs a hz).1 (List.mem_of_getElem? ha)⟩, RepL.plain ms xs hc q⟩
      · cases e
    · cases e
  | _ =>
    simp only [freeze] at e
    split at e
    · simp only [Option.some.injEq] at e
      subst e
      exact Rep.plain _ v (by assumption) r
    · cases e

/-! ### what a def promises -/
def spM (K : PySem.W.Frag) (mg : Str → Option Value) (np : Nat) (f : List M → Store → R M) : Sp := fun vs H Q E =>
  vs.length = np ∧ ∃ Z α S ms, SR K Z α H S ∧ RepL K Z α H ms vs ∧ Out K Z mg E (f ms S) α H (PM K Z Q)
/-- a call, from the caller's side -/
theorem call_out {np : Nat} {call : String → List M → Store → R M} {f : String} {pu : Bool} {ms : List M} {xs : List V} (s : SR K Z α H S) (r : RepL K Z α H ms xs) (hn : xs.length = np)
    (h : Out K Z mg E (callM call pu f ms S) α H (PM K Z Q)) : spM K mg np (call f) xs H Q E := by
  unfold callM at h
  cases pu with
  | false =>
    rw [if_neg (by simp)] at h
    exact ⟨hn, Z, α, S, ms, s, r, h⟩
  | true =>
    rw [if_pos rfl] at h
    obtain ⟨as, e, h⟩ := h.of
    have s0 : SR K Z [] H ([] : Store) := ⟨by simp, rfl, fun n o e => by simp at e, fun a ha => ⟨by simp, (s.zs a ha).2⟩⟩
    refine ⟨hn, Z, [], [], as, s0, derefs_rep s r e, ?_⟩
    revert h
    cases hc : call f as [] with
    | bad => exact fun h => False.elim h
    | ok m S' =>
      intro h
      obtain ⟨m', e2, h⟩ := h.of
      intro β H' t s' v rv
      obtain ⟨T, s2, hβ⟩ := back s t
      exact h α H' T s2 v (freeze_rep s' hβ rv e2)
    | exc x S' =>
      intro h
      dsimp only at h
      split at h
      · rename_i hp
        intro β H' cv d t s' er
        obtain ⟨T, s2, hβ⟩ := back s t
        obtain ⟨e1, dd, fs, e2, e3, e4⟩ := er
        refine h α H' cv d T s2 ⟨e1, dd, fs, e2, e3, fun f m hm => ?_⟩
        obtain ⟨v, e5, e6⟩ := e4 f m hm
        exact ⟨v, e5, Rep.plain m v (List.all_eq_true.mp hp (f, m) hm) e6⟩
      · exact False.elim h
end
end Mi

namespace Mi
open PySem PySem.Spec PyProof.Rows L2
open AutoSeq1 (wpAny_loadPart')

/-! ### enumerate over a tuple -/
set_option maxHeartbeats 1000000 in
theorem meets_enumerate_newT (l : Addr) (items : Array Value) (n : Nat) (dct : Option Addr) (sl : Array (Option Value)) :
    Meets (Builtin.«enumerate.__new__» ⟨[.type "enumerate", .ref l], []⟩) (fun _ R s => s.heap.get? l = some { cls := .type "tuple", dict := dct, data := .seq items n, slots := sl } ∧
      R (.ok (.ret (.ref (s.heap.push { cls := .type "tuple_iterator", data := .fields #[.ref l, .int 0 0] }).objs.size)))
        { s with heap := (s.heap.push { cls := .type "tuple_iterator", data := .fields #[.ref l, .int 0 0] }).push { cls := .type "enumerate", data := .fields #[.none, .bool false, .ref s.heap.objs.size, rawInt 0, .none, .none] } }) :=
  .of_wp fun prog w A R s h => by
    obtain ⟨hp, g, d, tk, os⟩ := s; obtain ⟨hl, h⟩ := h
    have hsub := sub_enumerate
    have hL : Heap.IsTuple (Shared.heap ⟨hp, g, d, tk, os⟩) l items := ⟨_, hl, rfl, n, rfl⟩
    wp_walk using wpAny_loadPart' hl
    refine wpAny_stack_any fun st => wpAny_pure ?_
    split
    · rename_i c _ _ _ _ _
      cases (c == Value.type "enumerate")
      · wp_walk using wpAny_loadPart' hl, wpAny_pyIter_tuple hL
        exact ⟨_, rfl, h⟩
      · wp_walk using wpAny_loadPart' hl, wpAny_pyIter_tuple hL
        exact ⟨_, rfl, h⟩
    · wp_walk using wpAny_loadPart' hl, wpAny_pyIter_tuple hL
      exact ⟨_, rfl, h⟩
section
variable {prog : Program} {w : World} {A : Around} {E : Value → Shared → Prop} {s : Shared}
theorem call_enumerate_tuple {l : Addr} {items : Array Value} {Q : Value → Shared → Prop} (hL : s.heap.IsTuple l items)
    (h : ∀ h', IsEnum h' (s.heap.objs.size + 1) s.heap.objs.size 0 .none → h'.IsTupleIter s.heap.objs.size l 0 → h'.objs.size = s.heap.objs.size + 2 →
      (∀ b o, s.heap.get? b = some o → h'.get? b = some o) → Q (.ref (s.heap.objs.size + 1)) { s with heap := h' }) :
    wpAny (model prog w) A (call (.type "enumerate") [.ref l]) Q E s := by
  obtain ⟨⟨c, dct, dt, sl⟩, hl, hc, n, hd⟩ := hL
  replace hc : c = .type "tuple" := hc
  replace hd : dt = .seq items n := hd
  subst hc hd
  refine callType_new F.called_enumerate (by decide) (F.typeCall_enumerate_1 _) (F.newCall_enumerate_1 _) (fun obj => F.args_object_init_2 obj _) F.entry_enumerate_new
    (meets_enumerate_newT l items n dct sl) ⟨hl, ?_⟩
  have hz : (s.heap.push { cls := .type "tuple_iterator", data := .fields #[.ref l, .int 0 0] }).objs.size = s.heap.objs.size + 1 := Heap.size_push ..
  show _ ∧ _
  rw [hz]
  have he : IsEnum ((s.heap.push { cls := .type "tuple_iterator", data := .fields #[.ref l, .int 0 0] }).push
      { cls := .type "enumerate", data := .fields #[.none, .bool false, .ref s.heap.objs.size, rawInt 0, .none, .none] }) (s.heap.objs.size + 1) s.heap.objs.size 0 .none := by
    have := Heap.get?_push_size (s.heap.push { cls := .type "tuple_iterator", data := .fields #[.ref l, .int 0 0] })
      (o := { cls := .type "enumerate", data := .fields #[.none, .bool false, .ref s.heap.objs.size, rawInt 0, .none, .none] }) rfl
    rw [hz] at this; exact this
  refine ⟨⟨_, he, rfl⟩, h _ he ⟨_, Heap.get?_push_of_some _ (Heap.get?_push_size _ rfl), rfl, rfl⟩ (by rw [Heap.size_push, hz]) fun b o x => Heap.get?_push_of_some _ (Heap.get?_push_of_some _ x)⟩
end
theorem wpAny_pyNext_enum_endT {prog : Program} {w : World} {A : Around} {E : Value → Shared → Prop} {s : Shared} {e it l : Addr} {i : Nat} {items : Array Value} {old : Value} {Q : Option Value → Shared → Prop} (hh : A.handled = none)
    (he : IsEnum s.heap e it i old) (hit : s.heap.IsTupleIter it l i) (hl : s.heap.IsTuple l items) (hx : items[i]? = none)
    (hQ : ∀ h', Heap.ExtBut it s.heap h' → Q none { s with heap := h' }) : wpAny (model prog w) A (pyNext (.ref e)) Q E s := by
  have hT : s.TypeIs (.ref e) "enumerate" := ⟨_, he, rfl⟩
  unfold pyNext
  refine wpAny_bind (wpAny_attempt (wpAny_callSpecial?_slot (name := Str.ofString "__next__") hT F.slot_enumerate_next
    (wpAny_call_entry F.slot_enumerate_next hT F.entry_enumerate_next ?_ (F.args_enumerate_next_1 _))))
  show wpAny _ _ (field (.ref e) 2 >>= _) _ _ _
  refine wpAny_bind (wpAny_field he rfl (x := .ref it) rfl ?_)
  refine wpAny_bind (wpAny_nextOf_tuple_end (show A.in1.handled = none from hh) hit hl hx fun h' x he' hx' => ?_)
  obtain ⟨o, ho, hc⟩ := hx'
  refine wpAny_bind (wpAny_isInstance (T := "StopIteration") (b := true) ⟨o, ho, hc⟩ isSubtype_stop ?_)
  exact wpAny_pure (hQ _ he')
def IteT (K : PySem.W.Frag) (a : Addr) : It :=
  ⟨fun i H => ∃ (xs : List V) (x : V), SqT K H a xs ∧ xs[i]? = some x, fun i H v H' => ∃ T x, v = .ref T ∧ H T = none ∧ H' = upd H T (.tup [.int (i : Nat), x]) ∧ ∀ xs, SqT K H a xs → xs[i]? = some x, fun i H => ∃ xs : List V, SqT K H a xs ∧ xs.length ≤ i⟩
theorem turn_enumT {P : Program} {w : World} {K : PySem.W.Frag} {elts : List Expr} {kk : Nat} {tpos : Pos} (a e it : Addr) :
    Turn P w K (.Tuple elts kk tpos) (IteT K a) [e, it] e (fun i h => (∃ old, IsEnum h e it ((i : Nat) : Int) old) ∧ h.IsTupleIter it a i ∧ e ≠ it) where
  mem := by simp
  obj := fun i h st b hb => by
    obtain ⟨⟨old, he⟩, ⟨o, ho, hc, hd⟩, _⟩ := st
    have e' : b = e ∨ b = it := by simpa using hb
    rcases e' with z | z
    · rw [z]; exact ⟨_, he, fun v q => nomatch q⟩
    · rw [z]; exact ⟨o, ho, fun v q => by rw [hd] at q; cases q⟩
  keep := fun i h h' st k => let ⟨⟨old, he⟩, hi, hne⟩ := st; ⟨⟨old, k e (by simp) _ he⟩, hi.at fun o q => k it (by simp) o q, hne⟩
  item := by
    intro X hP hw hK hc i pins s σ H E I hf st hg
    subst hP hw hK
    obtain ⟨⟨old, he⟩, hit, hne⟩ := st
    obtain ⟨xs, x, hq, hx⟩ := hg
    obtain ⟨its, rv, p, hz⟩ := I.tuple hq
    obtain ⟨u, hu, ru⟩ := rv.get hx
    have hel : e < s.heap.objs.size := Heap.lt_size he
    have hil : it < s.heap.objs.size := by obtain ⟨_, q, _⟩ := hit; exact Heap.lt_size q
    have pt : s.heap.IsTuple a its.toArray := p
    have hai : a ≠ it := by
      rintro rfl
      obtain ⟨o1, q1, c1, _⟩ := pt
      obtain ⟨o2, q2, c2, _⟩ := hit
      rw [q1] at q2; cases q2
      rw [c1] at c2
      exact absurd c2 (by decide +kernel)
    have hae : a ≠ e := by
      rintro rfl
      obtain ⟨o1, q1, c1, _⟩ := pt
      rw [he] at q1; cases q1
      exact absurd c1 (by show ¬ (Value.type "enumerate" = Value.type "tuple"); decide +kernel)
    have hlt : i < its.toArray.size := by
      have := (List.getElem?_eq_some_iff.mp hu).1
      simpa using this
    have D := Draws.tuple (prog := X.prog) (w := X.w) (A := X.A.in1) (show X.A.in1.handled = none from I.ok.hd hc) it a hai its.toArray
    refine wpAny_pyNext_enum_itemD D he ⟨hit, pt⟩ hlt hne (by simp [hne, Ne.symm hae]) fun y h' tk hy ho hit' hT hsz hk => ?_
    have ey : y = u := by
      have hy : its.toArray[i]? = some y := hy
      have : its[i]? = some y := by simpa using hy
      rw [hu] at this; cases this; rfl
    subst ey
    refine ⟨_, rfl, wpAny_letOwnedTupleGo_enum (s := { s with heap := h', toks := tk + 1 }) ho fun h'' he' sb => ?_⟩
    have hT2 : h''.get? s.heap.objs.size = some { cls := .type "tuple", data := .seq #[.int i tk, y] } := (sb.2 _ (Nat.ne_of_gt hel)).trans hT
    have new : ObjOk X.prog X.w (upd H s.heap.objs.size (.tup [.int (i : Nat), x])) h'' s.heap.objs.size (.tup [.int (i : Nat), x]) :=
      ⟨by show 2 ≤ sizeLine; decide, [.int i tk, y], .cons ⟨_, rfl⟩ (.cons ru .nil), ⟨_, hT2, rfl, _, rfl⟩⟩
    have I1 : Inv X pins σ (upd H s.heap.objs.size (.tup [.int (i : Nat), x])) { s with heap := h'', toks := tk + 1 } :=
      I.turnedNew (ch := [e, it]) (fun b ob hb q => (sb.2 b (fun z => hb (by simp [z]))).trans (hk b ob (fun z => hb (by simp [z])) (fun z => hb (by simp [z])) q)) hf (Nat.le_refl _) new
    refine ⟨.ref s.heap.objs.size, _, I1, rfl, ⟨_, x, rfl, I.hok.fresh (Nat.le_refl _), rfl, fun ys hy => by rw [I.tuple_inj hy hq]; exact hx⟩, ⟨⟨y, ?_⟩, hit'.1.at fun o q => (sb.2 it (Ne.symm hne)).trans q, hne⟩, fun b hb => ?_⟩
    · have e1 : ((i + 1 : Nat) : Int) = (i : Int) + 1 := by omega
      rw [e1]; exact he'
    · have hb' : b < s.heap.objs.size := by
        have e' : b = e ∨ b = it := by simpa using hb
        rcases e' with z | z
        · rw [z]; exact hel
        · rw [z]; exact hil
      rw [upd_ne (Nat.ne_of_lt hb')]
      exact (hf b hb).1
  done := by
    intro X hP hw hK hc i pins s σ H E I hf st hg
    subst hP hw hK
    obtain ⟨⟨old, he⟩, hit, hne⟩ := st
    obtain ⟨xs, hq, hx⟩ := hg
    obtain ⟨its, rv, p, hz⟩ := I.tuple hq
    obtain ⟨f0, f1, f2, f3, f4, f5⟩ := hf it (by simp)
    have hl := rv.length
    have pt : s.heap.IsTuple a its.toArray := p
    refine wpAny_pyNext_enum_endT (I.ok.hd hc) he hit pt (by simp; omega) fun h' eb => ⟨rfl, I.turned (t' := s.toks) (fun b o hb q => eb b o hb q) f0 f1 f3 f4 f5⟩
  self := fun A i s Q E st h => let ⟨⟨_, he⟩, _⟩ := st; wpAny_pyIter_enum he h
def iEnumB (K : PySem.W.Frag) (ta : TA) : TI := fun σ H R => ta σ H fun vs H1 => ∃ a xs, vs = [.ref a] ∧ ((SqL K H1 a xs ∧ R (Ite K a) H1) ∨ (SqT K H1 a xs ∧ R (IteT K a) H1))
theorem pi_enumB {X : Cx} {e : Expr} {ta : TA} {p pos tpos : Pos} {elts : List Expr} {kk : Nat} (hg : Gl X "enumerate") (hm : X.mg "enumerate" = none) (ha : PA X [e] ta) (hs : starEach [e] X.env = [(false, eval e X.env)]) :
    PI X (.Tuple elts kk tpos) (.Call (.Name "enumerate" p) [e] [] pos) (iEnumB X.K ta) := by
  refine ⟨fun pins s σ H R I h => ?_⟩
  refine Call_ (ld_blt I hg hm boot_enumerate (PyProof.Rows.callWith_type1 (thn (ha.run pos pins s σ H _ I h) fun us s1 ⟨vs, H1, I1, r1, q1⟩ => ?_) hs rfl))
  obtain ⟨a, xs, ex, hq⟩ := q1
  subst ex
  cases r1 with
  | cons r rr =>
    cases rr
    cases r
    have fp : ∀ b ∈ [s1.heap.objs.size + 1, s1.heap.objs.size], FpOk X pins H1 b := fun b hb => by
      have e' : b = s1.heap.objs.size + 1 ∨ b = s1.heap.objs.size := by simpa using hb
      have hle : s1.heap.objs.size ≤ b := by
        rcases e' with z | z
        · rw [z]; exact Nat.le_add_right _ _
        · rw [z]; exact Nat.le_refl _
      exact I1.fpOk hle (I1.hok.fresh hle)
    rcases hq with ⟨hq, q⟩ | ⟨hq, q⟩
    · obtain ⟨its, rv, p', hz⟩ := I1.list hq
      refine call_enumerate_list p'.isList fun h' he hit hsz hk => wpAny_pyIter_enum he ?_
      have I2 : Inv X pins σ H1 { s1 with heap := h' } := I1.kept (t' := s1.toks) hk
      exact ⟨s1.heap.objs.size + 1, [s1.heap.objs.size + 1, s1.heap.objs.size], _, _, H1, rfl, I2, turn_enum a (s1.heap.objs.size + 1) s1.heap.objs.size, ⟨⟨.none, he⟩, hit, Nat.succ_ne_self _⟩, fp, q⟩
    · obtain ⟨its, rv, p', hz⟩ := I1.tuple hq
      refine call_enumerate_tuple (show s1.heap.IsTuple a its.toArray from p') fun h' he hit hsz hk => wpAny_pyIter_enum he ?_
      have I2 : Inv X pins σ H1 { s1 with heap := h' } := I1.kept (t' := s1.toks) hk
      exact ⟨s1.heap.objs.size + 1, [s1.heap.objs.size + 1, s1.heap.objs.size], _, _, H1, rfl, I2, turn_enumT a (s1.heap.objs.size + 1) s1.heap.objs.size, ⟨⟨.none, he⟩, hit, Nat.succ_ne_self _⟩, fp, q⟩
def iSeq (K : PySem.W.Frag) (tl : TE) : TI := fun σ H R => tl σ H fun x H1 => ∃ a xs, x = .ref a ∧ ((SqL K H1 a xs ∧ R (Itl K a) H1) ∨ (SqT K H1 a xs ∧ R (Itt K a) H1))
theorem pi_seq {X : Cx} {tg l : Expr} {tl : TE} (hl : PE X l tl) : PI X tg l (iSeq X.K tl) := by
  refine ⟨fun pins s σ H R I h => ?_⟩
  refine thn (hl.run pins s σ H _ I h) fun v s1 ⟨x, H1, I1, r1, q1⟩ => ?_
  obtain ⟨a, xs, e, hq⟩ := q1
  subst e
  cases r1
  have fp : ∀ b ∈ [s1.heap.objs.size], FpOk X pins H1 b := fun b hb => by
    have e : b = s1.heap.objs.size := by simpa using hb
    subst e
    exact I1.fpOk (Nat.le_refl _) (I1.hok.fresh (Nat.le_refl _))
  rcases hq with ⟨hq, q⟩ | ⟨hq, q⟩
  · obtain ⟨its, rv, p, hz⟩ := I1.list hq
    refine wpAny_pyIter_list p.isList ?_
    exact ⟨s1.heap.objs.size, [s1.heap.objs.size], _, _, H1, rfl, I1.kept (t' := s1.toks) fun b o e => Heap.get?_push_of_some _ e, turn_list a _, ⟨_, Heap.get?_push_size _ rfl, rfl, rfl⟩, fp, q⟩
  · obtain ⟨its, rv, p, hz⟩ := I1.tuple hq
    refine wpAny_pyIter_tuple (show s1.heap.IsTuple a its.toArray from p) ?_
    exact ⟨s1.heap.objs.size, [s1.heap.objs.size], _, _, H1, rfl, I1.kept (t' := s1.toks) fun b o e => Heap.get?_push_of_some _ e, turn_tuple a _, ⟨_, Heap.get?_push_size _ rfl, rfl, rfl⟩, fp, q⟩
theorem walk_enumT {K : PySem.W.Frag} {a : Addr} {xs : List V} : Walk (IteT K a) xs.length (fun H => SqT K H a xs) (YPair (fun i => some (.int (i : Nat))) (fun i => xs[i]?)) := by
  refine ⟨fun i _ hi q => ⟨xs, xs[i], q, by simp [hi]⟩, fun _ q => ⟨xs, q, Nat.le_refl _⟩, fun i H v H' _ q y => ?_⟩
  obtain ⟨T, x, h1, h2, h3, h4⟩ := y
  exact ⟨T, .int (i : Nat), x, h1, h2, h3, rfl, h4 xs q⟩
end Mi

namespace Mi
open PySem PySem.Spec PyProof.Rows L2

/-! ### {elt for target in iter}, elt an int -/
section
variable {X : Cx}
/-- one more int in the set at D -/
theorem put_int {pins : List (Addr × Obj)} {σ : L2.St} {H : Hp} {s : Shared} {E : Value → Shared → Prop} {D : Addr} {S : Int → Bool} {n : Nat} {k : Int} {u : Value} {Q : Value → Shared → Prop} (I : Inv X pins σ H s) (hD : H D = some (SetO X.w D S n))
    (room : n + 1 < scanBound) (r : RelV (.int k) u) (h : ∀ s', Inv X pins σ (upd H D (SetO X.w D (fun j => S j || decide (j = k)) (if S k = true then n else n + 1))) s' → Q .none s') :
    wpAny (model X.prog X.w) X.A (call (.builtin "set.add") [.ref D, u]) Q E s := by
  obtain ⟨tk, rfl⟩ := r
  refine setR_add (setO_get I hD) room fun g same now => h _ ?_
  refine I.write (e := D) (t' := s.toks + 1) (by rw [hD]; exact True.intro) (Or.inl rfl) (fun b u hb hu => (same.2 b hb).trans hu) ?_ (setO_new now)
  have ⟨o, _, _, _, ho, _⟩ := now
  exact ⟨o, ho⟩
def tSi (w : World) (wi : TI) (g : TG) (tt : TT) (te : TE) (own : List Nat) : TE := fun σ H Q => wi σ H fun J H1 => ∀ D, H1 D = none → ∃ W : Nat → Nat → Hp → Prop, (∃ m, W 0 m (upd H1 D (SetO w D (fun _ => false) 0))) ∧ ∀ i m H, W i m H →
  (J.stop i H ∧ Q (.ref D) H) ∨ (J.go i H ∧ ∃ Nx : Hp → Prop, (∀ H', Nx H' → ∃ m', m' < m ∧ W (i + 1) m' H') ∧ ∀ x H', J.yld i H x H' → g x (wipe σ own) H' fun σ2 H2 => wipe σ2 own = wipe σ own ∧ tt σ2 H2 fun b H3 =>
    if b = true then te σ2 H3 fun y H4 => ∃ (k : Int) (S : Int → Bool) (n : Nat), y = .int k ∧ H4 D = some (SetO w D S n) ∧ n + 1 < scanBound ∧ Nx (upd H4 D (SetO w D (fun j => S j || decide (j = k)) (if S k = true then n else n + 1))) else Nx H3)
theorem pe_si {elt tg iter : Expr} {ifs : List Expr} {scope : Scope} {own : List (Str × Nat)} {pos : Pos} {wi : TI} {g : TG} {tt : TT} {te : TE} (calm : X.calm = true) (nd : X.N.Nodup) (src : PI X tg iter wi) (blk : BlkOk X.N X.env.scope scope own)
    (pg : ∀ (s : Shared) (H : Hp) (C : Addr) (cl : List (Str × Addr)) (fp : List Addr), PG (X.blk s H scope (compEnvC scope cl C X.env) fp) tg g)
    (pt : ∀ (s : Shared) (H : Hp) (C : Addr) (cl : List (Str × Addr)) (fp : List Addr), PTs (X.blk s H scope (compEnvC scope cl C X.env) fp) ifs tt)
    (pe : ∀ (s : Shared) (H : Hp) (C : Addr) (cl : List (Str × Addr)) (fp : List Addr), PE (X.blk s H scope (compEnvC scope cl C X.env) fp) elt te)
    (fold : ∀ x, foldedSetIterable iter X.env x = pure x) : PE X (.SetComp elt [⟨tg, iter, ifs, 0⟩] scope pos) (tSi X.w wi g tt te (own.map (·.2))) := by
  constructor
  intro pins s σ H Q I h
  rw [PpSet.eval_SetComp]
  have caught : ∀ y ∈ scope.names, y.2 = .free → ∃ c, X.env.cells.lookup y.1 = some c := by
    intro y hy e
    exact I.ok.has _ (blk.free y hy e)
  refine wpAny_comprehension_free (use := none) rfl fold (closure_ok caught) blk.kind (fun y hy e => (blk.uniq y hy).trans (by rw [e])) ?_
  refine thn (src.run pins s σ H _ I h) fun xv s1 hx => thn hx fun itv s2 got => ?_
  obtain ⟨it, fp, tn, J, Hi, rfl, Ii, T, sti, fpi, q⟩ := got
  refine PpSet.newSet_ok (newEnv_comp ?_)
  -- D: the new set
  obtain ⟨D, eD⟩ : ∃ D, s2.heap.objs.size = D := ⟨_, rfl⟩
  rw [eD]
  obtain ⟨W, ⟨m0, w0⟩, turn⟩ := q D (Ii.hok.fresh (Nat.le_of_eq eD))
  obtain ⟨s3, es3⟩ : ∃ s3 : Shared, s3 = { s2 with heap := s2.heap.push { cls := .type "set", dict := none, data := .set #[] 0 (.fresh 0 0 (!X.w.params.followText "set-order")) } } := ⟨_, rfl⟩
  rw [← es3]
  obtain ⟨H3, eH3⟩ : ∃ H3, H3 = upd Hi D (SetO X.w D (fun _ => false) 0) := ⟨_, rfl⟩
  rw [← eH3] at w0
  have up : ∀ b o, s2.heap.get? b = some o → s3.heap.get? b = some o := fun b o e => by rw [es3]; exact Heap.get?_push_of_some _ e
  have I3 : Inv X pins σ H3 s3 := by
    rw [es3, eH3]
    refine Ii.laid (t' := s2.toks) (fun b o e => Heap.get?_push_of_some _ e) (Nat.le_of_eq eD) (setO_new ?_)
    rw [← eD]
    exact setR_fresh X.w
  have small : ∀ b ∈ fp, b < s2.heap.objs.size := fun b hb => let ⟨o, e, _⟩ := T.obj _ _ sti b hb; Heap.lt_size e
  have fp3 : ∀ b ∈ fp, FpOk X pins H3 b ∧ b < s3.heap.objs.size := fun b hb => by
    have lt := small b hb
    refine ⟨⟨?_, (fpi b hb).2⟩, ?_⟩
    · rw [eH3, upd_ne (show b ≠ D by rw [← eD]; exact Nat.ne_of_lt lt)]
      exact (fpi b hb).1
    · rw [es3]
      dsimp only
      rw [Heap.size_push]
      exact Nat.lt_succ_of_lt lt
  have st3 : tn 0 s3.heap := T.keep _ _ _ sti fun b _ o e => up b o e
  have I4 := block_start I3 blk nd fp3
  have clr : ∀ b ∈ fp, H3 b = none := fun b hb => (fp3 b hb).1.1
  obtain ⟨ce, ece⟩ : ∃ ce, ce = compEnvC scope (cellsFrom (s3.heap.objs.size + 1) scope.names (cloFrom X.env.cells scope.names [])) s3.heap.objs.size X.env := ⟨_, rfl⟩
  have pg' := pg s3 H3 s3.heap.objs.size (cellsFrom (s3.heap.objs.size + 1) scope.names (cloFrom X.env.cells scope.names [])) fp
  have pt' := pt s3 H3 s3.heap.objs.size (cellsFrom (s3.heap.objs.size + 1) scope.names (cloFrom X.env.cells scope.names [])) fp
  have pe' := pe s3 H3 s3.heap.objs.size (cellsFrom (s3.heap.objs.size + 1) scope.names (cloFrom X.env.cells scope.names [])) fp
  rw [← ece] at I4 pg' pt' pe'
  have cL : ce.locals = s3.heap.objs.size := by rw [ece]; rfl
  obtain ⟨s4, es4⟩ : ∃ s4 : Shared, s4 = { s3 with heap := pushCells (s3.heap.push { cls := .type "dict", data := .dict #[] }) scope.names } := ⟨_, rfl⟩
  rw [← es4] at I4
  have st4 : tn 0 s4.heap := T.keep _ _ _ st3 fun b _ o e => by rw [es4]; exact pushCells_keeps _ _ _ _ (Heap.get?_push_of_some _ e)
  let B : Cx := X.blk s3 H3 scope ce fp
  have fpB : ∀ {σ' : L2.St} {H' : Hp} {s' : Shared}, Inv B [] σ' H' s' → (∀ b ∈ fp, H' b = none) → ∀ b ∈ fp, FpOk B [] H' b := fun I' hn b hb =>
    ⟨hn b hb, (I'.ok.exf b hb).1, I'.ok.exfs b hb, Or.inl hb, (I'.ok.exf b hb).2, fun p hp => by cases hp⟩
  have goal : codeAny (model X.prog X.w) X.A (.compLoop (.SetComp elt [⟨tg, iter, ifs, 0⟩] scope pos) 0 (.ref it) (.ref D) ce) (compPost (model X.prog X.w) X.A X.xe none (EP X pins σ Q) (.ref D) s3.heap.objs.size) s4 := by
    let Lp : Nat → Shared → Prop := fun n s' => ∃ i H', Inv B [] (wipe σ (own.map (·.2))) H' s' ∧ tn i s'.heap ∧ (∀ b ∈ fp, H' b = none) ∧ W i n H'
    refine PpSet.compLoopS_any Lp ?_ m0 ⟨0, H3, I4, st4, clr, w0⟩
    rintro n s5 ⟨i, H5, I5, st5, n5, w5⟩
    rcases turn i n H5 w5 with ⟨stop, last⟩ | ⟨go, Nx, down, step⟩
    · refine thnF (T.done B rfl rfl rfl calm i [] s5 _ H5 (fun _ _ => False) I5 (fpB I5 n5) st5 stop) fun r s6 ⟨er, I6⟩ => ?_
      subst er
      have I7 : Inv X pins σ H5 s6 := I3.call' (ch := fp) I6.os I6.base I6.hok I6.bare fun b hb => let z := (fp3 b hb).1; ⟨z.2.2.2.1, z.2.1, z.2.2.2.2.1, z.2.2.2.2.2⟩
      have away : H5 s3.heap.objs.size = none := by rw [← cL]; exact I6.free
      obtain ⟨m, hn, _⟩ := I6.loc
      have hn' : s6.heap.Ns s3.heap.objs.size m := by rw [← cL]; exact hn
      obtain ⟨f0, f1, f2, f3, f4, f5⟩ := I3.fpOk (Nat.le_refl _) away
      exact ⟨m, hn', fun h'' sb => ⟨.ref D, H5, I7.turned (t' := s6.toks) (fun b o hb e => (sb.2 b hb).trans e) f0 f1 f3 f4 f5, rfl, last⟩⟩
    · refine thnF (T.item B rfl rfl rfl calm i [] s5 _ H5 (fun _ _ => False) I5 (fpB I5 n5) st5 go) fun r s6 ⟨u, er, h6⟩ => ?_
      subst er
      refine thnF h6 fun _ s7 ⟨x, H7, I7, r7, y7, st7, n7⟩ => ?_
      refine thnF (pg'.run _ s7 _ H7 x u _ (I7.pinned (fpB I7 n7) (T.obj _ _ st7)) r7 (step x H7 y7)) fun _ s8 ⟨σ8, H8, I8, ew, q8⟩ => ?_
      refine thnF (pt'.run _ s8 σ8 H8 _ I8 q8) fun b s9 ⟨H9, I9, q9⟩ => ?_
      have again : ∀ {s' : Shared} {H' : Hp}, Inv B ([] ++ pinsAt fp s7.heap) σ8 H' s' → Nx H' → ∃ m, m < n ∧ Lp m s' := fun {s' H'} I' nx => by
        obtain ⟨m', hm, w'⟩ := down H' nx
        have stay : ∀ b ∈ fp, ∀ o, s7.heap.get? b = some o → s'.heap.get? b = some o ∧ H' b = none := fun b hb o e =>
          have z := I'.pin (b, o) (List.mem_append_right _ (List.mem_append_right _ (mem_pinsAt hb e)))
          ⟨z.1, z.2.1⟩
        have len : (wipe σ (own.map (·.2))).length = σ8.length := by rw [← ew, wipe_length]
        refine ⟨m', hm, i + 1, H', (I'.unpinned (pins := [])).weak len (fun j v e => (wipe_some (by rw [ew]; exact e)).1), T.keep _ _ _ st7 fun b hb o e => (stay b hb o e).1, fun b hb => ?_, w'⟩
        obtain ⟨o, e, _⟩ := T.obj _ _ st7 b hb
        exact (stay b hb o e).2
      cases b with
      | false =>
        rw [if_neg Bool.false_ne_true] at q9 ⊢
        exact again I9 q9
      | true =>
        rw [if_pos rfl] at q9 ⊢
        refine thnF (pe'.run _ s9 σ8 H9 _ I9 q9) fun z s10 ⟨yv, H10, I10, r10, k, S0, n0, ey, hD10, room, nx⟩ => ?_
        subst ey
        exact put_int (X := B) I10 hD10 room r10 fun s11 I11 => again I11 nx
  have fin := PpSet.codeAny_compStart_set goal (T.self X.A 0 _ _ _ st4 goal)
  rw [ece, es4] at fin
  exact fin
end
end Mi

namespace Mi
open PySem PySem.Spec L2

/-! ### the text of a def against its core -/
structure SX where
  N : List Str
  sc : Scope
  fb : Str → Bool
def SX.vis (x : SX) (n : Str) : Bool := match x.sc.names.lookup n with
  | some .local => true
  | some .cell => true
  | some .free => true
  | _ => false
def SX.loc (x : SX) (n : Str) : Bool := match x.sc.names.lookup n with
  | some .local => true
  | some .cell => x.fb n
  | _ => false
def SX.gl (x : SX) (n : Str) : Bool := decide (x.sc.names.lookup n = some .globalImplicit)
def plainN (n : Str) : Bool := !(n == ("__debug__" : Str)) && !(n == ("__classdict__" : Str))
def SX.in_ (x : SX) (s : Scope) : SX := ⟨x.N, relS s x.sc, fun n => s.names.lookup n == some .cell⟩
def ownP (N : List Str) (own : List Nat) : List (Str × Nat) := own.map fun i => (N.getD i default, i)
def Me.name : Me → String
  | .append => "append"
  | .pop => "pop"
  | .extend => "extend"
def noCall : Expr → Bool
  | .Call .. => false
  | _ => true
/-- the keywords' names as they stand in the call -/
def ksOf (d : Fn) (n : Nat) (qs : List Nat) : List String := (List.range qs.length).map fun q => d.ps.getD (n + (qs.findIdx (· == q))) ""
def chkTy (x : SX) : List String → List Expr → Bool
  | [], [] => true
  | s :: ss, .Name n _ :: es => decide (n = Str.ofString s) && x.gl n && decide (s ∈ clNames) && chkTy x ss es
  | _, _ => false
def chkNm (x : SX) (i : Nat) (e : Expr) : Bool := match e with
  | .Name n _ => decide (x.N[i]? = some n) && x.loc n
  | _ => false
def chkNms (x : SX) : List Nat → List Expr → Bool
  | [], [] => true
  | i :: l, e :: es => chkNm x i e && chkNms x l es
  | _, _ => false
def chkTg (x : SX) (tg : Tg) (e : Expr) : Bool := match tg, e with
  | .nm i, e => chkNm x i e
  | .tu l, .Tuple es _ _ => chkNms x l es
  | _, _ => false
def Tg.slots : Tg → List Nat
  | .nm i => [i]
  | .tu l => l
section
variable (Φ : String → Option Fn)
mutual
def chkC : C → SX → Expr → Bool
  | .var i, x, e => match e with
    | .Name n _ => decide (x.N[i]? = some n) && x.vis n && plainN n
    | _ => false
  | .con k, x, e => match k, e with
    | .non, .Constant .none _ _ => true
    | .bl b, .Constant (.bool c) _ _ => b == c
    | .int i, .Constant (.int j) _ _ => i == j
    | .str s, .Constant (.str t) _ _ => decide (Str.ofString s = t)
    | _, _ => false
  | .tup es, x, e => match e with
    | .Tuple l _ _ => chkCs es x l
    | _ => false
  | .lst _ es, x, e => match e with
    | .List l _ => chkCs es x l
    | _ => false
  | .bin _ o a b, x, e => match e with
    | .BinOp l op r _ => decide (o.op = op) && chkC a x l && chkC b x r
    | _ => false
  | .neg a, x, e => match e with
    | .UnaryOp .USub l _ => chkC a x l
    | _ => false
  | .cmp o a b, x, e => match e with
    | .Compare l [op] [r] _ => decide (o.op = op) && chkC a x l && chkC b x r
    | _ => false
  | .chain o o' a b c, x, e => match e with
    | .Compare l [op, op'] [m, r] _ => decide (o.op = op) && decide (o'.op = op') && chkC a x l && chkC b x m && chkC c x r
    | _ => false
  | .and a b, x, e => match e with
    | .BoolOp .And (l :: r :: t) p => chkC a x l && chkC b x (.BoolOp .And (r :: t) p)
    | _ => false
  | .or a b, x, e => match e with
    | .BoolOp .Or (l :: r :: t) p => chkC a x l && chkC b x (.BoolOp .Or (r :: t) p)
    | _ => false
  | .one a, x, e => match e with
    | .BoolOp _ [l] _ => chkC a x l
    | _ => false
  | .not a, x, e => match e with
    | .UnaryOp .Not l _ => chkC a x l
    | _ => false
  | .ife t a b, x, e => match e with
    | .IfExp c l r _ => chkT t x c && chkC a x l && chkC b x r
    | _ => false
  | .ix a i, x, e => match e with
    | .Subscript l r _ => chkC a x l && chkC i x r
    | _ => false
  | .sl _ a lo hi, x, e => match e with
    | .Subscript l (.Slice lo' hi' none _) _ => chkC a x l && chkO lo x lo' && chkO hi x hi'
    | _ => false
  | .rev _ a, x, e => match e with
    | .Subscript l (.Slice none none (some (.UnaryOp .USub (.Constant (.int 1) _ _) _)) _) _ => chkC a x l
    | _ => false
  | .call _ f es, x, e => match e with
    | .Call (.Name n _) l [] _ => decide (n = Str.ofString f) && x.gl n && plainN n && (Φ f).isSome && chkCs es x l
    | _ => false
  | .callk _ f es qs kes, x, e => match e with
    | .Call (.Name n _) l (kw :: kws) _ => decide (n = Str.ofString f) && x.gl n && plainN n && chkCs es x l && chkK kes x (kw :: kws) && (match Φ f with
      | some d => decide ((es.len, qs) ∈ d.kw) && decide ((kw :: kws).map (·.arg) = (ksOf d es.len qs).map fun s => some (Str.ofString s))
      | none => false)
    | _ => false
  | .bi b es, x, e => match e with
    | .Call (.Name n _) (l :: r) [] _ => decide (n = Str.ofString b.name) && x.gl n && chkCs es x (l :: r)
    | _ => false
  | .lrange _ es, x, e => match e with
    | .Call (.Name n _) [.Call (.Name m _) (l :: r) [] _] [] _ => decide (n = Str.ofString "list") && x.gl n && decide (m = Str.ofString "range") && x.gl m && chkCs es x (l :: r)
    | _ => false
  | .trange es, x, e => match e with
    | .Call (.Name n _) [.Call (.Name m _) (l :: r) [] _] [] _ => decide (n = Str.ofString "tuple") && x.gl n && decide (m = Str.ofString "range") && x.gl m && chkCs es x (l :: r)
    | _ => false
  | .isi a ts, x, e => match e with
    | .Call (.Name n _) [l, c] [] _ => decide (n = Str.ofString "isinstance") && x.gl n && chkC a x l && (match c with
      | .Tuple cs _ _ => decide (cs.length ≤ 20) && chkTy x ts cs
      | c => chkTy x ts [c])
    | _ => false
  | .meth m o es, x, e => match e with
    | .Call (.Attribute l n ap) r [] cp => decide (n = Str.ofString m.name) && noCall l && (ap.endLine == cp.line) && decide (r.length ≤ 8) && chkC o x l && chkCs es x r
    | _ => false
  | .lc _ tg it ifs el own, x, e => match e with
    | .ListComp v [⟨t, i, ts, 0⟩] sc _ => blkC x.N x.sc sc (ownP x.N own) && (tg.slots.all fun j => decide (j ∈ own)) && chkTg (x.in_ sc) tg t && chkI it x t i && chkF ifs (x.in_ sc) ts && chkC el (x.in_ sc) v
    | _ => false
  | .ssc _ tg it ifs el own, x, e => match e with
    | .Call (.Name n _) [.SetComp v [⟨t, i, ts, 0⟩] sc _] [] _ => decide (n = Str.ofString "sorted") && x.gl n && blkC x.N x.sc sc (ownP x.N own) && (tg.slots.all fun j => decide (j ∈ own)) && chkTg (x.in_ sc) tg t && chkI it x t i && chkF ifs (x.in_ sc) ts && chkC el (x.in_ sc) v
    | _ => false
termination_by structural c => c
def chkT : T → SX → Expr → Bool
  | .v c, x, e => match e with
    | .UnaryOp .Not _ _ => false
    | .BoolOp .. => false
    | .IfExp .. => false
    | e => chkC c x e
  | .and a b, x, e => match e with
    | .BoolOp .And (l :: r :: t) p => chkT a x l && chkT b x (.BoolOp .And (r :: t) p)
    | _ => false
  | .or a b, x, e => match e with
    | .BoolOp .Or (l :: r :: t) p => chkT a x l && chkT b x (.BoolOp .Or (r :: t) p)
    | _ => false
  | .one a, x, e => match e with
    | .BoolOp _ [l] _ => chkT a x l
    | _ => false
  | .not a, x, e => match e with
    | .UnaryOp .Not l _ => chkT a x l
    | _ => false
termination_by structural c => c
def chkCs : Cs → SX → List Expr → Bool
  | .nil, _, l => match l with
    | [] => true
    | _ => false
  | .cons a r, x, l => match l with
    | e :: es => chkC a x e && chkCs r x es
    | _ => false
termination_by structural c => c
def chkK : Cs → SX → List Keyword → Bool
  | .nil, _, l => match l with
    | [] => true
    | _ => false
  | .cons a r, x, l => match l with
    | ⟨some _, e, _⟩ :: es => chkC a x e && chkK r x es
    | _ => false
termination_by structural c => c
def chkO : Co → SX → Option Expr → Bool
  | .no, _, o => match o with
    | none => true
    | _ => false
  | .so a, x, o => match o with
    | some e => chkC a x e
    | _ => false
termination_by structural c => c
def chkF : To → SX → List Expr → Bool
  | .no, _, l => match l with
    | [] => true
    | _ => false
  | .so a, x, l => match l with
    | [e] => chkT a x e
    | _ => false
termination_by structural c => c
def chkI : It' → SX → Expr → Expr → Bool
  | .val a, x, _, e => chkC a x e
  | .range1 a, x, _, e => match e with
    | .Call (.Name n _) [l] [] _ => decide (n = Str.ofString "range") && x.gl n && chkC a x l
    | _ => false
  | .range2 a b, x, _, e => match e with
    | .Call (.Name n _) [l, r] [] _ => decide (n = Str.ofString "range") && x.gl n && chkC a x l && chkC b x r
    | _ => false
  | .enum a, x, t, e => match t, e with
    | .Tuple _ _ _, .Call (.Name n _) [l] [] _ => decide (n = Str.ofString "enumerate") && x.gl n && chkC a x l
    | _, _ => false
termination_by structural c => c
end
end
end Mi

namespace Mi
open PySem PySem.Spec L2

section
variable {Φ : String → Option Fn}
/-- what no checked expression is -/
def odd : Expr → Bool
  | .Starred .. => true
  | .Slice .. => true
  | .Set .. => true
  | .NamedExpr .. => true
  | _ => false
theorem chk_odd {c : C} {x : SX} {e : Expr} (h : chkC Φ c x e = true) : odd e = false := by
  cases e <;> first
    | rfl
    | (exfalso; cases c <;> first | exact Bool.false_ne_true h | (rename_i k; cases k <;> exact Bool.false_ne_true h))
theorem odd_star {e : Expr} (h : odd e = false) (es : List Expr) (env : PySem.Env) : starEach (e :: es) env = (false, eval e env) :: starEach es env := by
  cases e <;> first | rfl | (exfalso; exact Bool.false_ne_true h.symm)
theorem odd_fold {e : Expr} (h : odd e = false) (env : PySem.Env) (v : Value) : foldedSetIterable e env v = pure v := by
  cases e <;> first | rfl | (exfalso; exact Bool.false_ne_true h.symm)
theorem odd_mark {e : Expr} (h : odd e = false) (op : CmpOp) : behindInMarks op e = false := by
  cases e <;> first | rfl | (exfalso; exact Bool.false_ne_true h.symm)
theorem odd_ix {e : Expr} (h : odd e = false) : PlainIx e := by
  intro o i
  cases e <;> first | rfl | (exfalso; exact Bool.false_ne_true h.symm)
theorem noCall_base {e : Expr} (h : noCall e = true) (n : Str) (env : PySem.Env) (wh : Sem Value) : attributeBase e n env wh = wh := by
  cases e <;> first | rfl | (exfalso; exact Bool.false_ne_true h)
/-- .. of all -/
def AllOdd : List Expr → Prop := fun l => ∀ e ∈ l, odd e = false
theorem chks_odd : ∀ {cs : Cs} {x : SX} {l : List Expr}, chkCs Φ cs x l = true → AllOdd l
  | .nil, x, l, h => by
    cases l with
    | nil => exact fun e he => by cases he
    | cons e es => simp [chkCs] at h
  | .cons a r, x, l, h => by
    cases l with
    | nil => simp [chkCs] at h
    | cons e es =>
      simp only [chkCs, Bool.and_eq_true] at h
      intro e' he
      rcases List.mem_cons.mp he with rfl | he
      · exact chk_odd h.1
      · exact chks_odd h.2 e' he
theorem stars_off {l : List Expr} (h : AllOdd l) (pos : Pos) (env : PySem.Env) : (backTo pos (starEach l env)).any (·.1) = false := by
  induction l with
  | nil => rfl
  | cons e es ih =>
    rw [odd_star (h e List.mem_cons_self)]
    show (false || (backTo pos (starEach es env)).any (·.1)) = false
    rw [ih fun e he => h e (List.mem_cons_of_mem _ he)]
    rfl
theorem stars_all {l : List Expr} (h : AllOdd l) (pos : Pos) (env : PySem.Env) : (backTo pos (starEach l env)).all (fun x => !x.1) = true := by
  induction l with
  | nil => rfl
  | cons e es ih =>
    rw [odd_star (h e List.mem_cons_self)]
    show (!false && (backTo pos (starEach es env)).all (fun x => !x.1)) = true
    rw [ih fun e he => h e (List.mem_cons_of_mem _ he)]
    rfl
end

def bnames : List String := ["abs", "max", "min", "int", "len", "sum", "list", "tuple", "sorted", "str", "range", "isinstance", "enumerate", "bool", "dict", "any", "all", "set"]
/-- where a body runs: names, room, the built-ins' names, the text's defs at level k -/
structure Good (Φ : String → Option Fn) (x : SX) (X : Cx) (CX : CXT) (k : Nat) (E : XK) : Prop where
  eN : X.N = x.N
  eS : X.env.scope = x.sc
  eF : ∀ n, X.fn n = x.fb n
  nd : X.N.Nodup
  calm : X.calm = true
  room : Room k X.A
  bl : ∀ n ∈ bnames, X.mg (Str.ofString n) = none
  fns : ∀ f d, Φ f = some d → ∃ a fd, X.mg (Str.ofString f) = some (.ref a) ∧ PySem.W.keepIn X.K (.ref a) = true ∧
    FnOk X.prog X.w X.K X.mg X.base CX k a fd (d.ps.map Str.ofString) (spM X.K X.mg d.ps.length (evalFn Φ k f)) ∧ Binds X.K fd (d.ps.map Str.ofString) [] ∧
    ∀ n qs, (n, qs) ∈ d.kw → KBinds X.K fd (d.ps.map Str.ofString) ((ksOf d n qs).map Str.ofString) (placeN n qs) (placeN n qs)
  pass : Passes CX X E
  pass0 : ∀ Y : Cx, Y.prog = X.prog → Y.w = X.w → Passes CX Y (fun _ _ _ => False)
section
variable {Φ : String → Option Fn} {x : SX} {X : Cx} {CX : CXT} {k : Nat} {E : XK}
theorem Good.gl (g : Good Φ x X CX k E) {n : Str} (h : x.gl n = true) : Gl X n := by
  unfold SX.gl at h
  show X.env.scope.names.lookup n = _
  rw [g.eS]
  exact of_decide_eq_true h
theorem Good.vis (g : Good Φ x X CX k E) {n : Str} (h : x.vis n = true) : Vis X.env.scope n := by
  unfold SX.vis at h
  unfold Vis
  rw [g.eS]
  split at h
  · exact .inl (by assumption)
  · exact .inr (.inl (by assumption))
  · exact .inr (.inr (by assumption))
  · cases h
theorem Good.loc (g : Good Φ x X CX k E) {n : Str} (h : x.loc n = true) : L2.Loc X.env.scope n ∧ (X.fn n = true ∨ X.env.scope.names.lookup n = some .local) := by
  unfold SX.loc at h
  unfold L2.Loc
  rw [g.eS, g.eF]
  split at h
  · exact ⟨.inl (by assumption), .inr (by assumption)⟩
  · exact ⟨.inr (by assumption), .inl h⟩
  · cases h
theorem plainN_of {n : Str} (h : plainN n = true) : (n == ("__debug__" : Str)) = false ∧ (n == ("__classdict__" : Str)) = false := by
  unfold plainN at h
  simp only [Bool.and_eq_true, Bool.not_eq_true'] at h
  exact h
/-- a comprehension's block -/
theorem Good.blk (g : Good Φ x X CX k E) (s : Shared) (H : Hp) (C : Addr) (cl : List (Str × Addr)) (fp : List Addr) (sc : Scope) :
    Good Φ (x.in_ sc) (X.blk s H sc (compEnvC sc cl C X.env) fp) CX k (fun _ _ _ => False) where
  eN := g.eN
  eS := by
    show (compEnvC sc cl C X.env).scope = relS sc x.sc
    rw [← g.eS]; rfl
  eF := fun n => rfl
  nd := g.nd
  calm := g.calm
  room := g.room
  bl := g.bl
  fns := g.fns
  pass := g.pass0 _ rfl rfl
  pass0 := g.pass0
end
end Mi

namespace Mi
open PySem PySem.Spec L2

section
variable {Φ : String → Option Fn} {x : SX} {X : Cx} {CX : CXT} {k : Nat} {E : XK}
/-- a def's own text is read over this -/
abbrev rdC (X : Cx) (Φ : String → Option Fn) (k : Nat) (E : XK) (c : C) : TE := tM X.K X.mg E (ev (evalFn Φ k) c)
abbrev rdT (X : Cx) (Φ : String → Option Fn) (k : Nat) (E : XK) (c : T) : TT := tB' X.K X.mg E (evT (evalFn Φ k) c)
abbrev rdCs (X : Cx) (Φ : String → Option Fn) (k : Nat) (E : XK) (c : Cs) : TA := tMs X.K X.mg E (evs (evalFn Φ k) c)

theorem l_var {i : Nat} {n : Str} {p : Pos} (g : Good Φ x X CX k E) (h1 : x.N[i]? = some n) (h2 : x.vis n = true) (h3 : plainN n = true) : PE X (.Name n p) (rdC X Φ k E (.var i)) := by
  refine PE.wk (pe_var (i := i) (by rw [g.eN]; exact h1) (g.vis h2) (plainN_of h3).1 (plainN_of h3).2) ?_
  rintro σ H Q ⟨Z, α, S, γ, s, er, h⟩
  simp only [ev] at h
  split at h
  · rename_i m e
    obtain ⟨v, e1, r⟩ := er.get i m e
    exact ⟨v, e1, out_val s r h⟩
  · exact False.elim h
theorem l_con {q : Kon} {m : M} {v : V} {e : Expr} (hm : q.m = m) (he : PE X e (tC v)) (hr : ∀ Z α H, Rep X.K Z α H m v) : PE X e (rdC X Φ k E (.con q)) := by
  refine PE.wk he ?_
  rintro σ H Q ⟨Z, α, S, γ, s, er, h⟩
  simp only [ev, hm] at h
  exact out_val s (hr _ _ _) h
theorem l_tup {es : Cs} {l : List Expr} {j : Nat} {p : Pos} (h : PA X l (rdCs X Φ k E es)) : PE X (.Tuple l j p) (rdC X Φ k E (.tup es)) := by
  refine PE.wk (pe_tup h) ?_
  rintro σ H Q ⟨Z, α, S, γ, s, er, h⟩
  simp only [ev] at h
  refine ⟨Z, α, S, γ, s, er, h.bind.imp fun ms S1 α1 H1 t1 s1 h vs r => ?_⟩
  obtain ⟨c, h⟩ := h.when
  have := big_line
  exact ⟨by rw [← r.length]; omega, fun q hq => Out.mkT s1 r hq h⟩
theorem l_lst {al : Bool} {es : Cs} {l : List Expr} {p : Pos} (h : PA X l (rdCs X Φ k E es)) : PE X (.List l p) (rdC X Φ k E (.lst al es)) := by
  refine PE.wk (pe_lst h) ?_
  rintro σ H Q ⟨Z, α, S, γ, s, er, h⟩
  simp only [ev] at h
  refine ⟨Z, α, S, γ, s, er, h.bind.imp fun ms S1 α1 H1 t1 s1 h vs r => ?_⟩
  obtain ⟨c, h⟩ := h.when
  have := big_line
  exact ⟨by rw [← r.length]; omega, fun q hq => Out.mkL s1 r hq h⟩
theorem l_bin {al : Bool} {o : Bop} {a b : C} {e f : Expr} {p : Pos} (ha : PE X e (rdC X Φ k E a)) (hb : PE X f (rdC X Φ k E b)) : PE X (.BinOp e o.op f p) (rdC X Φ k E (.bin al o a b)) := by
  refine PE.wk (pe_op (op_bin o) ha hb) ?_
  rintro σ H Q ⟨Z, α, S, γ, s, er, h⟩
  simp only [ev] at h
  refine ⟨Z, α, S, γ, s, er, h.bind.imp fun m S1 α1 H1 t1 s1 h v rv => ⟨Z, α1, S1, γ, s1, er.tr s.muts t1, h.bind.imp fun n S2 α2 H2 t2 s2 h u ru => ?_⟩⟩
  exact bin_out s2 (Rep.tr s1.muts t2 _ _ rv) ru h
theorem l_neg {a : C} {e : Expr} {p : Pos} (ha : PE X e (rdC X Φ k E a)) : PE X (.UnaryOp .USub e p) (rdC X Φ k E (.neg a)) := by
  refine PE.wk (pe_un un_neg ha) ?_
  rintro σ H Q ⟨Z, α, S, γ, s, er, h⟩
  simp only [ev] at h
  refine ⟨Z, α, S, γ, s, er, h.bind.imp fun m S1 α1 H1 t1 s1 h v rv => ?_⟩
  split at h
  · exact ⟨_, rep_int rv, out_int s1 h⟩
  · exact False.elim h
theorem l_cmp {o : Cop} {a b : C} {e f : Expr} {p : Pos} (ha : PE X e (rdC X Φ k E a)) (hb : PE X f (rdC X Φ k E b)) (hm : behindInMarks o.op f = false) : PE X (.Compare e [o.op] [f] p) (rdC X Φ k E (.cmp o a b)) := by
  refine PE.wk (pe_cmpR (op_cmp o) ha hb hm) ?_
  rintro σ H Q ⟨Z, α, S, γ, s, er, h⟩
  simp only [ev] at h
  refine ⟨Z, α, S, γ, s, er, h.bind.imp fun m S1 α1 H1 t1 s1 h v rv => ⟨Z, α1, S1, γ, s1, er.tr s.muts t1, h.bind.imp fun n S2 α2 H2 t2 s2 h u ru => ?_⟩⟩
  exact cmp_out s2 (Rep.tr s1.muts t2 _ _ rv) ru h
theorem l_chain {o o' : Cop} {a b c : C} {e f d : Expr} {p : Pos} (ha : PE X e (rdC X Φ k E a)) (hb : PE X f (rdC X Φ k E b)) (hc : PE X d (rdC X Φ k E c)) (hm : behindInMarks o'.op d = false) :
    PE X (.Compare e [o.op, o'.op] [f, d] p) (rdC X Φ k E (.chain o o' a b c)) := by
  refine PE.wk (pe_chain (op_cmp o) (op_cmp o') ha hb hc (show lastMarks [o.op, o'.op] [f, d] = false from hm)) ?_
  rintro σ H Q ⟨Z, α, S, γ, s, er, h⟩
  simp only [ev] at h
  refine ⟨Z, α, S, γ, s, er, h.bind.imp fun m S1 α1 H1 t1 s1 h v rv => ⟨Z, α1, S1, γ, s1, er.tr s.muts t1, h.bind.imp fun n S2 α2 H2 t2 s2 h u ru => ?_⟩⟩
  refine cmp_out s2 (Rep.tr s1.muts t2 _ _ rv) ru (h.bind.imp fun r S3 α3 H3 t3 s3 h z rz => ?_)
  split at h
  · refine ⟨true, rep_bl rz, ?_⟩
    rw [if_pos rfl]
    refine ⟨Z, α3, S3, γ, s3, (er.tr s.muts t1).tr s1.muts (t2.trans t3), h.bind.imp fun w S4 α4 H4 t4 s4 h y ry => ?_⟩
    exact cmp_out s4 (Rep.tr s2.muts (t3.trans t4) _ _ ru) ry h
  · refine ⟨false, rep_bl rz, ?_⟩
    rw [if_neg Bool.false_ne_true]
    exact out_bl s3 h
  · exact False.elim h
theorem l_and {a b : C} {e f : Expr} {fs : List Expr} {p p' : Pos} (ha : PE X e (rdC X Φ k E a)) (hb : PE X (.BoolOp .And (f :: fs) p) (rdC X Φ k E b)) : PE X (.BoolOp .And (e :: f :: fs) p) (rdC X Φ k E (.and a b)) := by
  refine PE.wk (pe_and ha hb) ?_
  rintro σ H Q ⟨Z, α, S, γ, s, er, h⟩
  simp only [ev] at h
  refine ⟨Z, α, S, γ, s, er, h.bind.imp fun m S1 α1 H1 t1 s1 h v rv => ?_⟩
  split at h
  · exact ⟨true, rep_bl rv, by rw [if_pos rfl]; exact ⟨Z, α1, S1, γ, s1, er.tr s.muts t1, h⟩⟩
  · exact ⟨false, rep_bl rv, by rw [if_neg Bool.false_ne_true]; exact out_bl s1 h⟩
  · exact False.elim h
theorem l_or {a b : C} {e f : Expr} {fs : List Expr} {p p' : Pos} (ha : PE X e (rdC X Φ k E a)) (hb : PE X (.BoolOp .Or (f :: fs) p) (rdC X Φ k E b)) : PE X (.BoolOp .Or (e :: f :: fs) p) (rdC X Φ k E (.or a b)) := by
  refine PE.wk (pe_or ha hb) ?_
  rintro σ H Q ⟨Z, α, S, γ, s, er, h⟩
  simp only [ev] at h
  refine ⟨Z, α, S, γ, s, er, h.bind.imp fun m S1 α1 H1 t1 s1 h v rv => ?_⟩
  split at h
  · exact ⟨true, rep_bl rv, by rw [if_pos rfl]; exact out_bl s1 h⟩
  · exact ⟨false, rep_bl rv, by rw [if_neg Bool.false_ne_true]; exact ⟨Z, α1, S1, γ, s1, er.tr s.muts t1, h⟩⟩
  · exact False.elim h
theorem l_one {a : C} {o : BoolOp} {e : Expr} {p : Pos} (ha : PE X e (rdC X Φ k E a)) : PE X (.BoolOp o [e] p) (rdC X Φ k E (.one a)) := by
  refine PE.wk (pe_one ha) ?_
  rintro σ H Q ⟨Z, α, S, γ, s, er, h⟩
  simp only [ev] at h
  exact ⟨Z, α, S, γ, s, er, h⟩
theorem l_not {a : C} {e : Expr} {p : Pos} (ha : PE X e (rdC X Φ k E a)) : PE X (.UnaryOp .Not e p) (rdC X Φ k E (.not a)) := by
  refine PE.wk (pe_not ha) ?_
  rintro σ H Q ⟨Z, α, S, γ, s, er, h⟩
  simp only [ev] at h
  refine ⟨Z, α, S, γ, s, er, h.bind.imp fun m S1 α1 H1 t1 s1 h v rv => ?_⟩
  split at h
  · exact ⟨_, rep_bl rv, out_bl s1 h⟩
  · exact False.elim h
theorem l_ife {t : T} {a b : C} {c e f : Expr} {p : Pos} (ht : PT X c (rdT X Φ k E t)) (ha : PE X e (rdC X Φ k E a)) (hb : PE X f (rdC X Φ k E b)) : PE X (.IfExp c e f p) (rdC X Φ k E (.ife t a b)) := by
  refine PE.wk (pe_ifExp ht ha hb) ?_
  rintro σ H Q ⟨Z, α, S, γ, s, er, h⟩
  simp only [ev] at h
  refine ⟨Z, α, S, γ, s, er, h.bind.imp fun m S1 α1 H1 t1 s1 h => ?_⟩
  cases m with
  | true => rw [if_pos rfl] at h ⊢; exact ⟨Z, α1, S1, γ, s1, er.tr s.muts t1, h⟩
  | false => rw [if_neg Bool.false_ne_true] at h ⊢; exact ⟨Z, α1, S1, γ, s1, er.tr s.muts t1, h⟩
theorem l_ix {a i : C} {e f : Expr} {p : Pos} (ha : PE X e (rdC X Φ k E a)) (hi : PE X f (rdC X Φ k E i)) (hf : odd f = false) : PE X (.Subscript e f p) (rdC X Φ k E (.ix a i)) := by
  refine PE.wk (pe_ix (ix_list.or ix_tup) ha hi (odd_ix hf)) ?_
  rintro σ H Q ⟨Z, α, S, γ, s, er, h⟩
  simp only [ev] at h
  refine ⟨Z, α, S, γ, s, er, h.bind.imp fun m S1 α1 H1 t1 s1 h v rv => ⟨Z, α1, S1, γ, s1, er.tr s.muts t1, h.bind.imp fun n S2 α2 H2 t2 s2 h u ru => ?_⟩⟩
  exact ix_out s2 (Rep.tr s1.muts t2 _ _ rv) ru h
/-- parts of a slice -/
abbrev rdO (X : Cx) (Φ : String → Option Fn) (k : Nat) (E : XK) (c : Co) : TO := fun σ H Q => tR X.K X.mg E (evo (evalFn Φ k) c) σ H fun _ o _ _ H' => Q o H'
theorem l_no : PO X none (rdO X Φ k E .no) := by
  refine ⟨fun pins s σ H Q I h => (po_none (X := X)).run pins s σ H Q I ?_⟩
  obtain ⟨Z, α, S, γ, s, er, h⟩ := h
  simp only [evo] at h
  exact h.now s
theorem sl_out {al : Bool} {m : M} {v : V} {lo hi : Option Int} {K : PySem.W.Frag} {mg : Str → Option Value} {Z α : List Addr} {H : Hp} {S : Store} {Q : VK} (s : SR K Z α H S) (rv : Rep K Z α H m v)
    (h : Out K Z mg E (slop al m lo hi S) α H (PM K Z Q)) : rSlL K v lo hi H Q ∨ rSlA K v lo hi H Q := by
  have key : ∀ ms, seqOf S m = some ms → (∀ l, m ≠ .tup l) → Out K Z mg E (mkL al (cutM ms lo hi) S) α H (PM K Z Q) → rSlL K v lo hi H Q ∨ rSlA K v lo hi H Q := fun ms e nt h => by
    obtain ⟨a, xs, rfl, hs, r⟩ := seq_rep s rv e
    rcases hs with ⟨hs, _⟩ | ⟨hs, em⟩
    · exact .inl ⟨a, xs, rfl, hs, fun p hp => Out.mkL s (cut_rep lo hi r) hp h⟩
    · exact absurd em (nt ms)
  unfold slop at h
  cases m with
  | tup ms =>
    simp only [Rep] at rv
    obtain ⟨a, xs, rfl, hs, r⟩ := rv
    refine .inr ⟨a, xs, rfl, hs, fun hw => ?_, fun _ p hp => Out.mkT s (cut_rep lo hi r) hp h⟩
    have e : cutM ms lo hi = ms := by
      unfold cutM
      rw [r.length, hw.1, hw.2, List.drop_zero, Nat.sub_zero, ← r.length, List.take_length]
    dsimp only at h
    rw [e] at h
    exact out_val s (m := .tup ms) (by simp only [Rep]; exact ⟨a, xs, rfl, hs, r⟩) h
  | str z => exact False.elim h
  | lst l => obtain ⟨ms, e, h⟩ := h.of; exact key ms e (by simp) h
  | scr l => obtain ⟨ms, e, h⟩ := h.of; exact key ms e (by simp) h
  | ref l => obtain ⟨ms, e, h⟩ := h.of; exact key ms e (by simp) h
  | non => obtain ⟨ms, e, h⟩ := h.of; exact key ms e (by simp) h
  | bl l => obtain ⟨ms, e, h⟩ := h.of; exact key ms e (by simp) h
  | int l => obtain ⟨ms, e, h⟩ := h.of; exact key ms e (by simp) h
theorem l_so {a : C} {e : Expr} (ha : PE X e (rdC X Φ k E a)) : PO X (some e) (rdO X Φ k E (.so a)) := by
  refine ⟨fun pins s σ H Q I h => (po_some ha).run pins s σ H Q I ?_⟩
  obtain ⟨Z, α, S, γ, s, er, h⟩ := h
  simp only [evo] at h
  refine ⟨Z, α, S, γ, s, er, h.bind.imp fun m S1 α1 H1 t1 s1 h v rv => ?_⟩
  split at h
  · exact ⟨_, rep_int rv, h.now s1⟩
  · exact False.elim h
theorem l_sl {al : Bool} {a : C} {lo hi : Co} {e : Expr} {l u : Option Expr} {p p2 : Pos} (ha : PE X e (rdC X Φ k E a)) (hl : PO X l (rdO X Φ k E lo)) (hu : PO X u (rdO X Φ k E hi)) :
    PE X (.Subscript e (.Slice l u none p2) p) (rdC X Φ k E (.sl al a lo hi)) := by
  refine PE.wk (pe_slice (sl_list.or sl_tupA) ha hl hu) ?_
  rintro σ H Q ⟨Z, α, S, γ, s, er, h⟩
  simp only [ev] at h
  refine ⟨Z, α, S, γ, s, er, h.bind.imp fun m S1 α1 H1 t1 s1 h v rv => ⟨Z, α1, S1, γ, s1, er.tr s.muts t1, h.bind.imp fun o1 S2 α2 H2 t2 s2 h => ?_⟩⟩
  refine ⟨Z, α2, S2, γ, s2, (er.tr s.muts t1).tr s1.muts t2, h.bind.imp fun o2 S3 α3 H3 t3 s3 h => ?_⟩
  exact sl_out s3 (Rep.tr s1.muts (t2.trans t3) _ _ rv) h
theorem l_rev {al : Bool} {a : C} {e : Expr} {j : Nat} {p p1 p2 p3 : Pos} (ha : PE X e (rdC X Φ k E a)) : PE X (.Subscript e (.Slice none none (some (.UnaryOp .USub (.Constant (.int 1) j p1) p2)) p3) p) (rdC X Φ k E (.rev al a)) := by
  refine PE.wk (pe_revL ha) ?_
  rintro σ H Q ⟨Z, α, S, γ, s, er, h⟩
  simp only [ev] at h
  refine ⟨Z, α, S, γ, s, er, h.bind.imp fun m S1 α1 H1 t1 s1 h v rv => ?_⟩
  obtain ⟨ms, e, h⟩ := h.of
  obtain ⟨a, xs, rfl, hs, r⟩ := lst_rep s1 rv e
  exact ⟨a, xs, rfl, .of hs, fun p hp => Out.mkL s1 r.reverse hp h⟩
/-! ### arguments -/
theorem l_nil : PA X [] (rdCs X Φ k E .nil) := by
  refine PA.wk pa_nil ?_
  rintro σ H Q ⟨Z, α, S, γ, s, er, h⟩
  simp only [evs] at h
  exact h.now s [] (by simp only [RepL])
theorem l_cons {a : C} {r : Cs} {e : Expr} {es : List Expr} (ha : PE X e (rdC X Φ k E a)) (hr : PA X es (rdCs X Φ k E r)) (ho : odd e = false) : PA X (e :: es) (rdCs X Φ k E (.cons a r)) := by
  refine PA.wk (pa_cons ha hr (odd_star ho es X.env)) ?_
  rintro σ H Q ⟨Z, α, S, γ, s, er, h⟩
  simp only [evs] at h
  refine ⟨Z, α, S, γ, s, er, h.bind.imp fun m S1 α1 H1 t1 s1 h v rv => ⟨Z, α1, S1, γ, s1, er.tr s.muts t1, h.bind.imp fun ms S2 α2 H2 t2 s2 h us ru => ?_⟩⟩
  exact h.now s2 (v :: us) (by simp only [RepL]; exact ⟨v, us, rfl, Rep.tr s1.muts t2 _ _ rv, ru⟩)
/-! ### calls of the text's defs -/
theorem derefs_len {S : Store} : ∀ {ms as : List M}, derefs S ms = some as → ms.length = as.length
  | [], as, e => by simp only [derefs, Option.some.injEq] at e; subst e; rfl
  | m :: ms, as, e => by
    simp only [derefs] at e
    obtain ⟨a, e1, e⟩ := Option.bind_eq_some_iff.mp e
    obtain ⟨bs, e2, rfl⟩ := Option.map_eq_some_iff.mp e
    simp only [List.length_cons, derefs_len e2]
theorem evalFn_len {f : String} {d : Fn} {ms : List M} {S : Store} (hd : Φ f = some d) (h : evalFn Φ k f ms S ≠ .bad) : ms.length = d.ps.length := by
  cases k with
  | zero => exact absurd rfl h
  | succ k =>
    simp only [evalFn, hd] at h
    by_cases c : ms.length = d.ps.length
    · exact c
    · exact absurd (if_neg c) h
theorem callM_len {K : PySem.W.Frag} {mg : Str → Option Value} {Z α : List Addr} {H : Hp} {pu : Bool} {f : String} {d : Fn} {ms : List M} {S : Store} {P : M → Store → List Addr → Hp → Prop} (hd : Φ f = some d)
    (h : Out K Z mg E (callM (evalFn Φ k) pu f ms S) α H P) : ms.length = d.ps.length := by
  unfold callM at h
  cases pu with
  | false =>
    rw [if_neg (by simp)] at h
    exact evalFn_len hd fun z => by rw [z] at h; exact h
  | true =>
    rw [if_pos rfl] at h
    obtain ⟨as, e, h⟩ := h.of
    rw [derefs_len e]
    refine evalFn_len (k := k) (S := []) hd fun z => ?_
    rw [z] at h
    exact h
theorem l_call {pu : Bool} {f : String} {d : Fn} {es : Cs} {n : Str} {l : List Expr} {p q : Pos} (g : Good Φ x X CX k E) (hd : Φ f = some d) (hn : n = Str.ofString f) (hg : x.gl n = true) (hp : plainN n = true) (ha : PA X l (rdCs X Φ k E es)) (ho : AllOdd l) (hnil : l = [] → es = .nil) :
    PE X (.Call (.Name n p) l [] q) (rdC X Φ k E (.call pu f es)) := by
  subst hn
  obtain ⟨a, fd, hm, hk, F, hb, _⟩ := g.fns f d hd
  have main : ∀ σ H Q, rdC X Φ k E (.call pu f es) σ H Q → tCall (spM X.K X.mg d.ps.length (evalFn Φ k f)) [] E (rdCs X Φ k E es) σ H Q := by
    rintro σ H Q ⟨Z, α, S, γ, s, er, h⟩
    simp only [ev] at h
    refine ⟨Z, α, S, γ, s, er, h.bind.imp fun ms S1 α1 H1 t1 s1 h vs r => ?_⟩
    show spM X.K X.mg d.ps.length (evalFn Φ k f) (vs ++ []) H1 Q E
    rw [List.append_nil]
    exact call_out s1 r (by rw [← r.length]; exact callM_len hd h) h
  cases l with
  | nil =>
    cases hnil rfl
    refine PE.wk (pe_call0 F g.room (g.gl hg) hm hk hb .nil g.pass (plainN_of hp).1) fun σ H Q h => ?_
    obtain ⟨Z2, α2, S2, γ2, s2, er2, h2⟩ := main σ H Q h
    simp only [evs] at h2
    exact h2.now s2 [] (by simp only [RepL])
  | cons e es' => exact PE.wk (pe_call F g.room (g.gl hg) hm hk hb .nil g.pass ha (plainN_of hp).1 (odd_star (ho e List.mem_cons_self) es' X.env) (stars_off (fun e he => ho e (List.mem_cons_of_mem _ he)) q X.env)) main
/-! ### calls of built-ins -/
theorem boot_bi (b : Bi) : bootBuiltins (Str.ofString b.name) = some b.val := by cases b <;> first | decide +kernel | (rename_i al; revert al; decide +kernel)
theorem bi_in (b : Bi) : b.name ∈ bnames := by cases b <;> first | decide +kernel | (rename_i al; revert al; decide +kernel)
theorem bi_ne (b : Bi) : Str.ofString b.name ≠ ("__name__" : Str) ∧ (Str.ofString b.name == ("__debug__" : Str)) = false := by cases b <;> first | decide +kernel | (rename_i al; revert al; decide +kernel)
theorem l_bi {b : Bi} {es : Cs} {n : Str} {e : Expr} {l : List Expr} {p q : Pos} (g : Good Φ x X CX k E) (hn : n = Str.ofString b.name) (hg : x.gl n = true) (ha : PA X (e :: l) (rdCs X Φ k E es)) (ho : AllOdd (e :: l)) :
    PE X (.Call (.Name n p) (e :: l) [] q) (rdC X Φ k E (.bi b es)) := by
  subst hn
  have main : ∀ σ H Q, rdC X Φ k E (.bi b es) σ H Q → tCB (rBi X.K b) (rdCs X Φ k E es) σ H Q := by
    rintro σ H Q ⟨Z, α, S, γ, s, er, h⟩
    simp only [ev] at h
    exact ⟨Z, α, S, γ, s, er, h.bind.imp fun ms S1 α1 H1 t1 s1 h vs r => bi_out s1 r h⟩
  have h1 := odd_star (ho e List.mem_cons_self) l X.env
  have h2 := stars_off (fun e he => ho e (List.mem_cons_of_mem _ he)) q X.env
  have hm := g.bl b.name (bi_in b)
  have hc := call_bi g.calm b
  have hv := boot_bi b
  unfold Bi.val at hc hv
  by_cases ht : b.isT = true
  · rw [if_pos ht] at hc hv
    exact PE.wk (pe_callTy hc (g.gl hg) hm hv ha (bi_ne b).1 (bi_ne b).2 h1 h2) main
  · rw [if_neg ht] at hc hv
    exact PE.wk (pe_callB hc (g.gl hg) hm hv ha (bi_ne b).1 (bi_ne b).2 h1 h2) main
/-! ### methods -/
theorem kw_none {es : List Expr} {env : PySem.Env} {cpos : Pos} (ho : AllOdd es) (hl : es.length ≤ 8) :
    ((backTo cpos (starEach es env)).all (fun x => !x.1) && (backToKw cpos (keywordEach [] env)).all (fun x => x.1.isSome) && decide (es.length + ([] : List Keyword).length + (if ([] : List Keyword).isEmpty then 0 else 1) < 30)) = true := by
  rw [stars_all ho]
  show (true && true && decide (es.length + 0 + 0 < 30)) = true
  rw [decide_eq_true (by omega)]
  rfl
theorem l_meth {m : Me} {o : C} {es : Cs} {e : Expr} {l : List Expr} {ap cp : Pos} (hb : noCall e = true) (hl : (ap.endLine == cp.line) = true) (h8 : l.length ≤ 8) (he : PE X e (rdC X Φ k E o)) (ha : PA X l (rdCs X Φ k E es)) (ho : AllOdd l) (hnil : l = [] → es = .nil) :
    PE X (.Call (.Attribute e (Str.ofString m.name) ap) l [] cp) (rdC X Φ k E (.meth m o es)) := by
  have main : ∀ σ H Q, rdC X Φ k E (.meth m o es) σ H Q → tBM X.K "list" (rMe m) (rdC X Φ k E o) (rdCs X Φ k E es) σ H Q := by
    rintro σ H Q ⟨Z, α, S, γ, s, er, h⟩
    simp only [ev] at h
    refine ⟨Z, α, S, γ, s, er, h.bind.imp fun mo S1 α1 H1 t1 s1 h v rv => ?_⟩
    obtain ⟨zs, e1, h⟩ := h.of
    obtain ⟨a, xs, rfl, hs, r⟩ := lst_rep s1 rv e1
    refine ⟨.inl ⟨rfl, xs, .of hs⟩, Z, α1, S1, γ, s1, er.tr s.muts t1, h.bind.imp fun ms S2 α2 H2 t2 s2 h us ru => ?_⟩
    exact me_out s2 (Rep.tr s1.muts t2 _ _ rv) ru h
  have base : attributeBase e (Str.ofString m.name) X.env (eval e X.env) = eval e X.env := noCall_base hb _ _ _
  have slot : ∃ id, Slot "list" (Str.ofString m.name) id ∧ typeOf (.builtin id) = pure (.type "method_descriptor") ∧ MtR X id (rMe m) := by
    cases m with
    | append => exact ⟨_, PySem.F.slot_list_append, PySem.F.type_list_append, mt_append⟩
    | pop => exact ⟨_, PySem.F.slot_list_pop, PySem.F.type_list_pop, mt_pop⟩
    | extend => exact ⟨_, PySem.F.slot_list_extend, PySem.F.type_list_extend, mt_extend⟩
  obtain ⟨id, sl, ty, mr⟩ := slot
  cases l with
  | nil =>
    cases hnil rfl
    refine PE.wk (pe_bm0 PySem.F.plainAttrs_list sl ty mr he base hl) fun σ H Q h => ?_
    obtain ⟨Z, α, S, γ, s, er, h⟩ := main σ H Q h
    refine ⟨Z, α, S, γ, s, er, h.imp fun mo S1 α1 H1 t1 s1 h v rv => ?_⟩
    obtain ⟨hy, Z2, α2, S2, γ2, s2, er2, h2⟩ := h v rv
    simp only [evs] at h2
    exact ⟨hy, h2.now s2 [] (by simp only [RepL])⟩
  | cons a as =>
    exact PE.wk (pe_bm PySem.F.plainAttrs_list sl ty mr he ha base (kw_none ho h8) hl (odd_star (ho a List.mem_cons_self) as X.env) (stars_off (fun e he => ho e (List.mem_cons_of_mem _ he)) cp X.env)) main
end
end Mi

namespace Mi
open PySem PySem.Spec L2

section
variable {Φ : String → Option Fn} {x : SX} {X : Cx} {CX : CXT} {k : Nat} {E : XK}
/-! ### isinstance -/
theorem boot_cls : (clNames.all fun c => decide (bootBuiltins (Str.ofString c) = some (.type c)) && decide (c ∈ bnames) && decide (Str.ofString c ≠ ("__name__" : Str)) && !(Str.ofString c == ("__debug__" : Str))) = true := by decide +kernel
theorem cls_facts {c : String} (h : c ∈ clNames) : bootBuiltins (Str.ofString c) = some (.type c) ∧ c ∈ bnames ∧ Str.ofString c ≠ ("__name__" : Str) ∧ (Str.ofString c == ("__debug__" : Str)) = false := by
  have := List.all_eq_true.mp boot_cls c h
  simp only [Bool.and_eq_true, decide_eq_true_eq, Bool.not_eq_true'] at this
  exact ⟨this.1.1.1, this.1.1.2, this.1.2, this.2⟩
theorem pe_cls {c : String} {p : Pos} (g : Good Φ x X CX k E) (h : c ∈ clNames) (hg : x.gl (Str.ofString c) = true) : PE X (.Name (Str.ofString c) p) (tC (.ty c)) := by
  obtain ⟨h1, h2, h3, h4⟩ := cls_facts h
  exact pe_bltn (g.gl hg) (g.bl c h2) h1 rfl h3 h4
theorem pa_cls (g : Good Φ x X CX k E) : ∀ {ts : List String} {es : List Expr}, chkTy x ts es = true → PA X es (fun _ H Q => Q (ts.map V.ty) H) ∧ AllOdd es ∧ ts.length = es.length ∧ ∀ t ∈ ts, t ∈ clNames
  | [], es, h => by
    cases es with
    | nil => exact ⟨pa_nil, (by intro e he; cases he), rfl, (by intro t ht; cases ht)⟩
    | cons e es => simp [chkTy] at h
  | t :: ts, es, h => by
    cases es with
    | nil => simp [chkTy] at h
    | cons e es =>
      cases e <;> simp only [chkTy, Bool.and_eq_true, decide_eq_true_eq, Bool.false_eq_true] at h
      rename_i n p
      obtain ⟨⟨⟨rfl, h2⟩, h3⟩, h4⟩ := h
      obtain ⟨ih, ho, hl, hc⟩ := pa_cls g h4
      refine ⟨PA.wk (pa_cons (pe_cls g h3 h2) ih (odd_star rfl es X.env)) fun σ H Q h => h, fun e he => ?_, by simp [hl], fun u hu => ?_⟩
      · rcases List.mem_cons.mp he with rfl | he
        · rfl
        · exact ho e he
      · rcases List.mem_cons.mp hu with rfl | hu
        · exact h3
        · exact hc u hu
theorem paired_cls : ∀ ts : List String, Paired ClsV (ts.map V.ty) (ts.map Value.type)
  | [] => .nil
  | t :: ts => .cons (.ty t) (paired_cls ts)
theorem isi_gl (g : Good Φ x X CX k E) {n : Str} (hn : n = Str.ofString "isinstance") (hg : x.gl n = true) : Gl X ("isinstance" : Str) ∧ X.mg ("isinstance" : Str) = none := by
  subst hn
  exact ⟨g.gl hg, g.bl "isinstance" (by decide)⟩
theorem isi_args {a : C} {ts : List String} {e : Expr} {te : TE} {c : Expr} (ha : PE X e (rdC X Φ k E a)) : True := trivial
theorem l_isi1 {a : C} {t : String} {n m : Str} {e : Expr} {p p2 q : Pos} (g : Good Φ x X CX k E) (hn : n = Str.ofString "isinstance") (hg : x.gl n = true) (ha : PE X e (rdC X Φ k E a)) (ho : odd e = false) (hm : m = Str.ofString t) (hgm : x.gl m = true) (ht : t ∈ clNames) :
    PE X (.Call (.Name n p) [e, .Name m p2] [] q) (rdC X Φ k E (.isi a [t])) := by
  subst hm
  obtain ⟨h1, h2⟩ := isi_gl g hn hg
  subst hn
  refine PE.wk (pe_callB call_isi h1 h2 (by decide +kernel) (pa_cons ha (pa_cons (pe_cls g ht hgm) pa_nil (odd_star rfl [] X.env)) (odd_star ho _ X.env)) (by decide) (by decide) (odd_star ho _ X.env) (stars_off (fun e he => by rw [List.mem_singleton.mp he]; rfl) q X.env)) ?_
  rintro σ H Q ⟨Z, α, S, γ, s, er, h⟩
  simp only [ev] at h
  refine ⟨Z, α, S, γ, s, er, h.bind.imp fun mo S1 α1 H1 t1 s1 h v rv => ?_⟩
  unfold isiop at h
  obtain ⟨ty, e1, h⟩ := h.of
  refine ⟨v, .ty t, .type ty, .type t, _, rfl, .ty t, ty_rep s1 rv e1, kit_isTy (tyOf_mem e1) ht, ?_⟩
  have : [t].any (isTy ty) = isTy ty t := by simp
  rw [this] at h
  exact out_bl s1 h
theorem l_isiT {a : C} {ts : List String} {n : Str} {e : Expr} {cs : List Expr} {j : Nat} {p p2 q : Pos} (g : Good Φ x X CX k E) (hn : n = Str.ofString "isinstance") (hg : x.gl n = true) (ha : PE X e (rdC X Φ k E a)) (ho : odd e = false) (h20 : cs.length ≤ 20) (hc : chkTy x ts cs = true) :
    PE X (.Call (.Name n p) [e, .Tuple cs j p2] [] q) (rdC X Φ k E (.isi a ts)) := by
  obtain ⟨h1, h2⟩ := isi_gl g hn hg
  subst hn
  obtain ⟨pc, oc, lc, mc⟩ := pa_cls g hc
  refine PE.wk (pe_callB call_isiT h1 h2 (by decide +kernel) (pa_cons ha (pa_cons (pe_tup pc) pa_nil (odd_star rfl [] X.env)) (odd_star ho _ X.env)) (by decide) (by decide) (odd_star ho _ X.env) (stars_off (fun e he => by rw [List.mem_singleton.mp he]; rfl) q X.env)) ?_
  rintro σ H Q ⟨Z, α, S, γ, s, er, h⟩
  simp only [ev] at h
  refine ⟨Z, α, S, γ, s, er, h.bind.imp fun mo S1 α1 H1 t1 s1 h v rv => ?_⟩
  unfold isiop at h
  obtain ⟨ty, e1, h⟩ := h.of
  have bl := big_line
  refine ⟨by rw [List.length_map, lc]; unfold big at bl; omega, fun tp htp => ?_⟩
  have s2 := s1.new (o := .tup (ts.map V.ty)) htp
  have t2 := Tr.new (o := .tup (ts.map V.ty)) s1 htp
  exact ⟨v, tp, ts.map V.ty, .type ty, ts.map Value.type, _, rfl, upd_same, paired_cls ts, ty_rep s2 (Rep.tr s1.muts t2 _ _ rv) e1, kit_anyTy (tyOf_mem e1) mc, out_bl s2 (h.tr t2)⟩
/-! ### list(range(..)), tuple(range(..)) -/
theorem rg_ok {a b : Int} (h : RgOk' a b) : RgOk a b := by
  obtain ⟨h1, h2, h5⟩ := h
  exact ⟨by omega, by omega, by omega, by omega, Nat.le_trans h5 (by decide)⟩
theorem rg_rep {K : PySem.W.Frag} {Z α : List Addr} {H : Hp} (a b : Int) : RepL K Z α H (rangeL a b) (rgV a b) := by
  refine RepL.of_get (by simp [rangeL, rgV]) fun i m e => ?_
  unfold rangeL at e
  unfold rgV
  rw [List.getElem?_map] at e ⊢
  obtain ⟨j, hj, rfl⟩ := Option.map_eq_some_iff.mp e
  exact ⟨_, by rw [hj]; rfl, by simp only [Rep]⟩
/-- range(..) by its core arguments -/
def tRgM (X : Cx) (Φ : String → Option Fn) (k : Nat) (E : XK) (es : Cs) : Slots → Hp → (Int → Int → Hp → Prop) → Prop := fun σ H Q =>
  rdCs X Φ k E es σ H fun vs H' => (∃ j, vs = [.int j] ∧ Q 0 j H') ∨ (∃ i j, vs = [.int i, .int j] ∧ Q i j H')
theorem range12_rep {K : PySem.W.Frag} {Z α : List Addr} {H : Hp} {ms : List M} {vs : List V} {p : Int × Int} (r : RepL K Z α H ms vs) (e : range12 ms = some p) : (vs = [.int p.2] ∧ p.1 = 0) ∨ vs = [.int p.1, .int p.2] := by
  unfold range12 at e
  split at e
  · cases e
    obtain ⟨y, rfl, ry⟩ := repl1 r
    exact .inl ⟨by rw [rep_int ry], rfl⟩
  · cases e
    obtain ⟨y, z, rfl, ry, rz⟩ := repl2 r
    exact .inr (by rw [rep_int ry, rep_int rz])
  · cases e
theorem prg_core {es : Cs} {l : Expr} {r : List Expr} {n : Str} {p q : Pos} (g : Good Φ x X CX k E) (hn : n = Str.ofString "range") (hg : x.gl n = true) (ha : PA X (l :: r) (rdCs X Φ k E es)) (ho : AllOdd (l :: r)) :
    PRg X (.Call (.Name n p) (l :: r) [] q) (tRgM X Φ k E es) := by
  subst hn
  intro pins s σ H Q I h
  have h1 := odd_star (ho l List.mem_cons_self) r X.env
  have h2 := stars_off (fun e he => ho e (List.mem_cons_of_mem _ he)) q X.env
  refine PyProof.Rows.Call_ (ld_blt I (g.gl hg) (g.bl "range" (by decide)) PyProof.Rows.boot_range (PyProof.Rows.callWith_type1 (thn (ha.run q pins s σ H _ I h) fun us s1 ⟨vs, H1, I1, r1, q1⟩ => ?_) h1 h2))
  rcases q1 with ⟨j, rfl, q1⟩ | ⟨i, j, rfl, q1⟩
  · obtain ⟨u, rfl, t, rfl⟩ := vals1 r1
    exact call_range_1 ⟨_, 0, j, _, _, _, H1, rfl, IsRange.new _ _ _ _ _ _ _, I1.kept fun b u e => Heap.get?_push_of_some _ e, q1⟩
  · obtain ⟨u, w, rfl, ⟨t, rfl⟩, ⟨t', rfl⟩⟩ := vals2 r1
    exact call_range_2 ⟨_, i, j, _, _, _, H1, rfl, IsRange.new _ _ _ _ _ _ _, I1.kept fun b u e => Heap.get?_push_of_some _ e, q1⟩
theorem l_lrange {al : Bool} {es : Cs} {e : Expr} {n : Str} {p q : Pos} (g : Good Φ x X CX k E) (hn : n = Str.ofString "list") (hg : x.gl n = true) (he : PRg X e (tRgM X Φ k E es)) (ho : odd e = false) : PE X (.Call (.Name n p) [e] [] q) (rdC X Φ k E (.lrange al es)) := by
  subst hn
  refine PE.wk (pe_listRg g.calm (g.gl hg) (g.bl "list" (by decide)) he (odd_star ho [] X.env)) ?_
  rintro σ H Q ⟨Z, α, S, γ, s, er, h⟩
  simp only [ev] at h
  refine ⟨Z, α, S, γ, s, er, h.bind.imp fun ms S1 α1 H1 t1 s1 h vs r => ?_⟩
  obtain ⟨pr, e1, h⟩ := h.of
  obtain ⟨c, h⟩ := h.when
  have fin : ∀ a b, a = pr.1 → b = pr.2 → RgOk a b ∧ ∀ q, H1 q = none → Q (.ref q) (upd H1 q (.lst (rgV a b))) := fun a b ea eb => by
    subst ea eb
    exact ⟨rg_ok c, fun q hq => Out.mkL s1 (rg_rep _ _) hq h⟩
  rcases range12_rep r e1 with ⟨e2, e3⟩ | e2
  · exact .inl ⟨_, e2, fin 0 _ e3.symm rfl⟩
  · exact .inr ⟨_, _, e2, fin _ _ rfl rfl⟩
theorem l_trange {es : Cs} {e : Expr} {n : Str} {p q : Pos} (g : Good Φ x X CX k E) (hn : n = Str.ofString "tuple") (hg : x.gl n = true) (he : PRg X e (tRgM X Φ k E es)) (ho : odd e = false) : PE X (.Call (.Name n p) [e] [] q) (rdC X Φ k E (.trange es)) := by
  subst hn
  refine PE.wk (pe_tupRg g.calm (g.gl hg) (g.bl "tuple" (by decide)) he (odd_star ho [] X.env)) ?_
  rintro σ H Q ⟨Z, α, S, γ, s, er, h⟩
  simp only [ev] at h
  refine ⟨Z, α, S, γ, s, er, h.bind.imp fun ms S1 α1 H1 t1 s1 h vs r => ?_⟩
  obtain ⟨pr, e1, h⟩ := h.of
  obtain ⟨c, h⟩ := h.when
  have fin : ∀ a b, a = pr.1 → b = pr.2 → RgOk a b ∧ ∀ q, H1 q = none → Q (.ref q) (upd H1 q (.tup (rgV a b))) := fun a b ea eb => by
    subst ea eb
    exact ⟨rg_ok c, fun q hq => Out.mkT s1 (rg_rep _ _) hq h⟩
  rcases range12_rep r e1 with ⟨e2, e3⟩ | e2
  · exact .inl ⟨_, e2, fin 0 _ e3.symm rfl⟩
  · exact .inr ⟨_, _, e2, fin _ _ rfl rfl⟩
/-! ### tests -/
theorem l_tv {c : C} {e : Expr} (he : PE X e (rdC X Φ k E c)) (hp : ∀ whole, isTrue e X.env whole = (do let v ← whole; standAt e.pos; holding [v] (truthy v))) : PT X e (rdT X Φ k E (.v c)) := by
  refine PT.wk (pt_truth he hp) ?_
  rintro σ H Q ⟨Z, α, S, γ, s, er, h⟩
  simp only [evT] at h
  refine ⟨Z, α, S, γ, s, er, h.bind.imp fun m S1 α1 H1 t1 s1 h v rv => ?_⟩
  obtain ⟨b, e1, h⟩ := h.of
  exact ⟨b, truth_rep s1 rv e1, h.now s1⟩
theorem truth_bl {K : PySem.W.Frag} {mg : Str → Option Value} {Z α : List Addr} {H : Hp} {S : Store} {r : M} {z : V} {Q : Bool → Hp → Prop} (s : SR K Z α H S) (rz : Rep K Z α H r z) (hz : ∃ b, r = .bl b) (h : Out K Z mg E (.of (truth S r) fun b => .ok b S) α H fun b _ _ H' => Q b H') : ∃ b, z = .bl b ∧ Q b H := by
  obtain ⟨b, rfl⟩ := hz
  exact ⟨b, rep_bl rz, h.now s⟩
theorem cmp_isbl {o : Cop} {m n : M} {S : Store} {K : PySem.W.Frag} {mg : Str → Option Value} {Z α : List Addr} {H : Hp} {P : M → Store → List Addr → Hp → Prop} (h : Out K Z mg E (cmpop o m n S) α H P) : Out K Z mg E (cmpop o m n S) α H fun r S1 α1 H1 => (∃ b, r = .bl b) ∧ P r S1 α1 H1 := by
  unfold cmpop at h ⊢
  split at h <;> first
    | (obtain ⟨b, e, h⟩ := h.of; rw [e]; exact fun α' H' t s => ⟨⟨_, rfl⟩, h α' H' t s⟩)
    | exact fun α' H' t s => ⟨⟨_, rfl⟩, h α' H' t s⟩
    | exact False.elim h
theorem l_tcmp {o : Cop} {a b : C} {e f : Expr} {p : Pos} (ha : PE X e (rdC X Φ k E a)) (hb : PE X f (rdC X Φ k E b)) (hm : behindInMarks o.op f = false) : PT X (.Compare e [o.op] [f] p) (rdT X Φ k E (.v (.cmp o a b))) := by
  refine PT.wk (pt_cmpR (op_cmp o) ha hb hm) ?_
  rintro σ H Q ⟨Z, α, S, γ, s, er, h⟩
  simp only [evT, ev] at h
  refine ⟨Z, α, S, γ, s, er, h.bind.bind.imp fun m S1 α1 H1 t1 s1 h v rv => ⟨Z, α1, S1, γ, s1, er.tr s.muts t1, h.bind.imp fun n S2 α2 H2 t2 s2 h u ru => ?_⟩⟩
  refine cmp_out s2 (Rep.tr s1.muts t2 _ _ rv) ru ((cmp_isbl h).imp fun r S3 α3 H3 t3 s3 h z rz => ?_)
  exact truth_bl s3 rz h.1 h.2
end
end Mi

namespace Mi
open PySem PySem.Spec L2

section
variable {Φ : String → Option Fn} {x : SX} {X : Cx} {CX : CXT} {k : Nat} {E : XK}
theorem l_tchain {o o' : Cop} {a b c : C} {e f d : Expr} {p : Pos} (ha : PE X e (rdC X Φ k E a)) (hb : PE X f (rdC X Φ k E b)) (hc : PE X d (rdC X Φ k E c)) (hm : behindInMarks o'.op d = false) :
    PT X (.Compare e [o.op, o'.op] [f, d] p) (rdT X Φ k E (.v (.chain o o' a b c))) := by
  refine PT.wk (pt_chain (op_cmp o) (op_cmp o') ha hb hc (show lastMarks [o.op, o'.op] [f, d] = false from hm)) ?_
  rintro σ H Q ⟨Z, α, S, γ, s, er, h⟩
  simp only [evT, ev] at h
  refine ⟨Z, α, S, γ, s, er, h.bind.bind.imp fun m S1 α1 H1 t1 s1 h v rv => ⟨Z, α1, S1, γ, s1, er.tr s.muts t1, h.bind.imp fun n S2 α2 H2 t2 s2 h u ru => ?_⟩⟩
  refine cmp_out s2 (Rep.tr s1.muts t2 _ _ rv) ru (h.bind.imp fun r S3 α3 H3 t3 s3 h z rz => ?_)
  split at h
  · refine ⟨true, rep_bl rz, ?_⟩
    rw [if_pos rfl]
    refine ⟨Z, α3, S3, γ, s3, (er.tr s.muts t1).tr s1.muts (t2.trans t3), h.bind.imp fun w S4 α4 H4 t4 s4 h y ry => ?_⟩
    refine cmp_out s4 (Rep.tr s2.muts (t3.trans t4) _ _ ru) ry ((cmp_isbl h).imp fun r S5 α5 H5 t5 s5 h z rz => ?_)
    exact truth_bl s5 rz h.1 h.2
  · refine ⟨false, rep_bl rz, ?_⟩
    rw [if_neg Bool.false_ne_true]
    exact ⟨false, rfl, Out.now (a := false) s3 (h.now s3)⟩
  · exact False.elim h
theorem l_tand {a b : T} {e f : Expr} {fs : List Expr} {p : Pos} (ha : PT X e (rdT X Φ k E a)) (hb : PW X (.BoolOp .And (f :: fs) p) (rdT X Φ k E b)) : PW X (.BoolOp .And (e :: f :: fs) p) (rdT X Φ k E (.and a b)) := by
  refine PW.wk (pw_and ha hb) ?_
  rintro σ H Q ⟨Z, α, S, γ, s, er, h⟩
  simp only [evT] at h
  refine ⟨Z, α, S, γ, s, er, h.bind.imp fun m S1 α1 H1 t1 s1 h => ?_⟩
  cases m with
  | true => rw [if_pos rfl] at h ⊢; exact ⟨Z, α1, S1, γ, s1, er.tr s.muts t1, h⟩
  | false => rw [if_neg Bool.false_ne_true] at h ⊢; exact h.now s1
theorem l_tor {a b : T} {e f : Expr} {fs : List Expr} {p : Pos} (ha : PT X e (rdT X Φ k E a)) (hb : PW X (.BoolOp .Or (f :: fs) p) (rdT X Φ k E b)) : PW X (.BoolOp .Or (e :: f :: fs) p) (rdT X Φ k E (.or a b)) := by
  refine PW.wk (pw_or ha hb) ?_
  rintro σ H Q ⟨Z, α, S, γ, s, er, h⟩
  simp only [evT] at h
  refine ⟨Z, α, S, γ, s, er, h.bind.imp fun m S1 α1 H1 t1 s1 h => ?_⟩
  cases m with
  | true => rw [if_pos rfl] at h ⊢; exact h.now s1
  | false => rw [if_neg Bool.false_ne_true] at h ⊢; exact ⟨Z, α1, S1, γ, s1, er.tr s.muts t1, h⟩
theorem l_tone {a : T} {o : BoolOp} {e : Expr} {p : Pos} (ha : PT X e (rdT X Φ k E a)) : PW X (.BoolOp o [e] p) (rdT X Φ k E (.one a)) := by
  have w : ∀ σ H Q, rdT X Φ k E (.one a) σ H Q → rdT X Φ k E a σ H Q := by
    rintro σ H Q ⟨Z, α, S, γ, s, er, h⟩
    simp only [evT] at h
    exact ⟨Z, α, S, γ, s, er, h⟩
  cases o with
  | And => exact PW.wk (pw_and1 ha) w
  | Or => exact PW.wk (pw_or1 ha) w
theorem l_tnot {a : T} {e : Expr} {p : Pos} (ha : PT X e (rdT X Φ k E a)) : PT X (.UnaryOp .Not e p) (rdT X Φ k E (.not a)) := by
  refine PT.wk (pt_not ha) ?_
  rintro σ H Q ⟨Z, α, S, γ, s, er, h⟩
  simp only [evT] at h
  exact ⟨Z, α, S, γ, s, er, h.bind.imp fun m S1 α1 H1 t1 s1 h => h.now s1⟩
/-! ### calls with keywords -/
theorem place_rep {K : PySem.W.Frag} {Z α : List Addr} {H : Hp} {ms ns : List M} {xs ys : List V} (qs : List Nat) (r : RepL K Z α H ms xs) (r' : RepL K Z α H ns ys) : RepL K Z α H (place qs ms ns) (place qs xs ys) := by
  unfold place
  refine r.append ?_
  induction qs with
  | nil => simp only [List.filterMap_nil, RepL]
  | cons q qs ih =>
    rw [List.filterMap_cons, List.filterMap_cons]
    cases e : ns[q]? with
    | none =>
      have : ys[q]? = none := by
        rw [List.getElem?_eq_none_iff] at e ⊢
        rw [← r'.length]; exact e
      rw [this]; exact ih
    | some m =>
      obtain ⟨y, e1, e2⟩ := r'.get e
      rw [e1]
      simp only [RepL]
      exact ⟨y, _, rfl, e2, ih⟩
theorem pe_callK0 {f : Addr} {fd : FuncData} {ps ks : List Str} {sp : Sp} {n : Str} {p pos : Pos} {kws : List Keyword} {tk : TA} {g : List Value → List Value → List Value} {gV : List V → List V → List V} {kk : Nat}
    (F : FnOk X.prog X.w X.K X.mg X.base CX kk f fd ps sp) (hr : Room kk X.A) (hg : Gl X n) (hm : X.mg n = some (.ref f)) (hk : PySem.W.keepIn X.K (.ref f) = true) (hb : KBinds X.K fd ps ks g gV) (hx : Passes CX X E)
    (hkw : PK X kws tk) (hall : (backToKw pos (keywordEach kws X.env)).all (·.1.isSome) = true) (hks : (backToKw pos (keywordEach kws X.env)).filterMap (·.1) = ks) (hdb : (n == ("__debug__" : Str)) = false)
    (hpl : ((backTo pos (starEach [] X.env)).any (·.1) || (backToKw pos (keywordEach kws X.env)).any (·.1.isNone)) = false) :
    PE X (.Call (.Name n p) [] kws pos) (tCallK sp gV E tNil tk) := by
  refine ⟨fun pins s σ H Q I h => ?_⟩
  refine wpAny_Call_Name_kw (ld_glob I hg hm ?_ hdb)
  refine PySem.W.callWith_KW0 (h₀ := X.base) I.ok.mod.kin hk hall (thn (hkw.run pos pins s σ H _ I h) fun ws s2 ⟨zs, H2, I2, rz, q2⟩ => ⟨I2.kIn, ?_⟩) hpl
  rw [hks]
  exact run_fnk (us := []) (vs := []) F hr hb hx I2 .nil rz q2
theorem kw_names : ∀ (kws : List Keyword) (pos : Pos) (env : PySem.Env), (backToKw pos (keywordEach kws env)).map (·.1) = kws.map (·.arg)
  | [], _, _ => rfl
  | ⟨n, v, p⟩ :: kws, pos, env => by
    show n :: (backToKw pos (keywordEach kws env)).map (·.1) = n :: kws.map (·.arg)
    rw [kw_names kws]
theorem names_some {l : List (Option Str × Sem Value)} {ns : List Str} (h : l.map (·.1) = ns.map some) : l.all (·.1.isSome) = true ∧ l.filterMap (·.1) = ns ∧ l.any (·.1.isNone) = false := by
  induction l generalizing ns with
  | nil =>
    cases ns with
    | nil => exact ⟨rfl, rfl, rfl⟩
    | cons n ns => cases h
  | cons a l ih =>
    cases ns with
    | nil => cases h
    | cons n ns =>
      obtain ⟨a1, a2⟩ := a
      simp only [List.map_cons, List.cons.injEq] at h
      obtain ⟨rfl, h2⟩ := h
      obtain ⟨i1, i2, i3⟩ := ih h2
      exact ⟨by rw [List.all_cons, i1]; rfl, by rw [List.filterMap_cons, i2], by rw [List.any_cons, i3]; rfl⟩
theorem l_callk {pu : Bool} {f : String} {d : Fn} {es kes : Cs} {qs : List Nat} {n : Str} {l : List Expr} {kws : List Keyword} {p q : Pos} (g : Good Φ x X CX k E) (hd : Φ f = some d) (hn : n = Str.ofString f) (hg : x.gl n = true) (hp : plainN n = true)
    (ha : PA X l (rdCs X Φ k E es)) (ho : AllOdd l) (hnil : l = [] → es = .nil) (hkw : PK X kws (rdCs X Φ k E kes)) (hin : (es.len, qs) ∈ d.kw) (hns : kws.map (·.arg) = (ksOf d es.len qs).map fun s => some (Str.ofString s)) :
    PE X (.Call (.Name n p) l kws q) (rdC X Φ k E (.callk pu f es qs kes)) := by
  subst hn
  obtain ⟨a, fd, hm, hk, F, hb, hkb⟩ := g.fns f d hd
  have KB := hkb _ _ hin
  have main : ∀ σ H Q, rdC X Φ k E (.callk pu f es qs kes) σ H Q → tCallK (spM X.K X.mg d.ps.length (evalFn Φ k f)) (placeN es.len qs) E (rdCs X Φ k E es) (rdCs X Φ k E kes) σ H Q := by
    rintro σ H Q ⟨Z, α, S, γ, s, er, h⟩
    simp only [ev] at h
    refine ⟨Z, α, S, γ, s, er, h.bind.imp fun ms S1 α1 H1 t1 s1 h vs r => ⟨Z, α1, S1, γ, s1, er.tr s.muts t1, h.bind.imp fun ns S2 α2 H2 t2 s2 h us ru => ?_⟩⟩
    have pr := place_rep qs (RepL.tr s1.muts t2 _ _ r) ru
    obtain ⟨c, h⟩ := h.when
    show spM X.K X.mg d.ps.length (evalFn Φ k f) (placeN es.len qs vs us) H2 Q E
    rw [show placeN es.len qs vs us = place qs vs us from if_pos ⟨by rw [← r.length]; exact c.1, by rw [← ru.length]; exact c.2⟩]
    exact call_out s2 pr (by rw [← pr.length]; exact callM_len hd h) h
  have e1 : (backToKw q (keywordEach kws X.env)).map (·.1) = ((ksOf d es.len qs).map Str.ofString).map some := by rw [kw_names, hns, List.map_map]; rfl
  obtain ⟨n1, n2, n3⟩ := names_some e1
  cases l with
  | nil =>
    cases hnil rfl
    refine PE.wk (pe_callK0 F g.room (g.gl hg) hm hk KB g.pass hkw n1 n2 (plainN_of hp).1 (by rw [n3]; rfl)) fun σ H Q h => ?_
    obtain ⟨Z2, α2, S2, γ2, s2, er2, h2⟩ := main σ H Q h
    simp only [evs] at h2
    exact h2.now s2 [] (by simp only [RepL])
  | cons e es' =>
    have hs := odd_star (ho e List.mem_cons_self) es' X.env
    exact PE.wk (pe_callK F g.room (g.gl hg) hm hk KB g.pass ha hkw n1 n2 (plainN_of hp).1 hs (by rw [n3, stars_off ho]; rfl)) main
theorem l_knil : PK X [] (rdCs X Φ k E .nil) := by
  refine ⟨fun pos pins s σ H Q I h => pk_nil.run pos pins s σ H Q I ?_⟩
  obtain ⟨Z, α, S, γ, s, er, h⟩ := h
  simp only [evs] at h
  exact h.now s [] (by simp only [RepL])
theorem l_kcons {a : C} {r : Cs} {n : Option Str} {e : Expr} {p : Pos} {es : List Keyword} (ha : PE X e (rdC X Φ k E a)) (hr : PK X es (rdCs X Φ k E r)) : PK X (⟨n, e, p⟩ :: es) (rdCs X Φ k E (.cons a r)) := by
  refine ⟨fun pos pins s σ H Q I h => (pk_cons ha hr).run pos pins s σ H Q I ?_⟩
  obtain ⟨Z, α, S, γ, s, er, h⟩ := h
  simp only [evs] at h
  refine ⟨Z, α, S, γ, s, er, h.bind.imp fun m S1 α1 H1 t1 s1 h v rv => ⟨Z, α1, S1, γ, s1, er.tr s.muts t1, h.bind.imp fun ms S2 α2 H2 t2 s2 h us ru => ?_⟩⟩
  exact h.now s2 (v :: us) (by simp only [RepL]; exact ⟨v, us, rfl, Rep.tr s1.muts t2 _ _ rv, ru⟩)
end
end Mi

namespace Mi
open PySem PySem.Spec L2

/-! ### reserved addresses -/
def ZT (Z : List Addr) (H : Hp) (Z' : List Addr) : Prop := ∀ a ∈ Z', a ∈ Z ∨ H a = none
section
variable {K : PySem.W.Frag} {Z Z' α α' : List Addr} {H H' : Hp} {S : Store}
mutual
theorem Rep.trZ (l : Muts α H) (t : Tr α H α' H') (z : ZT Z H Z') : ∀ (m : M) (v : V), Rep K Z α H m v → Rep K Z' α' H' m v
  | .non, v, h => by simpa only [Rep] using h
  | .bl b, v, h => by simpa only [Rep] using h
  | .int i, v, h => by simpa only [Rep] using h
  | .str s, v, h => by simpa only [Rep] using h
  | .scr ns, v, h => by
    simp only [Rep] at h ⊢
    obtain ⟨a, e, h⟩ := h
    exact ⟨a, e, h.imp (fun ⟨o, h⟩ => ⟨o, frz_tr l t h⟩) id⟩
  | .ref n, v, h => by
    simp only [Rep] at h ⊢
    obtain ⟨a, h, e⟩ := h
    exact ⟨a, get_tr t h, e⟩
  | .tup ms, v, h => by
    simp only [Rep] at h ⊢
    obtain ⟨a, xs, e, h, r⟩ := h
    exact ⟨a, xs, e, sqT_tr l t h, RepL.trZ l t z ms xs r⟩
  | .lst ms, v, h => by
    simp only [Rep] at h ⊢
    obtain ⟨a, xs, e, h, n, r⟩ := h
    refine ⟨a, xs, e, t.keep _ _ h n.1, ⟨notin_tr t h n.1, fun hz => ?_⟩, RepL.trZ l t z ms xs r⟩
    rcases z a hz with q | q
    · exact n.2 q
    · rw [h] at q; cases q
theorem RepL.trZ (l : Muts α H) (t : Tr α H α' H') (z : ZT Z H Z') : ∀ (ms : List M) (xs : List V), RepL K Z α H ms xs → RepL K Z' α' H' ms xs
  | [], xs, h => by simpa only [RepL] using h
  | m :: ms, xs, h => by
    simp only [RepL] at h ⊢
    obtain ⟨x, r, e, h, q⟩ := h
    exact ⟨x, r, e, Rep.trZ l t z m x h, RepL.trZ l t z ms r q⟩
end
theorem ER.trZ {γ : Env} {σ : Slots} (l : Muts α H) (t : Tr α H α' H') (z : ZT Z H Z') (e : ER K Z α H γ σ) : ER K Z' α' H' γ σ :=
  ⟨e.len, fun i m h => let ⟨v, h1, h2⟩ := e.get i m h; ⟨v, h1, Rep.trZ l t z m v h2⟩⟩
theorem ZT.refl : ZT Z H Z := fun a h => .inl h
theorem ZT.cons {D : Addr} (h : H D = none) : ZT Z H (D :: Z) := fun a ha => by
  rcases List.mem_cons.mp ha with rfl | ha
  · exact .inr h
  · exact .inl ha
/-- a new object that is reserved -/
theorem SR.reserve {D : Addr} {o : HO} (s : SR K Z α H S) (hD : H D = none) : SR K (D :: Z) α (upd H D o) S := by
  have t := Tr.new (o := o) s hD
  have s1 := s.new (o := o) hD
  refine ⟨s.nd, s.len, fun n u e => ?_, fun a ha => ?_⟩
  · obtain ⟨a, ha, ob⟩ := s.obj n u e
    refine ⟨a, ha, ?_⟩
    have hm : a ∈ α := List.mem_of_getElem? ha
    obtain ⟨w, hw, _⟩ := s.muts a hm
    cases u with
    | lst ms =>
      obtain ⟨xs, e, r⟩ := ob
      exact ⟨xs, by rw [upd_ne (ne_of_none hw hD)]; exact e, RepL.trZ s.muts t (ZT.cons hD) ms xs r⟩
  · rcases List.mem_cons.mp ha with rfl | ha
    · exact ⟨(notin_new s hD).1, by rw [upd_same]; exact fun z => by cases z⟩
    · exact s1.zs a ha
mutual
theorem Rep.sub (z : ∀ a ∈ Z', a ∈ Z) : ∀ (m : M) (v : V), Rep K Z α H m v → Rep K Z' α H m v
  | .non, v, h => by simpa only [Rep] using h
  | .bl b, v, h => by simpa only [Rep] using h
  | .int i, v, h => by simpa only [Rep] using h
  | .str s, v, h => by simpa only [Rep] using h
  | .scr ns, v, h => by simpa only [Rep] using h
  | .ref n, v, h => by simpa only [Rep] using h
  | .tup ms, v, h => by
    simp only [Rep] at h ⊢
    obtain ⟨a, xs, e, h, r⟩ := h
    exact ⟨a, xs, e, h, RepL.sub z ms xs r⟩
  | .lst ms, v, h => by
    simp only [Rep] at h ⊢
    obtain ⟨a, xs, e, h, n, r⟩ := h
    exact ⟨a, xs, e, h, ⟨n.1, fun hz => n.2 (z a hz)⟩, RepL.sub z ms xs r⟩
theorem RepL.sub (z : ∀ a ∈ Z', a ∈ Z) : ∀ (ms : List M) (xs : List V), RepL K Z α H ms xs → RepL K Z' α H ms xs
  | [], xs, h => by simpa only [RepL] using h
  | m :: ms, xs, h => by
    simp only [RepL] at h ⊢
    obtain ⟨x, r, e, h, q⟩ := h
    exact ⟨x, r, e, Rep.sub z m x h, RepL.sub z ms r q⟩
end
theorem SR.sub (z : ∀ a ∈ Z', a ∈ Z) (s : SR K Z α H S) : SR K Z' α H S := by
  refine ⟨s.nd, s.len, fun n u e => ?_, fun a ha => s.zs a (z a ha)⟩
  obtain ⟨a, ha, ob⟩ := s.obj n u e
  refine ⟨a, ha, ?_⟩
  cases u with
  | lst ms =>
    obtain ⟨xs, e, r⟩ := ob
    exact ⟨xs, e, RepL.sub z ms xs r⟩
/-- a reserved object changes: nobody sees it -/
def Quiet : HO → Prop
  | .tup _ => False
  | .frz _ _ => False
  | _ => True
mutual
theorem Rep.off {D : Addr} {o u : HO} (hz : D ∈ Z) (hD : H D = some u) (hq : Quiet u) : ∀ (m : M) (v : V), Rep K Z α H m v → Rep K Z α (upd H D o) m v
  | .non, v, h => by simpa only [Rep] using h
  | .bl b, v, h => by simpa only [Rep] using h
  | .int i, v, h => by simpa only [Rep] using h
  | .str s, v, h => by simpa only [Rep] using h
  | .scr ns, v, h => by
    simp only [Rep] at h ⊢
    obtain ⟨a, e, h⟩ := h
    exact ⟨a, e, h.imp (fun ⟨w, h⟩ => ⟨w, by rw [upd_ne (show a ≠ D from fun z => by rw [z, hD] at h; cases h; exact hq)]; exact h⟩) id⟩
  | .ref n, v, h => by simpa only [Rep] using h
  | .tup ms, v, h => by
    simp only [Rep] at h ⊢
    obtain ⟨a, xs, e, h, r⟩ := h
    refine ⟨a, xs, e, ?_, RepL.off hz hD hq ms xs r⟩
    rcases h with (h | ⟨w, h⟩) | h
    · exact .inl (.inl (by rw [upd_ne (show a ≠ D from fun z => by rw [z, hD] at h; cases h; exact hq)]; exact h))
    · exact .inl (.inr ⟨w, by rw [upd_ne (show a ≠ D from fun z => by rw [z, hD] at h; cases h; exact hq)]; exact h⟩)
    · exact .inr h
  | .lst ms, v, h => by
    simp only [Rep] at h ⊢
    obtain ⟨a, xs, e, h, n, r⟩ := h
    exact ⟨a, xs, e, by rw [upd_ne (show a ≠ D from fun z => n.2 (by rw [z]; exact hz))]; exact h, n, RepL.off hz hD hq ms xs r⟩
theorem RepL.off {D : Addr} {o u : HO} (hz : D ∈ Z) (hD : H D = some u) (hq : Quiet u) : ∀ (ms : List M) (xs : List V), RepL K Z α H ms xs → RepL K Z α (upd H D o) ms xs
  | [], xs, h => by simpa only [RepL] using h
  | m :: ms, xs, h => by
    simp only [RepL] at h ⊢
    obtain ⟨x, r, e, h, q⟩ := h
    exact ⟨x, r, e, Rep.off hz hD hq m x h, RepL.off hz hD hq ms r q⟩
end
theorem SR.off {D : Addr} {o u : HO} (hz : D ∈ Z) (hD : H D = some u) (hq : Quiet u) (s : SR K Z α H S) : SR K Z α (upd H D o) S := by
  have nD := (s.zs D hz).1
  refine ⟨s.nd, s.len, fun n w e => ?_, fun a ha => ?_⟩
  · obtain ⟨a, ha, ob⟩ := s.obj n w e
    refine ⟨a, ha, ?_⟩
    have hm : a ∈ α := List.mem_of_getElem? ha
    cases w with
    | lst ms =>
      obtain ⟨xs, e, r⟩ := ob
      exact ⟨xs, by rw [upd_ne (show a ≠ D from fun z => nD (by rw [← z]; exact hm))]; exact e, RepL.off hz hD hq ms xs r⟩
  · obtain ⟨h1, h2⟩ := s.zs a ha
    refine ⟨h1, ?_⟩
    by_cases e : a = D
    · rw [e, upd_same]; exact fun z => by cases z
    · rw [upd_ne e]; exact h2
theorem Tr.off {D : Addr} {o : HO} (t : Tr α H α' H') (hD : H D = none) (nD : D ∉ α') : Tr α H α' (upd H' D o) := by
  refine ⟨fun a u h hn => by rw [upd_ne (ne_of_none h hD)]; exact t.keep a u h hn, t.ext, fun a ha => ?_⟩
  rw [upd_ne (show a ≠ D from fun z => nD (by rw [← z]; exact ha))]
  exact t.live a ha

/-! ### what is walked -/
structure WalkM (K : PySem.W.Frag) (Z : List Addr) (J : It) (s : Src) (α : List Addr) (H : Hp) : Prop where
  ex : ∃ (G : Hp → Prop) (Y : Nat → Hp → V → Hp → Prop), Walk J s.items.length G Y ∧
    (∀ Z' α' H' S', ZT Z H Z' → Tr α H α' H' → SR K Z' α' H' S' → s.ok S' → G H') ∧
    (∀ Z' α' H' S' i m y H'', ZT Z H Z' → Tr α H α' H' → SR K Z' α' H' S' → s.ok S' → s.items[i]? = some m → Y i H' y H'' → Tr α' H' α' H'' ∧ SR K Z' α' H'' S' ∧ Rep K Z' α' H'' m y)
theorem isTup_or (m : M) : (∃ l, m = .tup l) ∨ ∀ l, m ≠ .tup l := by
  cases m <;> first | exact .inl ⟨_, rfl⟩ | exact .inr (fun l h => by cases h)
theorem walk_of_list {m : M} {a : Addr} {ms : List M} (s : SR K Z α H S) (r : Rep K Z α H m (.ref a)) (nt : ∀ l, m ≠ .tup l) : WalkM K Z (Itl K a) ⟨ms, m, ms⟩ α H := by
  have at' : ∀ Z' α' H' S', ZT Z H Z' → Tr α H α' H' → SR K Z' α' H' S' → seqOf S' m = some ms → ∃ xs, SqL K H' a xs ∧ RepL K Z' α' H' ms xs := fun Z' α' H' S' z t s' e => by
    obtain ⟨a', xs, ea, hs, q⟩ := seq_rep s' (Rep.trZ s.muts t z _ _ r) e
    cases ea
    rcases hs with ⟨hs, _⟩ | ⟨hs, em⟩
    · exact ⟨xs, hs, q⟩
    · exact absurd em (nt ms)
  refine ⟨fun H' => ∃ xs, SqL K H' a xs ∧ xs.length = ms.length, fun i H' y H'' => H'' = H' ∧ ∀ xs, SqL K H' a xs → xs[i]? = some y, ⟨fun i H' hi ⟨xs, h1, h2⟩ => ?_, fun H' ⟨xs, h1, h2⟩ => ⟨xs, h1, by rw [h2]; exact Nat.le_refl _⟩, fun i H' y H'' _ _ h => h⟩, fun Z' α' H' S' z t s' e => ?_, fun Z' α' H' S' i n y H'' z t s' e hi hy => ?_⟩
  · have hi' : i < xs.length := by rw [h2]; exact hi
    exact ⟨xs, xs[i], h1, by simp [hi']⟩
  · obtain ⟨xs, h1, h2⟩ := at' Z' α' H' S' z t s' e
    exact ⟨xs, h1, h2.length.symm⟩
  · obtain ⟨xs, h1, h2⟩ := at' Z' α' H' S' z t s' e
    obtain ⟨rfl, hy⟩ := hy
    obtain ⟨v, e1, e2⟩ := h2.get hi
    have := hy xs h1
    rw [this] at e1; cases e1
    exact ⟨Tr.refl s', s', e2⟩
theorem walk_of_tup {a : Addr} {ms : List M} (s : SR K Z α H S) (r : Rep K Z α H (.tup ms) (.ref a)) : WalkM K Z (Itt K a) ⟨ms, .tup ms, ms⟩ α H := by
  have at' : ∀ Z' α' H', ZT Z H Z' → Tr α H α' H' → ∃ xs, SqT K H' a xs ∧ RepL K Z' α' H' ms xs := fun Z' α' H' z t => by
    have q := Rep.trZ s.muts t z _ _ r
    simp only [Rep] at q
    obtain ⟨a', xs, ea, hs, q⟩ := q
    cases ea
    exact ⟨xs, hs, q⟩
  refine ⟨fun H' => ∃ xs, SqT K H' a xs ∧ xs.length = ms.length, fun i H' y H'' => H'' = H' ∧ ∀ xs, SqT K H' a xs → xs[i]? = some y, ⟨fun i H' hi ⟨xs, h1, h2⟩ => ?_, fun H' ⟨xs, h1, h2⟩ => ⟨xs, h1, by rw [h2]; exact Nat.le_refl _⟩, fun i H' y H'' _ _ h => h⟩, fun Z' α' H' S' z t s' e => ?_, fun Z' α' H' S' i n y H'' z t s' e hi hy => ?_⟩
  · have hi' : i < xs.length := by rw [h2]; exact hi
    exact ⟨xs, xs[i], h1, by simp [hi']⟩
  · obtain ⟨xs, h1, h2⟩ := at' Z' α' H' z t
    exact ⟨xs, h1, h2.length.symm⟩
  · obtain ⟨xs, h1, h2⟩ := at' Z' α' H' z t
    obtain ⟨rfl, hy⟩ := hy
    obtain ⟨v, e1, e2⟩ := h2.get hi
    have := hy xs h1
    rw [this] at e1; cases e1
    exact ⟨Tr.refl s', s', e2⟩
theorem walk_of_range {lo hi : Int} : WalkM K Z (Itr lo (hi - lo).toNat) ⟨rangeL lo hi, .tup [], []⟩ α H := by
  refine ⟨fun _ => True, fun i H' y H'' => H'' = H' ∧ y = .int (lo + i), ⟨fun i H' h _ => by (show i < (hi - lo).toNat); have h' : i < (rangeL lo hi).length := h; simpa [rangeL] using h', fun H' _ => by (show (hi - lo).toNat ≤ (rangeL lo hi).length); simp [rangeL], fun i H' y H'' _ _ h => h⟩, fun _ _ _ _ _ _ _ _ => trivial, fun Z' α' H' S' i n y H'' z t s' e hi' hy => ?_⟩
  obtain ⟨rfl, rfl⟩ := hy
  refine ⟨Tr.refl s', s', ?_⟩
  have hi' : (rangeL lo hi)[i]? = some n := hi'
  unfold rangeL at hi'
  rw [List.getElem?_map] at hi'
  obtain ⟨j, hj, rfl⟩ := Option.map_eq_some_iff.mp hi'
  have : j = i := by
    have := (List.getElem?_eq_some_iff.mp hj).2
    simpa using this.symm
  subst this
  simp only [Rep]
/-- enumerate: pairs -/
theorem enum_get {ms : List M} {i : Nat} {n : M} (h : ((List.range ms.length).map fun i => M.tup [.int (i : Nat), ms.getD i .non])[i]? = some n) : ∃ m, ms[i]? = some m ∧ n = .tup [.int (i : Nat), m] := by
  rw [List.getElem?_map] at h
  obtain ⟨j, hj, rfl⟩ := Option.map_eq_some_iff.mp h
  obtain ⟨hl, hj⟩ := List.getElem?_eq_some_iff.mp hj
  have e : j = i := by simpa using hj.symm
  subst e
  have hl : j < ms.length := by simpa using hl
  exact ⟨ms[j], by simp [hl], by simp [hl]⟩
theorem pair_rep {T : Addr} {i : Nat} {m : M} {v : V} (s : SR K Z α H S) (hT : H T = none) (r : Rep K Z α H m v) : Tr α H α (upd H T (.tup [.int (i : Nat), v])) ∧ SR K Z α (upd H T (.tup [.int (i : Nat), v])) S ∧ Rep K Z α (upd H T (.tup [.int (i : Nat), v])) (.tup [.int (i : Nat), m]) (.ref T) := by
  have t := Tr.new (o := .tup [.int (i : Nat), v]) s hT
  refine ⟨t, s.new hT, ?_⟩
  simp only [Rep, RepL]
  exact ⟨T, _, rfl, .of upd_same, _, _, rfl, rfl, v, [], rfl, Rep.tr s.muts t _ _ r, rfl⟩
theorem walk_of_enum {m : M} {a : Addr} {ms : List M} (s : SR K Z α H S) (r : Rep K Z α H m (.ref a)) (nt : ∀ l, m ≠ .tup l) : WalkM K Z (Ite K a) ⟨(List.range ms.length).map fun i => .tup [.int (i : Nat), ms.getD i .non], m, ms⟩ α H := by
  have at' : ∀ Z' α' H' S', ZT Z H Z' → Tr α H α' H' → SR K Z' α' H' S' → seqOf S' m = some ms → ∃ xs, SqL K H' a xs ∧ RepL K Z' α' H' ms xs := fun Z' α' H' S' z t s' e => by
    obtain ⟨a', xs, ea, hs, q⟩ := seq_rep s' (Rep.trZ s.muts t z _ _ r) e
    cases ea
    rcases hs with ⟨hs, _⟩ | ⟨hs, em⟩
    · exact ⟨xs, hs, q⟩
    · exact absurd em (nt ms)
  refine ⟨fun H' => ∃ xs, SqL K H' a xs ∧ xs.length = ms.length, fun i H' y H'' => ∃ T x, y = .ref T ∧ H' T = none ∧ H'' = upd H' T (.tup [.int (i : Nat), x]) ∧ ∀ xs, SqL K H' a xs → xs[i]? = some x, ⟨fun i H' hi ⟨xs, h1, h2⟩ => ?_, fun H' ⟨xs, h1, h2⟩ => ⟨xs, h1, by simp [h2]⟩, fun i H' y H'' _ _ h => h⟩, fun Z' α' H' S' z t s' e => ?_, fun Z' α' H' S' i n y H'' z t s' e hi hy => ?_⟩
  · have hi' : i < xs.length := by rw [h2]; simpa using hi
    exact ⟨xs, xs[i], h1, by simp [hi']⟩
  · obtain ⟨xs, h1, h2⟩ := at' Z' α' H' S' z t s' e
    exact ⟨xs, h1, h2.length.symm⟩
  · obtain ⟨xs, h1, h2⟩ := at' Z' α' H' S' z t s' e
    obtain ⟨T, x, rfl, hT, rfl, hy⟩ := hy
    obtain ⟨m', em, rfl⟩ := enum_get hi
    obtain ⟨v, e1, e2⟩ := h2.get em
    have := hy xs h1
    rw [this] at e1; cases e1
    exact pair_rep s' hT e2
theorem walk_of_enumT {a : Addr} {ms : List M} (s : SR K Z α H S) (r : Rep K Z α H (.tup ms) (.ref a)) : WalkM K Z (IteT K a) ⟨(List.range ms.length).map fun i => .tup [.int (i : Nat), ms.getD i .non], .tup ms, ms⟩ α H := by
  have at' : ∀ Z' α' H', ZT Z H Z' → Tr α H α' H' → ∃ xs, SqT K H' a xs ∧ RepL K Z' α' H' ms xs := fun Z' α' H' z t => by
    have q := Rep.trZ s.muts t z _ _ r
    simp only [Rep] at q
    obtain ⟨a', xs, ea, hs, q⟩ := q
    cases ea
    exact ⟨xs, hs, q⟩
  refine ⟨fun H' => ∃ xs, SqT K H' a xs ∧ xs.length = ms.length, fun i H' y H'' => ∃ T x, y = .ref T ∧ H' T = none ∧ H'' = upd H' T (.tup [.int (i : Nat), x]) ∧ ∀ xs, SqT K H' a xs → xs[i]? = some x, ⟨fun i H' hi ⟨xs, h1, h2⟩ => ?_, fun H' ⟨xs, h1, h2⟩ => ⟨xs, h1, by simp [h2]⟩, fun i H' y H'' _ _ h => h⟩, fun Z' α' H' S' z t s' e => ?_, fun Z' α' H' S' i n y H'' z t s' e hi hy => ?_⟩
  · have hi' : i < xs.length := by rw [h2]; simpa using hi
    exact ⟨xs, xs[i], h1, by simp [hi']⟩
  · obtain ⟨xs, h1, h2⟩ := at' Z' α' H' z t
    exact ⟨xs, h1, h2.length.symm⟩
  · obtain ⟨xs, h1, h2⟩ := at' Z' α' H' z t
    obtain ⟨T, x, rfl, hT, rfl, hy⟩ := hy
    obtain ⟨m', em, rfl⟩ := enum_get hi
    obtain ⟨v, e1, e2⟩ := h2.get em
    have := hy xs h1
    rw [this] at e1; cases e1
    exact pair_rep s' hT e2
end
end Mi

namespace Mi
open PySem PySem.Spec L2

theorem PI.wk {X : Cx} {tg it : Expr} {w w' : TI} (h : PI X tg it w) (hw : ∀ σ H R, w' σ H R → w σ H R) : PI X tg it w' := ⟨fun pins s σ H R I ht => h.run pins s σ H R I (hw σ H R ht)⟩
theorem PG.wk {X : Cx} {tg : Expr} {g g' : TG} (h : PG X tg g) (hw : ∀ v σ H Q, g' v σ H Q → g v σ H Q) : PG X tg g' := ⟨fun pins s σ H v u Q I r ht => h.run pins s σ H v u Q I r (hw v σ H Q ht)⟩
section
variable {Φ : String → Option Fn} {x : SX} {X : Cx} {CX : CXT} {k : Nat} {E : XK}
abbrev rdI (X : Cx) (Φ : String → Option Fn) (k : Nat) (E : XK) (it : It') : TI := fun σ H R => tR X.K X.mg E (evI (evalFn Φ k) it) σ H fun Z s _ α' H' => ∀ J, WalkM X.K Z J s α' H' → R J H'
theorem l_ival {a : C} {tg e : Expr} (ha : PE X e (rdC X Φ k E a)) : PI X tg e (rdI X Φ k E (.val a)) := by
  refine PI.wk (pi_seq ha) ?_
  rintro σ H R ⟨Z, α, S, γ, s, er, h⟩
  simp only [evI] at h
  refine ⟨Z, α, S, γ, s, er, h.bind.imp fun m S1 α1 H1 t1 s1 h v rv => ?_⟩
  obtain ⟨ms, e, h⟩ := h.of
  have q := h.now s1
  obtain ⟨a, xs, rfl, hs, r⟩ := seq_rep s1 rv e
  refine ⟨a, xs, rfl, ?_⟩
  rcases hs with ⟨hs, nt⟩ | ⟨hs, em⟩
  · exact .inl ⟨hs, q _ (walk_of_list s1 rv nt)⟩
  · subst em
    exact .inr ⟨hs, q _ (walk_of_tup s1 rv)⟩
theorem l_irange1 {a : C} {tg e : Expr} {n : Str} {p q : Pos} (g : Good Φ x X CX k E) (hn : n = Str.ofString "range") (hg : x.gl n = true) (ha : PE X e (rdC X Φ k E a)) (ho : odd e = false) : PI X tg (.Call (.Name n p) [e] [] q) (rdI X Φ k E (.range1 a)) := by
  subst hn
  refine PI.wk (pi_range1 (g.gl hg) (g.bl "range" (by decide)) (pa_cons ha pa_nil (odd_star ho [] X.env)) (odd_star ho [] X.env)) ?_
  rintro σ H R ⟨Z, α, S, γ, s, er, h⟩
  simp only [evI] at h
  refine ⟨Z, α, S, γ, s, er, h.bind.imp fun m S1 α1 H1 t1 s1 h v rv => ?_⟩
  split at h
  · rename_i j
    obtain ⟨⟨c1, c2, c5⟩, h⟩ := h.when
    refine ⟨j, by rw [rep_int rv], by omega, by omega, ?_⟩
    have w := h.now s1 _ (walk_of_range (K := X.K) (Z := Z) (lo := 0) (hi := j))
    rw [Int.sub_zero] at w
    exact w
  · exact False.elim h
theorem l_irange2 {a b : C} {tg e f : Expr} {n : Str} {p q : Pos} (g : Good Φ x X CX k E) (hn : n = Str.ofString "range") (hg : x.gl n = true) (ha : PE X e (rdC X Φ k E a)) (hb : PE X f (rdC X Φ k E b)) (ho : odd e = false) (ho' : odd f = false) : PI X tg (.Call (.Name n p) [e, f] [] q) (rdI X Φ k E (.range2 a b)) := by
  subst hn
  have h2 : starEach [f] X.env = [(false, eval f X.env)] := odd_star ho' [] X.env
  have h1 : starEach [e, f] X.env = [(false, eval e X.env), (false, eval f X.env)] := by rw [odd_star ho [f] X.env, h2]
  refine PI.wk (pi_range2 (g.gl hg) (g.bl "range" (by decide)) (pa_cons ha (pa_cons hb pa_nil h2) (odd_star ho [f] X.env)) h1 h2) ?_
  rintro σ H R ⟨Z, α, S, γ, s, er, h⟩
  simp only [evI] at h
  refine ⟨Z, α, S, γ, s, er, h.bind.imp fun m S1 α1 H1 t1 s1 h v rv => ⟨Z, α1, S1, γ, s1, er.tr s.muts t1, h.bind.imp fun m2 S2 α2 H2 t2 s2 h u ru => ?_⟩⟩
  split at h
  · obtain ⟨⟨c1, c2, c5⟩, h⟩ := h.when
    exact ⟨_, _, by rw [rep_int rv, rep_int ru], ⟨by omega, by omega, by omega, by omega⟩, h.now s2 _ walk_of_range⟩
  · exact False.elim h
theorem l_ienum {a : C} {elts : List Expr} {kk : Nat} {tp : Pos} {e : Expr} {n : Str} {p q : Pos} (g : Good Φ x X CX k E) (hn : n = Str.ofString "enumerate") (hg : x.gl n = true) (ha : PE X e (rdC X Φ k E a)) (ho : odd e = false) : PI X (.Tuple elts kk tp) (.Call (.Name n p) [e] [] q) (rdI X Φ k E (.enum a)) := by
  subst hn
  refine PI.wk (pi_enumB (g.gl hg) (g.bl "enumerate" (by decide)) (pa_cons ha pa_nil (odd_star ho [] X.env)) (odd_star ho [] X.env)) ?_
  rintro σ H R ⟨Z, α, S, γ, s, er, h⟩
  simp only [evI] at h
  refine ⟨Z, α, S, γ, s, er, h.bind.imp fun m S1 α1 H1 t1 s1 h v rv => ?_⟩
  obtain ⟨ms, e, h⟩ := h.of
  have w := h.now s1
  obtain ⟨a, xs, rfl, hs, r⟩ := seq_rep s1 rv e
  refine ⟨a, xs, rfl, ?_⟩
  rcases hs with ⟨hs, nt⟩ | ⟨hs, em⟩
  · exact .inl ⟨hs, w _ (walk_of_enum s1 rv nt)⟩
  · subst em
    exact .inr ⟨hs, w _ (walk_of_enumT s1 rv)⟩
/-! ### targets -/
/-- slots set one after another -/
def setAll : List Nat → List V → Slots → Slots
  | i :: l, v :: vs, σ => setAll l vs (σ.set i (some v))
  | _, _, σ => σ
/-- what a target asks -/
def rdG (K : PySem.W.Frag) (tg : Tg) : TG := fun v σ H Q => match tg with
  | .nm i => Q (σ.set i (some v)) H
  | .tu l => ∃ a xs, v = .ref a ∧ SqT K H a xs ∧ xs.length = l.length ∧ Q (setAll l xs σ) H
theorem l_nm {i : Nat} {e : Expr} (g : Good Φ x X CX k E) (h : chkNm x i e = true) : PG X e (gName i) := by
  unfold chkNm at h
  split at h
  · simp only [Bool.and_eq_true, decide_eq_true_eq] at h
    obtain ⟨h1, h2⟩ := g.loc h.2
    exact pg_name g.nd (by rw [g.eN]; exact h.1) h1 h2
  · cases h
theorem nm_name {i : Nat} {e : Expr} (h : chkNm x i e = true) : ∃ n p, e = .Name n p := by
  unfold chkNm at h
  split at h
  · exact ⟨_, _, rfl⟩
  · cases h
theorem l_nms (g : Good Φ x X CX k E) : ∀ {l : List Nat} {es : List Expr}, chkNms x l es = true →
    PGs X es (fun vs σ H Q => vs.length = l.length ∧ Q (setAll l vs σ) H) ∧ (assignEach es X.env).length = l.length ∧ (assignEach es X.env).findIdx? (·.1) = none
  | [], es, h => by
    cases es with
    | nil =>
      refine ⟨⟨fun pins s σ H vs us Q I r ht => pgs_nil.run pins s σ H vs us Q I r ?_⟩, rfl, rfl⟩
      obtain ⟨e, q⟩ := ht
      cases vs with
      | nil => exact ⟨rfl, q⟩
      | cons v vs => cases e
    | cons e es => simp [chkNms] at h
  | i :: l, es, h => by
    cases es with
    | nil => simp [chkNms] at h
    | cons e es =>
      simp only [chkNms, Bool.and_eq_true] at h
      obtain ⟨ih, h1, h2⟩ := l_nms g h.2
      obtain ⟨n, p, rfl⟩ := nm_name h.1
      refine ⟨⟨fun pins s σ H vs us Q I r ht => (pgs_cons (l_nm g h.1) ih).run pins s σ H vs us Q I r ?_⟩, ?_, ?_⟩
      · obtain ⟨el, q⟩ := ht
        cases vs with
        | nil => cases el
        | cons v vs => exact ⟨v, vs, rfl, by simpa using el, q⟩
      · show (assignEach es X.env).length + 1 = l.length + 1
        rw [h1]
      · show List.findIdx? (·.1) ((false, _) :: assignEach es X.env) = none
        rw [List.findIdx?_cons]
        simp [h2]
theorem l_tg {tg : Tg} {e : Expr} (g : Good Φ x X CX k E) (h : chkTg x tg e = true) : PG X e (rdG X.K tg) := by
  unfold chkTg at h
  split at h
  · exact l_nm g h
  · obtain ⟨p, h1, h2⟩ := l_nms g h
    refine PG.wk (pg_tup g.calm p h1 h2) ?_
    rintro v σ H Q ⟨a, xs, e1, e2, e3, e4⟩
    exact ⟨a, xs, e1, e2, e3, e3, e4⟩
  · cases h
section
variable {K : PySem.W.Frag} {Z α : List Addr} {H : Hp} {S : Store}
theorem ER.set {γ : Env} {σ : Slots} {i : Nat} {m : M} {v : V} (e : ER K Z α H γ σ) (r : Rep K Z α H m v) : ER K Z α H (γ.set i (some m)) (σ.set i (some v)) := by
  refine ⟨by simp [e.len], fun j m' h => ?_⟩
  rw [List.getElem?_set] at h
  rw [List.getElem?_set, ← e.len]
  split at h
  · rename_i hij
    split at h
    · rename_i hl
      cases h
      rw [if_pos hij, if_pos hl]
      exact ⟨v, rfl, r⟩
    · cases h
  · rename_i hij
    rw [if_neg hij]
    exact e.get j m' h
theorem ER.setAll : ∀ {l : List Nat} {ms : List M} {xs : List V} {γ : Env} {σ : Slots}, ER K Z α H γ σ → RepL K Z α H ms xs → ER K Z α H (bindT.go l ms γ) (setAll l xs σ)
  | [], ms, xs, γ, σ, e, r => by
    have h1 : bindT.go [] ms γ = γ := by unfold bindT.go; rfl
    have h2 : Mi.setAll [] xs σ = σ := by unfold Mi.setAll; rfl
    rw [h1, h2]; exact e
  | i :: l, [], xs, γ, σ, e, r => by
    simp only [RepL] at r
    subst r
    exact e
  | i :: l, m :: ms, xs, γ, σ, e, r => by
    simp only [RepL] at r
    obtain ⟨v, vs, rfl, h1, h2⟩ := r
    show ER K Z α H (bindT.go l ms (γ.set i (some m))) (Mi.setAll l vs (σ.set i (some v)))
    exact ER.setAll (e.set h1) h2
/-- a target is bound -/
theorem tg_out {tg : Tg} {m : M} {v : V} {γ γ1 : Env} {σ : Slots} {Q : Slots → Hp → Prop} (e : ER K Z α H γ σ) (r : Rep K Z α H m v) (hb : bindT tg m γ = some γ1) (h : ∀ σ1, ER K Z α H γ1 σ1 → (∀ own : List Nat, (∀ j ∈ tg.slots, j ∈ own) → wipe σ1 own = wipe σ own) → Q σ1 H) : rdG K tg v σ H Q := by
  have one : ∀ (own : List Nat) (σ : Slots) (i : Nat) (v : V), i ∈ own → wipe (σ.set i (some v)) own = wipe σ own := by
    intro own
    induction own with
    | nil => intro σ i v hi; cases hi
    | cons j own ih =>
      intro σ i v hi
      show (wipe (σ.set i (some v)) own).set j none = (wipe σ own).set j none
      by_cases hio : i ∈ own
      · rw [ih σ i v hio]
      · have hij : i = j := (List.mem_cons.mp hi).resolve_right hio
        subst hij
        have key : ∀ (own : List Nat) (σ : Slots), i ∉ own → wipe (σ.set i (some v)) own = (wipe σ own).set i (some v) := by
          intro own
          induction own with
          | nil => intro σ _; rfl
          | cons q own ih2 =>
            intro σ hn
            simp only [List.mem_cons, not_or] at hn
            show (wipe (σ.set i (some v)) own).set q none = ((wipe σ own).set q none).set i (some v)
            rw [ih2 σ hn.2, List.set_comm _ _ hn.1]
        rw [key own σ hio, List.set_set]
  unfold bindT at hb
  cases tg with
  | nm i =>
    simp only [Option.some.injEq] at hb
    subst hb
    exact h _ (e.set r) fun own hw => one own σ i v (hw i (by simp [Tg.slots]))
  | tu l =>
    cases m with
    | tup ms =>
      simp only at hb
      split at hb
      · rename_i hl
        simp only [Option.some.injEq] at hb
        subst hb
        simp only [Rep] at r
        obtain ⟨a, xs, rfl, hs, q⟩ := r
        refine ⟨a, xs, rfl, hs, by rw [← q.length, hl], h _ (e.setAll q) fun own hw => ?_⟩
        have many : ∀ (l : List Nat) (xs : List V) (σ : Slots), (∀ j ∈ l, j ∈ own) → wipe (setAll l xs σ) own = wipe σ own := by
          intro l
          induction l with
          | nil => intro xs σ _; cases xs <;> rfl
          | cons i l ih =>
            intro xs σ hw
            cases xs with
            | nil => rfl
            | cons v xs =>
              show wipe (setAll l xs (σ.set i (some v))) own = _
              rw [ih xs _ fun j hj => hw j (List.mem_cons_of_mem _ hj), one own σ i v (hw i List.mem_cons_self)]
        exact many l xs σ hw
      · cases hb
    | _ => cases hb
theorem ER.wipe {γ : Env} {σ : Slots} (e : ER K Z α H γ σ) : ∀ own : List Nat, ER K Z α H (wipeE γ own) (L2.wipe σ own)
  | [] => e
  | j :: own => by
    have ih := ER.wipe e own
    refine ⟨by show ((wipeE γ own).set j none).length = ((L2.wipe σ own).set j none).length; simp [ih.len], fun i m h => ?_⟩
    have h : ((wipeE γ own).set j none)[i]? = some (some m) := h
    show ∃ v, ((L2.wipe σ own).set j none)[i]? = some (some v) ∧ _
    rw [List.getElem?_set] at h ⊢
    split at h
    · split at h <;> cases h
    · rename_i hij
      rw [if_neg hij]
      exact ih.get i m h
end
end
end Mi

namespace Mi
open PySem PySem.Spec L2

/-- a comprehension's turn -/
def turnF (call : String → List M → Store → R M) (tg : Tg) (ifs : To) (e : C) (γw : Env) (x : M) (S : Store) : R (Option M) := .of (bindT tg x γw) fun γ1 =>
  ((evt call ifs γ1 S).bind fun b S => if b = true then (ev call e γ1 S).bind fun m S => .ok (some m) S else .ok none S).calm
theorem ev_lc {call : String → List M → Store → R M} {al : Bool} {tg : Tg} {it : It'} {ifs : To} {e : C} {own : List Nat} {γ : Env} {S : Store} : ev call (.lc al tg it ifs e own) γ S =
    (evI call it γ S).bind fun s S => .when (s.items.length ≤ big) ((compLoop s (turnF call tg ifs e (wipeE γ own)) s.items S).bind fun ms S => mkL al ms S) := by
  simp only [ev]; rfl
theorem ev_ssc {call : String → List M → Store → R M} {al : Bool} {tg : Tg} {it : It'} {ifs : To} {e : C} {own : List Nat} {γ : Env} {S : Store} : ev call (.ssc al tg it ifs e own) γ S =
    (evI call it γ S).bind fun s S => .when (s.items.length ≤ 4000) ((compLoop s (turnF call tg ifs e (wipeE γ own)) s.items S).bind fun ms S =>
      .of (intsOf ms) fun is => .when ((dedup is).length < 64) (mkL al ((isort (dedup is)).map M.int) S)) := by
  simp only [ev]; rfl
section
variable {K : PySem.W.Frag} {mg : Str → Option Value} {E : XK} {Z α : List Addr} {H : Hp}
theorem bind_assoc {τ υ ω : Type} (r : R τ) (f : τ → Store → R υ) (g : υ → Store → R ω) : (r.bind f).bind g = r.bind fun a S => (f a S).bind g := by cases r <;> rfl
mutual
/-- a reserved address joins the store's -/
theorem Rep.join {D : Addr} : ∀ (m : M) (v : V), Rep K (D :: Z) α H m v → Rep K Z (α ++ [D]) H m v
  | .non, v, h => by simpa only [Rep] using h
  | .bl b, v, h => by simpa only [Rep] using h
  | .int i, v, h => by simpa only [Rep] using h
  | .str s, v, h => by simpa only [Rep] using h
  | .scr ns, v, h => by simpa only [Rep] using h
  | .ref n, v, h => by
    simp only [Rep] at h ⊢
    obtain ⟨a, h, e⟩ := h
    refine ⟨a, ?_, e⟩
    rw [List.getElem?_append_left (List.getElem?_eq_some_iff.mp h).1]
    exact h
  | .tup ms, v, h => by
    simp only [Rep] at h ⊢
    obtain ⟨a, xs, e, h, r⟩ := h
    exact ⟨a, xs, e, h, RepL.join ms xs r⟩
  | .lst ms, v, h => by
    simp only [Rep] at h ⊢
    obtain ⟨a, xs, e, h, n, r⟩ := h
    refine ⟨a, xs, e, h, ⟨fun ha => ?_, fun hz => n.2 (List.mem_cons_of_mem _ hz)⟩, RepL.join ms xs r⟩
    rcases List.mem_append.mp ha with ha | ha
    · exact n.1 ha
    · exact n.2 (by rw [List.mem_singleton.mp ha]; exact List.mem_cons_self)
theorem RepL.join {D : Addr} : ∀ (ms : List M) (xs : List V), RepL K (D :: Z) α H ms xs → RepL K Z (α ++ [D]) H ms xs
  | [], xs, h => by simpa only [RepL] using h
  | m :: ms, xs, h => by
    simp only [RepL] at h ⊢
    obtain ⟨x, r, e, h, q⟩ := h
    exact ⟨x, r, e, Rep.join m x h, RepL.join ms r q⟩
end
theorem SR.join {D : Addr} {S : Store} {ms : List M} {xs : List V} (s : SR K (D :: Z) α H S) (nZ : D ∉ Z) (e : H D = some (.lst xs)) (r : RepL K (D :: Z) α H ms xs) : SR K Z (α ++ [D]) H (S ++ [.lst ms]) := by
  have nD := (s.zs D List.mem_cons_self).1
  refine ⟨?_, by simp [s.len], fun n u h => ?_, fun a ha => ⟨fun hm => ?_, (s.zs a (List.mem_cons_of_mem _ ha)).2⟩⟩
  · rw [List.nodup_append]
    exact ⟨s.nd, by simp, fun a ha b hb => fun q => nD (by rw [← List.mem_singleton.mp hb, ← q]; exact ha)⟩
  · by_cases hn : n < S.length
    · rw [List.getElem?_append_left hn] at h
      obtain ⟨a, ha, ob⟩ := s.obj n u h
      refine ⟨a, by rw [List.getElem?_append_left (by rw [s.len]; exact hn)]; exact ha, ?_⟩
      cases u with
      | lst us =>
        obtain ⟨ys, e, q⟩ := ob
        exact ⟨ys, e, q.join⟩
    · rw [List.getElem?_append_right (by omega)] at h
      have hn0 : n - S.length = 0 := by
        cases hq : n - S.length with
        | zero => rfl
        | succ q => rw [hq] at h; cases h
      rw [hn0] at h
      cases h
      refine ⟨D, ?_, xs, e, r.join⟩
      rw [List.getElem?_append_right (by rw [s.len]; omega), s.len, hn0]
      rfl
  · rcases List.mem_append.mp hm with hm | hm
    · exact (s.zs a (List.mem_cons_of_mem _ ha)).1 hm
    · exact nZ (by rw [← List.mem_singleton.mp hm]; exact ha)
/-- one turn of the loop, as far as it is asked -/
theorem turn_out {call : String → List M → Store → R M} {tg : Tg} {ifs : To} {e : C} {γw : Env} {s : Src} {m : M} {rest : List M} {S : Store} {υ : Type} {G : List M → Store → R υ} {P : υ → Store → List Addr → Hp → Prop}
    (h : Out K Z mg E ((compLoop s (turnF call tg ifs e γw) (m :: rest) S).bind G) α H P) : s.ok S ∧ ∃ γ1, bindT tg m γw = some γ1 ∧ ∃ b S1, evt call ifs γ1 S = .ok b S1 ∧
      ((b = true ∧ ∃ y S2, ev call e γ1 S1 = .ok y S2 ∧ Out K Z mg E ((compLoop s (turnF call tg ifs e γw) rest S2).bind fun r S => G ([y] ++ r) S) α H P) ∨
       (b = false ∧ Out K Z mg E ((compLoop s (turnF call tg ifs e γw) rest S1).bind G) α H P)) := by
  unfold compLoop at h
  by_cases hok : s.ok S
  · refine ⟨hok, ?_⟩
    rw [R.when_true hok] at h
    cases hb : bindT tg m γw with
    | none => rw [show turnF call tg ifs e γw m S = .bad by unfold turnF; rw [hb]; rfl] at h; exact False.elim h
    | some γ1 =>
      refine ⟨γ1, rfl, ?_⟩
      cases ht : evt call ifs γ1 S with
      | bad => rw [show turnF call tg ifs e γw m S = .bad by unfold turnF; rw [hb, R.of_some, ht]; rfl] at h; exact False.elim h
      | exc y S' => rw [show turnF call tg ifs e γw m S = .bad by unfold turnF; rw [hb, R.of_some, ht]; rfl] at h; exact False.elim h
      | ok b S1 =>
        refine ⟨b, S1, rfl, ?_⟩
        cases b with
        | false =>
          rw [show turnF call tg ifs e γw m S = .ok none S1 by unfold turnF; rw [hb, R.of_some, ht]; rfl] at h
          refine .inr ⟨rfl, ?_⟩
          rw [R.bind_ok, bind_assoc] at h
          exact h
        | true =>
          refine .inl ⟨rfl, ?_⟩
          cases he : ev call e γ1 S1 with
          | bad => rw [show turnF call tg ifs e γw m S = .bad by unfold turnF; rw [hb, R.of_some, ht, R.bind_ok, if_pos rfl, he]; rfl] at h; exact False.elim h
          | exc y S' => rw [show turnF call tg ifs e γw m S = .bad by unfold turnF; rw [hb, R.of_some, ht, R.bind_ok, if_pos rfl, he]; rfl] at h; exact False.elim h
          | ok y S2 =>
            rw [show turnF call tg ifs e γw m S = .ok (some y) S2 by unfold turnF; rw [hb, R.of_some, ht, R.bind_ok, if_pos rfl, he]; rfl] at h
            refine ⟨y, S2, rfl, ?_⟩
            rw [R.bind_ok, bind_assoc] at h
            exact h
  · rw [show R.when (s.ok S) _ = .bad from if_neg hok] at h
    exact False.elim h
theorem end_out {call : String → List M → Store → R M} {f : M → Store → R (Option M)} {s : Src} {S : Store} {υ : Type} {G : List M → Store → R υ} {P : υ → Store → List Addr → Hp → Prop}
    (h : Out K Z mg E ((compLoop s f [] S).bind G) α H P) : s.ok S ∧ Out K Z mg E (G [] S) α H P := by
  unfold compLoop at h
  by_cases hok : s.ok S
  · rw [R.when_true hok] at h
    exact ⟨hok, h⟩
  · rw [show R.when (s.ok S) _ = .bad from if_neg hok] at h
    exact False.elim h
theorem ok_out {call : String → List M → Store → R M} {tg : Tg} {ifs : To} {e : C} {γw : Env} {s : Src} {l : List M} {S : Store} {υ : Type} {G : List M → Store → R υ} {P : υ → Store → List Addr → Hp → Prop}
    (h : Out K Z mg E ((compLoop s (turnF call tg ifs e γw) l S).bind G) α H P) : s.ok S := by
  cases l with
  | nil => exact (end_out (call := call) h).1
  | cons m l => exact (turn_out h).1
theorem wipe_wipe (σ : Slots) (own : List Nat) : L2.wipe (L2.wipe σ own) own = L2.wipe σ own := by
  apply List.ext_getElem?
  intro i
  have key : ∀ (own : List Nat) (σ : Slots) (i : Nat), (L2.wipe σ own)[i]? = if i ∈ own then σ[i]?.map (fun _ => none) else σ[i]? := by
    intro own
    induction own with
    | nil => intro σ i; simp [L2.wipe]
    | cons j own ih =>
      intro σ i
      show ((L2.wipe σ own).set j none)[i]? = _
      rw [List.getElem?_set, wipe_length]
      by_cases hij : j = i
      · subst hij
        rw [if_pos rfl, if_pos List.mem_cons_self]
        by_cases hl : j < σ.length
        · rw [if_pos hl, List.getElem?_eq_getElem hl]; rfl
        · rw [if_neg hl, List.getElem?_eq_none (by omega)]; rfl
      · rw [if_neg hij, ih]
        have : i ∈ j :: own ↔ i ∈ own := by simp [Ne.symm hij]
        by_cases hm : i ∈ own
        · rw [if_pos hm, if_pos (this.mpr hm)]
        · rw [if_neg hm, if_neg (fun q => hm (this.mp q))]
  rw [key, key]
  by_cases hm : i ∈ own
  · rw [if_pos hm, if_pos hm]
    cases σ[i]? <;> rfl
  · rw [if_neg hm, if_neg hm]
end
section
variable {Φ : String → Option Fn} {x : SX} {X : Cx} {CX : CXT} {k : Nat} {E : XK}
abbrev E00 : XK := fun _ _ _ => False
abbrev rdF (X : Cx) (Φ : String → Option Fn) (k : Nat) (E : XK) (c : To) : TT := tB' X.K X.mg E (evt (evalFn Φ k) c)
theorem l_fno : PTs X [] (rdF X Φ k E .no) := by
  refine ⟨fun pins s σ H Q I h => pts_nil.run pins s σ H Q I ?_⟩
  obtain ⟨Z, α, S, γ, s, er, h⟩ := h
  simp only [evt] at h
  exact h.now s
theorem l_fso {t : T} {e : Expr} (h : PT X e (rdT X Φ k E t)) : PTs X [e] (rdF X Φ k E (.so t)) := by
  refine ⟨fun pins s σ H Q I ht => (pts_one h).run pins s σ H Q I ?_⟩
  obtain ⟨Z, α, S, γ, s, er, h⟩ := ht
  simp only [evt] at h
  exact ⟨Z, α, S, γ, s, er, h⟩
theorem own_snd {N : List Str} {own : List Nat} : (ownP N own).map (·.2) = own := by
  unfold ownP
  rw [List.map_map]
  exact List.map_id' own
/-- [e for tg in it if ..] -/
theorem l_lc {al : Bool} {tg : Tg} {it : It'} {ifs : To} {el : C} {own : List Nat} {v t i : Expr} {ts : List Expr} {sc : Scope} {p : Pos} (g : Good Φ x X CX k E) (hb : blkC x.N x.sc sc (ownP x.N own) = true) (hs : (tg.slots.all fun j => decide (j ∈ own)) = true)
    (hi : PI X t i (rdI X Φ k E it)) (ho : odd i = false ∨ ∀ z, foldedSetIterable i X.env z = pure z)
    (hg : ∀ (s : Shared) (H : Hp) (C : Addr) (cl : List (Str × Addr)) (fp : List Addr), PG (X.blk s H sc (compEnvC sc cl C X.env) fp) t (rdG X.K tg))
    (ht : ∀ (s : Shared) (H : Hp) (C : Addr) (cl : List (Str × Addr)) (fp : List Addr), PTs (X.blk s H sc (compEnvC sc cl C X.env) fp) ts (rdF X Φ k E00 ifs))
    (he : ∀ (s : Shared) (H : Hp) (C : Addr) (cl : List (Str × Addr)) (fp : List Addr), PE (X.blk s H sc (compEnvC sc cl C X.env) fp) v (rdC X Φ k E00 el)) :
    ∀ σ H Q, rdC X Φ k E (.lc al tg it ifs el own) σ H Q → tLc (rdI X Φ k E it) (rdG X.K tg) (rdF X Φ k E00 ifs) (rdC X Φ k E00 el) own σ H Q := by
  have slots : ∀ j ∈ tg.slots, j ∈ own := fun j hj => of_decide_eq_true (List.all_eq_true.mp hs j hj)
  rintro σ H Q ⟨Z, α, S, γ, s, er, h⟩
  rw [ev_lc] at h
  refine ⟨Z, α, S, γ, s, er, h.bind.imp fun src S1 α1 H1 t1 s1 h J WM D hD => ?_⟩
  obtain ⟨hlen, h⟩ := h.when
  obtain ⟨G, Y, w, hG, hY⟩ := WM.ex
  have bl := big_line
  have er1 := er.tr s.muts t1
  refine lc_it w (fun i H' => ∃ α' S' acc am, Tr α1 H1 α' H' ∧ SR X.K (D :: Z) α' H' S' ∧ H' D = some (.lst acc) ∧ RepL X.K (D :: Z) α' H' am acc ∧ acc.length ≤ i ∧
    Out X.K Z X.mg E ((compLoop src (turnF (evalFn Φ k) tg ifs el (wipeE γ own)) (src.items.drop i) S').bind fun r S'' => mkL al (am ++ r) S'') α1 H1 (PM X.K Z Q)) ?_ ?_ ?_ ?_
  · exact ⟨α1, S1, [], [], Tr.new s1 hD, s1.reserve hD, upd_same, by simp only [RepL], Nat.le_refl _, by simpa using h⟩
  · rintro i H' _ ⟨α', S', acc, am, t, s', e1, r, l, o⟩
    exact hG (D :: Z) α' H' S' (ZT.cons hD) t s' (ok_out o)
  · rintro i y H' H'' hi ⟨α', S', acc, am, t, s', e1, r, l, o⟩ hy
    have hd : src.items.drop i = src.items[i] :: src.items.drop (i + 1) := List.drop_eq_getElem_cons hi
    rw [hd] at o
    obtain ⟨hok, γ1, hb1, b, S2, ht1, hcase⟩ := turn_out o
    obtain ⟨ty, s'', ry⟩ := hY (D :: Z) α' H' S' i src.items[i] y H'' (ZT.cons hD) t s' hok (by simp [hi]) hy
    have tt := t.trans ty
    have e2 : H'' D = some (.lst acc) := ty.keep D _ e1 (s'.zs D List.mem_cons_self).1
    have r2 := RepL.tr s'.muts ty _ _ r
    have erw := ER.wipe ((er1.trZ s1.muts tt (ZT.cons hD))) own
    refine tg_out erw ry hb1 fun σ1 er2 hw => ⟨by rw [hw own slots, wipe_wipe], ?_⟩
    refine ⟨D :: Z, α', S', γ1, s'', er2, ?_⟩
    rw [ht1]
    intro α2 H2 t2 s2
    have e3 : H2 D = some (.lst acc) := t2.keep D _ e2 (s''.zs D List.mem_cons_self).1
    rcases hcase with ⟨rfl, m, S3, hev, o⟩ | ⟨rfl, o⟩
    · show rdC X Φ k E00 el σ1 H2 _
      refine ⟨D :: Z, α2, S2, γ1, s2, er2.tr s''.muts t2, ?_⟩
      rw [hev]
      intro α3 H3 t3 s3 u ru
      have e4 : H3 D = some (.lst acc) := t3.keep D _ e3 (s2.zs D List.mem_cons_self).1
      refine ⟨acc, e4, by omega, α3, S3, acc ++ [u], am ++ [m], ?_, ?_, upd_same, ?_, by simp; omega, ?_⟩
      · exact Tr.off ((tt.trans t2).trans t3) hD (s3.zs D List.mem_cons_self).1
      · exact SR.off List.mem_cons_self e4 trivial s3
      · exact RepL.off List.mem_cons_self e4 trivial _ _ ((RepL.tr s''.muts (t2.trans t3) _ _ r2).append (RepL.one ru))
      · simpa only [List.append_assoc] using o
    · exact ⟨α2, S2, acc, am, tt.trans t2, s2, e3, RepL.tr s''.muts t2 _ _ r2, by omega, o⟩
  · rintro H' ⟨α', S', acc, am, t, s', e1, r, l, o⟩
    rw [List.drop_length] at o
    obtain ⟨_, o⟩ := end_out (call := evalFn Φ k) o
    rw [List.append_nil] at o
    have sZ : SR X.K Z α' H' S' := s'.sub fun a ha => List.mem_cons_of_mem _ ha
    have nD := (s'.zs D List.mem_cons_self).1
    have rZ := RepL.sub (Z' := Z) (fun a ha => List.mem_cons_of_mem _ ha) _ _ r
    have nZ : D ∉ Z := fun hz => (s1.zs D hz).2 hD
    unfold mkL at o
    cases al with
    | false =>
      have o' : Out X.K Z X.mg E (.ok (.lst am) S') α1 H1 (PM X.K Z Q) := o
      refine o' α' H' t sZ (.ref D) ?_
      simp only [Rep]
      exact ⟨D, acc, rfl, e1, ⟨nD, nZ⟩, rZ⟩
    | true =>
      have live : ∀ a ∈ α' ++ [D], H' a ≠ none := fun a ha => by
        rcases List.mem_append.mp ha with ha | ha
        · exact t.live a ha
        · rw [List.mem_singleton.mp ha, e1]; exact fun z => by cases z
      have tD : Tr α1 H1 (α' ++ [D]) H' := by
        obtain ⟨β, eβ, hβ⟩ := t.ext
        refine ⟨t.keep, ⟨β ++ [D], by rw [eβ, List.append_assoc], fun a ha => ?_⟩, live⟩
        rcases List.mem_append.mp ha with ha | ha
        · exact hβ a ha
        · rw [List.mem_singleton.mp ha]; exact hD
      have o' : Out X.K Z X.mg E (.ok (.ref S'.length) (S' ++ [.lst am])) α1 H1 (PM X.K Z Q) := o
      refine o' (α' ++ [D]) H' tD (s'.join nZ e1 r) (.ref D) ?_
      simp only [Rep]
      refine ⟨D, ?_, rfl⟩
      rw [List.getElem?_append_right (by rw [s'.len]; exact Nat.le_refl _), s'.len, Nat.sub_self]
      rfl
end
end Mi

namespace Mi
open PySem PySem.Spec L2

section
variable {J : It} {n : Nat} {G : Hp → Prop} {Y : Nat → Hp → V → Hp → Prop}
theorem si_it {w : World} (k : Walk J n G Y) {g : TG} {tt : TT} {te : TE} {vs : List Nat} {σ : St} {H1 : Hp} {D : Addr} {Qd : Hp → Prop} (Pv : Nat → Hp → Prop) (h0 : Pv 0 (upd H1 D (SetO w D (fun _ => false) 0))) (hG : ∀ i H, i ≤ n → Pv i H → G H)
    (hs : ∀ i x H H', i < n → Pv i H → Y i H x H' → g x (wipe σ vs) H' fun σ2 H2 => wipe σ2 vs = wipe σ vs ∧ tt σ2 H2 fun b H3 =>
      if b = true then te σ2 H3 fun y H4 => ∃ (z : Int) (S : Int → Bool) (c : Nat), y = .int z ∧ H4 D = some (SetO w D S c) ∧ c + 1 < scanBound ∧ Pv (i + 1) (upd H4 D (SetO w D (fun j => S j || decide (j = z)) (if S z = true then c else c + 1))) else Pv (i + 1) H3) (hd : ∀ H, Pv n H → Qd H) :
    ∃ W : Nat → Nat → Hp → Prop, (∃ m, W 0 m (upd H1 D (SetO w D (fun _ => false) 0))) ∧ ∀ i m H, W i m H →
      (J.stop i H ∧ Qd H) ∨ (J.go i H ∧ ∃ Nx : Hp → Prop, (∀ H', Nx H' → ∃ m', m' < m ∧ W (i + 1) m' H') ∧ ∀ x H', J.yld i H x H' → g x (wipe σ vs) H' fun σ2 H2 => wipe σ2 vs = wipe σ vs ∧ tt σ2 H2 fun b H3 =>
        if b = true then te σ2 H3 fun y H4 => ∃ (z : Int) (S : Int → Bool) (c : Nat), y = .int z ∧ H4 D = some (SetO w D S c) ∧ c + 1 < scanBound ∧ Nx (upd H4 D (SetO w D (fun j => S j || decide (j = z)) (if S z = true then c else c + 1))) else Nx H3) := by
  refine ⟨fun i m H => m = n - i ∧ i ≤ n ∧ Pv i H, ⟨n, by simp, Nat.zero_le _, h0⟩, fun i m H hW => ?_⟩
  obtain ⟨em, hi, p⟩ := hW
  rcases Nat.lt_or_ge i n with lt | ge
  · exact .inr ⟨k.goes i H lt (hG i H hi p), Pv (i + 1), fun H' p' => ⟨n - (i + 1), by omega, rfl, lt, p'⟩, fun x H' y => hs i x H H' lt p (k.yields i H x H' lt (hG i H hi p) y)⟩
  · have e : i = n := by omega
    rw [e] at p ⊢
    exact .inl ⟨k.stops H (hG n H (Nat.le_refl _) p), hd H p⟩
end
section
variable {K : PySem.W.Frag} {mg : Str → Option Value} {E : XK} {Z α : List Addr} {H : Hp}
theorem loop_calm {call : String → List M → Store → R M} {tg : Tg} {ifs : To} {e : C} {γw : Env} {s : Src} : ∀ (l : List M) (S : Store) (x : Ex) (S' : Store), compLoop s (turnF call tg ifs e γw) l S ≠ .exc x S'
  | [], S, x, S' => by
    unfold compLoop R.when
    split <;> exact fun z => by cases z
  | m :: l, S, x, S' => by
    unfold compLoop R.when
    split
    · cases ht : turnF call tg ifs e γw m S with
      | bad => exact fun z => by cases z
      | exc y S1 =>
        exfalso
        unfold turnF at ht
        cases hb : bindT tg m γw with
        | none => rw [hb] at ht; cases ht
        | some γ1 =>
          rw [hb, R.of_some] at ht
          unfold R.calm at ht
          split at ht
          · cases ht
          · rename_i q; exact q _ _ ht
      | ok o S1 =>
        rw [R.bind_ok]
        cases hl : compLoop s (turnF call tg ifs e γw) l S1 with
        | bad => exact fun z => by cases z
        | exc y S2 => exact absurd hl (loop_calm l S1 y S2)
        | ok r S2 => exact fun z => by cases z
    · exact fun z => by cases z
theorem ints_pre : ∀ (a b : List M) (is : List Int), intsOf (a ++ b) = some is → ∃ js, intsOf a = some js
  | [], b, is, h => ⟨[], rfl⟩
  | m :: a, b, is, h => by
    cases m with
    | int i =>
      show ∃ js, (intsOf a).map (i :: ·) = some js
      have h' : (intsOf (a ++ b)).map (i :: ·) = some is := h
      cases hq : intsOf (a ++ b) with
      | none => rw [hq] at h'; cases h'
      | some q =>
        obtain ⟨js, e⟩ := ints_pre a b q hq
        exact ⟨i :: js, by rw [e]; rfl⟩
    | _ => exact nomatch (show none = some is from h)
theorem ints_snoc : ∀ (a : List M) (m : M) (is : List Int), intsOf (a ++ [m]) = some is → ∃ js z, intsOf a = some js ∧ m = .int z ∧ is = js ++ [z]
  | [], m, is, h => by
    cases m with
    | int i => exact ⟨[], i, rfl, rfl, by cases h; rfl⟩
    | _ => exact nomatch (show none = some is from h)
  | x :: a, m, is, h => by
    cases x with
    | int i =>
      have h' : (intsOf (a ++ [m])).map (i :: ·) = some is := h
      cases hq : intsOf (a ++ [m]) with
      | none => rw [hq] at h'; cases h'
      | some q =>
        obtain ⟨js, z, e, em, eq⟩ := ints_snoc a m q hq
        refine ⟨i :: js, z, by show (intsOf a).map (i :: ·) = _; rw [e]; rfl, em, ?_⟩
        rw [hq] at h'
        cases h'
        rw [eq]; rfl
    | _ => exact nomatch (show none = some is from h)
theorem ints_out {call : String → List M → Store → R M} {tg : Tg} {ifs : To} {e : C} {γw : Env} {s : Src} {l : List M} {S : Store} {υ : Type} {a : List M} {F : List M → List Int → Store → R υ} {P : υ → Store → List Addr → Hp → Prop}
    (h : Out K Z mg E ((compLoop s (turnF call tg ifs e γw) l S).bind fun r S' => .of (intsOf (a ++ r)) fun is => F r is S') α H P) : ∃ is, intsOf a = some is := by
  cases hl : compLoop s (turnF call tg ifs e γw) l S with
  | bad => rw [hl] at h; exact False.elim h
  | exc x S' => exact absurd hl (loop_calm l S x S')
  | ok r S' =>
    rw [hl, R.bind_ok] at h
    cases hi : intsOf (a ++ r) with
    | none => rw [hi] at h; exact False.elim h
    | some is => exact ints_pre a r is hi
theorem mem_dedup {j : Int} : ∀ l : List Int, j ∈ dedup l ↔ j ∈ l
  | [] => Iff.rfl
  | a :: l => by
    unfold dedup
    by_cases ha : a ∈ l
    · rw [if_pos ha, mem_dedup l]
      exact ⟨List.mem_cons_of_mem _, fun h => (List.mem_cons.mp h).elim (fun q => by rw [q]; exact ha) id⟩
    · rw [if_neg ha, List.mem_cons, List.mem_cons, mem_dedup l]
theorem nodup_dedup : ∀ l : List Int, (dedup l).Nodup
  | [] => List.nodup_nil
  | a :: l => by
    unfold dedup
    by_cases ha : a ∈ l
    · rw [if_pos ha]; exact nodup_dedup l
    · rw [if_neg ha]
      exact List.nodup_cons.mpr ⟨fun q => ha ((mem_dedup l).mp q), nodup_dedup l⟩
end
section
variable {Φ : String → Option Fn} {x : SX} {X : Cx} {CX : CXT} {k : Nat} {E : XK}
/-- sorted({e for tg in it if ..}), ints -/
theorem l_ssc {al : Bool} {tg : Tg} {it : It'} {ifs : To} {el : C} {own : List Nat} {v t i : Expr} {ts : List Expr} {sc : Scope} {p p1 p2 : Pos} {n : Str} (g : Good Φ x X CX k E) (hn : n = Str.ofString "sorted") (hgl : x.gl n = true)
    (hb : blkC x.N x.sc sc (ownP x.N own) = true) (hs : (tg.slots.all fun j => decide (j ∈ own)) = true)
    (hi : PI X t i (rdI X Φ k E it)) (ho : ∀ z, foldedSetIterable i X.env z = pure z)
    (hg : ∀ (s : Shared) (H : Hp) (C : Addr) (cl : List (Str × Addr)) (fp : List Addr), PG (X.blk s H sc (compEnvC sc cl C X.env) fp) t (rdG X.K tg))
    (ht : ∀ (s : Shared) (H : Hp) (C : Addr) (cl : List (Str × Addr)) (fp : List Addr), PTs (X.blk s H sc (compEnvC sc cl C X.env) fp) ts (rdF X Φ k E00 ifs))
    (he : ∀ (s : Shared) (H : Hp) (C : Addr) (cl : List (Str × Addr)) (fp : List Addr), PE (X.blk s H sc (compEnvC sc cl C X.env) fp) v (rdC X Φ k E00 el)) :
    PE X (.Call (.Name n p1) [.SetComp v [⟨t, i, ts, 0⟩] sc p] [] p2) (rdC X Φ k E (.ssc al tg it ifs el own)) := by
  subst hn
  have slots : ∀ j ∈ tg.slots, j ∈ own := fun j hj => of_decide_eq_true (List.all_eq_true.mp hs j hj)
  have hbk : blkC X.N X.env.scope sc (ownP x.N own) = true := by rw [g.eN, g.eS]; exact hb
  refine PE.wk (pe_callB (cr_sortedSet g.calm) (g.gl hgl) (g.bl "sorted" (by decide)) (by decide +kernel) (pa_cons (pe_si (pos := p) g.calm g.nd hi (blkOk_by hbk) hg ht he ho) pa_nil)) ?_
  rintro σ H Q ⟨Z, α, S, γ, s, er, h⟩
  rw [ev_ssc] at h
  rw [own_snd]
  refine ⟨Z, α, S, γ, s, er, h.bind.imp fun src S1 α1 H1 t1 s1 h J WM D hD => ?_⟩
  obtain ⟨hlen, h⟩ := h.when
  obtain ⟨G, Y, w, hG, hY⟩ := WM.ex
  have er1 := er.tr s.muts t1
  refine si_it w (fun i H' => ∃ (α' : List Addr) (S' : Store) (ds : List Int) (am : List M) (is : List Int), Tr α1 H1 α' H' ∧ SR X.K (D :: Z) α' H' S' ∧ H' D = some (SetO X.w D (fun j => decide (j ∈ is)) ds.length) ∧ intsOf am = some is ∧ ds.Nodup ∧ (∀ j : Int, j ∈ ds ↔ j ∈ is) ∧ ds.length ≤ i ∧
    Out X.K Z X.mg E ((compLoop src (turnF (evalFn Φ k) tg ifs el (wipeE γ own)) (src.items.drop i) S').bind fun r S'' => .of (intsOf (am ++ r)) fun is => .when ((dedup is).length < 64) (mkL al ((isort (dedup is)).map M.int) S'')) α1 H1 (PM X.K Z Q)) ?_ ?_ ?_ ?_
  · refine ⟨α1, S1, [], [], [], Tr.new s1 hD, s1.reserve hD, ?_, rfl, List.nodup_nil, fun j => Iff.rfl, Nat.le_refl _, by simpa using h⟩
    rw [upd_same]
    simp
  · rintro i H' _ ⟨α', S', ds, am, is, t, s', e1, r, nd, mm, l, o⟩
    exact hG (D :: Z) α' H' S' (ZT.cons hD) t s' (ok_out o)
  · rintro i y H' H'' hi ⟨α', S', ds, am, is, t, s', e1, r, nd, mm, l, o⟩ hy
    have hd : src.items.drop i = src.items[i] :: src.items.drop (i + 1) := List.drop_eq_getElem_cons hi
    rw [hd] at o
    obtain ⟨hok, γ1, hb1, b, S2, ht1, hcase⟩ := turn_out o
    obtain ⟨ty, s'', ry⟩ := hY (D :: Z) α' H' S' i src.items[i] y H'' (ZT.cons hD) t s' hok (by simp [hi]) hy
    have tt := t.trans ty
    have e2 := ty.keep D _ e1 (s'.zs D List.mem_cons_self).1
    have erw := ER.wipe ((er1.trZ s1.muts tt (ZT.cons hD))) own
    refine tg_out erw ry hb1 fun σ1 er2 hw => ⟨by rw [hw own slots, wipe_wipe], ?_⟩
    refine ⟨D :: Z, α', S', γ1, s'', er2, ?_⟩
    rw [ht1]
    intro α2 H2 t2 s2
    have e3 := t2.keep D _ e2 (s''.zs D List.mem_cons_self).1
    rcases hcase with ⟨rfl, m, S3, hev, o⟩ | ⟨rfl, o⟩
    · show rdC X Φ k E00 el σ1 H2 _
      refine ⟨D :: Z, α2, S2, γ1, s2, er2.tr s''.muts t2, ?_⟩
      rw [hev]
      intro α3 H3 t3 s3 u ru
      have e4 := t3.keep D _ e3 (s2.zs D List.mem_cons_self).1
      have o' : Out X.K Z X.mg E ((compLoop src (turnF (evalFn Φ k) tg ifs el (wipeE γ own)) (src.items.drop (i + 1)) S3).bind fun r S'' => .of (intsOf ((am ++ [m]) ++ r)) fun is => .when ((dedup is).length < 64) (mkL al ((isort (dedup is)).map M.int) S'')) α1 H1 (PM X.K Z Q) := by
        simpa only [List.append_assoc] using o
      obtain ⟨is', ei⟩ := ints_out o'
      obtain ⟨js, z, ej, rfl, rfl⟩ := ints_snoc am m is' ei
      rw [r] at ej
      cases ej
      have sb : scanBound = 4096 := rfl
      refine ⟨z, _, _, rep_int ru, e4, by omega, α3, S3, if z ∈ is then ds else ds ++ [z], am ++ [.int z], is ++ [z], ?_, ?_, ?_, ei, ?_, ?_, ?_, o'⟩
      · exact Tr.off ((tt.trans t2).trans t3) hD (s3.zs D List.mem_cons_self).1
      · exact SR.off List.mem_cons_self e4 trivial s3
      · rw [upd_same]
        have f1 : (fun j => decide (j ∈ is) || decide (j = z)) = fun j => decide (j ∈ is ++ [z]) := by
          funext j
          rw [← Bool.decide_or]
          exact decide_eq_decide.mpr (by simp)
        have f2 : (if decide (z ∈ is) = true then ds.length else ds.length + 1) = (if z ∈ is then ds else ds ++ [z]).length := by
          by_cases hz : z ∈ is <;> simp [hz]
        rw [f1, f2]
      · by_cases hz : z ∈ is
        · rw [if_pos hz]; exact nd
        · rw [if_neg hz, List.nodup_append]
          exact ⟨nd, by simp, fun a ha b hb q => hz ((mm z).mp (by rw [← List.mem_singleton.mp hb, ← q]; exact ha))⟩
      · intro j
        by_cases hz : z ∈ is
        · rw [if_pos hz, mm j, List.mem_append, List.mem_singleton]
          exact ⟨.inl, fun q => q.elim id fun q => by rw [q]; exact hz⟩
        · rw [if_neg hz, List.mem_append, List.mem_append, mm j]
      · by_cases hz : z ∈ is
        · rw [if_pos hz]; omega
        · rw [if_neg hz, List.length_append]; simp; omega
    · exact ⟨α2, S2, ds, am, is, tt.trans t2, s2, e3, r, nd, mm, by omega, o⟩
  · rintro H' ⟨α', S', ds, am, is, t, s', e1, r, nd, mm, l, o⟩
    rw [List.drop_length] at o
    obtain ⟨_, o⟩ := end_out (call := evalFn Φ k) o
    rw [List.append_nil, r] at o
    obtain ⟨c, o⟩ := Out.when o
    have perm : ds.Perm (dedup is) := (List.perm_ext_iff_of_nodup nd (nodup_dedup is)).mpr fun j => (mm j).trans (mem_dedup is).symm
    have hl : ds.length = (dedup is).length := perm.length_eq
    refine ⟨D, _, _, rfl, e1, by omega, fun ns q sn mn ln hq => ?_⟩
    have same : ns = isort (dedup is) := by
      refine isort_same ?_ (sn.imp fun h => Int.le_of_lt h)
      refine (List.perm_ext_iff_of_nodup (sn.imp fun h => Int.ne_of_lt h) (nodup_dedup is)).mpr fun j => ?_
      rw [mn j, mem_dedup]
      exact decide_eq_true_iff
    have sZ : SR X.K Z α' H' S' := s'.sub fun a ha => List.mem_cons_of_mem _ ha
    rw [same]
    have o2 : Out X.K Z X.mg E (mkL al ((isort (dedup is)).map M.int) S') α' H' (PM X.K Z Q) := Out.tr t o
    exact Out.mkL sZ (RepL.of_ints _) hq o2
end
end Mi

namespace Mi
open PySem PySem.Spec L2

section
variable {Φ : String → Option Fn}
/-- a test that is no name of a value's truth -/
def isBo : Expr → Bool
  | .BoolOp .. => true
  | _ => false
def tOdd : Expr → Bool
  | .UnaryOp .Not _ _ => true
  | .BoolOp .. => true
  | .IfExp .. => true
  | .Compare .. => true
  | _ => false
theorem t_plain {e : Expr} (h : odd e = false) (h' : tOdd e = false) (env : PySem.Env) : ∀ whole, isTrue e env whole = (do let v ← whole; standAt e.pos; holding [v] (truthy v)) := by
  intro whole
  cases e <;> first
    | rfl
    | exact absurd h'.symm Bool.false_ne_true
    | exact absurd h.symm Bool.false_ne_true
    | (rename_i op _ _; cases op <;> first | rfl | exact absurd h'.symm Bool.false_ne_true)
theorem cs_nil {cs : Cs} {x : SX} (h : chkCs Φ cs x [] = true) : cs = .nil := by
  cases cs with
  | nil => rfl
  | cons a r => simp [chkCs] at h
theorem chkC_pos {c : C} {x : SX} {e : Expr} (h : chkC Φ c x e = true) : True := trivial
theorem chkI_odd {it : It'} {x : SX} {t e : Expr} (h : chkI Φ it x t e = true) : odd e = false := by
  cases it with
  | val a => exact chk_odd (show chkC Φ a x e = true from h)
  | range1 a => cases e <;> first | rfl | exact absurd h Bool.false_ne_true
  | range2 a b => cases e <;> first | rfl | exact absurd h Bool.false_ne_true
  | enum a => cases e <;> first | rfl | (cases t <;> exact absurd h Bool.false_ne_true)
theorem PW.of_eq {X : Cx} {e : Expr} {t : TT} (h : PW X e t) : PT X e t := h.pt

set_option maxHeartbeats 1000000 in
mutual
theorem soC : ∀ (c : C) {x : SX} {X : Cx} {CX : CXT} {k : Nat} {E : XK} {e : Expr}, Good Φ x X CX k E → chkC Φ c x e = true → PE X e (rdC X Φ k E c)
  | .var i, x, X, CX, k, E, e, g, h => by
    simp only [chkC] at h
    split at h
    · simp only [Bool.and_eq_true, decide_eq_true_eq] at h
      exact l_var g h.1.1 h.1.2 h.2
    · cases h
  | .con q, x, X, CX, k, E, e, g, h => by
    simp only [chkC] at h
    split at h
    · exact l_con rfl pe_non fun _ _ _ => by simp only [Kon.m, Rep]
    · rw [beq_iff_eq] at h; subst h
      exact l_con rfl pe_bl fun _ _ _ => by simp only [Kon.m, Rep]
    · rw [beq_iff_eq] at h; subst h
      exact l_con rfl pe_int fun _ _ _ => by simp only [Kon.m, Rep]
    · have h := of_decide_eq_true h; subst h
      exact l_con rfl pe_str fun _ _ _ => by simp only [Kon.m, Rep]
    · cases h
  | .tup es, x, X, CX, k, E, e, g, h => by
    simp only [chkC] at h
    split at h
    · exact l_tup (soCs es g h)
    · cases h
  | .lst al es, x, X, CX, k, E, e, g, h => by
    simp only [chkC] at h
    split at h
    · exact l_lst (soCs es g h)
    · cases h
  | .bin al o a b, x, X, CX, k, E, e, g, h => by
    simp only [chkC] at h
    split at h
    · simp only [Bool.and_eq_true, decide_eq_true_eq] at h
      obtain ⟨⟨rfl, ha⟩, hb⟩ := h
      exact l_bin (soC a g ha) (soC b g hb)
    · cases h
  | .neg a, x, X, CX, k, E, e, g, h => by
    simp only [chkC] at h
    split at h
    · exact l_neg (soC a g h)
    · cases h
  | .cmp o a b, x, X, CX, k, E, e, g, h => by
    simp only [chkC] at h
    split at h
    · simp only [Bool.and_eq_true, decide_eq_true_eq] at h
      obtain ⟨⟨rfl, ha⟩, hb⟩ := h
      exact l_cmp (soC a g ha) (soC b g hb) (odd_mark (chk_odd hb) _)
    · cases h
  | .chain o o' a b c, x, X, CX, k, E, e, g, h => by
    simp only [chkC] at h
    split at h
    · simp only [Bool.and_eq_true, decide_eq_true_eq] at h
      obtain ⟨⟨⟨⟨rfl, rfl⟩, ha⟩, hb⟩, hc⟩ := h
      exact l_chain (soC a g ha) (soC b g hb) (soC c g hc) (odd_mark (chk_odd hc) _)
    · cases h
  | .and a b, x, X, CX, k, E, e, g, h => by
    simp only [chkC] at h
    split at h
    · simp only [Bool.and_eq_true] at h
      exact l_and (p' := default) (soC a g h.1) (soC b g h.2)
    · cases h
  | .or a b, x, X, CX, k, E, e, g, h => by
    simp only [chkC] at h
    split at h
    · simp only [Bool.and_eq_true] at h
      exact l_or (p' := default) (soC a g h.1) (soC b g h.2)
    · cases h
  | .one a, x, X, CX, k, E, e, g, h => by
    simp only [chkC] at h
    split at h
    · exact l_one (soC a g h)
    · cases h
  | .not a, x, X, CX, k, E, e, g, h => by
    simp only [chkC] at h
    split at h
    · exact l_not (soC a g h)
    · cases h
  | .ife t a b, x, X, CX, k, E, e, g, h => by
    simp only [chkC] at h
    split at h
    · simp only [Bool.and_eq_true] at h
      exact l_ife (soT t g h.1.1).1 (soC a g h.1.2) (soC b g h.2)
    · cases h
  | .ix a i, x, X, CX, k, E, e, g, h => by
    simp only [chkC] at h
    split at h
    · simp only [Bool.and_eq_true] at h
      exact l_ix (soC a g h.1) (soC i g h.2) (chk_odd h.2)
    · cases h
  | .sl al a lo hi, x, X, CX, k, E, e, g, h => by
    simp only [chkC] at h
    split at h
    · simp only [Bool.and_eq_true] at h
      exact l_sl (soC a g h.1.1) (soO lo g h.1.2) (soO hi g h.2)
    · cases h
  | .rev al a, x, X, CX, k, E, e, g, h => by
    simp only [chkC] at h
    split at h
    · exact l_rev (soC a g h)
    · cases h
  | .call pu f es, x, X, CX, k, E, e, g, h => by
    simp only [chkC] at h
    split at h
    · simp only [Bool.and_eq_true, decide_eq_true_eq] at h
      obtain ⟨⟨⟨⟨hn, hg⟩, hp⟩, hs⟩, ha⟩ := h
      obtain ⟨d, hd⟩ := Option.isSome_iff_exists.mp hs
      exact l_call g hd hn hg hp (soCs es g ha) (chks_odd ha) fun e => by subst e; exact cs_nil ha
    · cases h
  | .callk pu f es qs kes, x, X, CX, k, E, e, g, h => by
    simp only [chkC] at h
    split at h
    · simp only [Bool.and_eq_true, decide_eq_true_eq] at h
      obtain ⟨⟨⟨⟨⟨hn, hg⟩, hp⟩, ha⟩, hk⟩, hs⟩ := h
      split at hs
      · rename_i d hd
        simp only [Bool.and_eq_true, decide_eq_true_eq] at hs
        exact l_callk g hd hn hg hp (soCs es g ha) (chks_odd ha) (fun e => by subst e; exact cs_nil ha) (soK kes g hk) hs.1 hs.2
      · cases hs
    · cases h
  | .bi b es, x, X, CX, k, E, e, g, h => by
    simp only [chkC] at h
    split at h
    · simp only [Bool.and_eq_true, decide_eq_true_eq] at h
      exact l_bi g h.1.1 h.1.2 (soCs es g h.2) (chks_odd h.2)
    · cases h
  | .lrange al es, x, X, CX, k, E, e, g, h => by
    simp only [chkC] at h
    split at h
    · simp only [Bool.and_eq_true, decide_eq_true_eq] at h
      obtain ⟨⟨⟨⟨hn, hg⟩, hm⟩, hgm⟩, ha⟩ := h
      exact l_lrange g hn hg (prg_core g hm hgm (soCs es g ha) (chks_odd ha)) rfl
    · cases h
  | .trange es, x, X, CX, k, E, e, g, h => by
    simp only [chkC] at h
    split at h
    · simp only [Bool.and_eq_true, decide_eq_true_eq] at h
      obtain ⟨⟨⟨⟨hn, hg⟩, hm⟩, hgm⟩, ha⟩ := h
      exact l_trange g hn hg (prg_core g hm hgm (soCs es g ha) (chks_odd ha)) rfl
    · cases h
  | .isi a ts, x, X, CX, k, E, e, g, h => by
    simp only [chkC] at h
    split at h
    · simp only [Bool.and_eq_true, decide_eq_true_eq] at h
      obtain ⟨⟨⟨hn, hg⟩, ha⟩, hc⟩ := h
      split at hc
      · simp only [Bool.and_eq_true, decide_eq_true_eq] at hc
        exact l_isiT g hn hg (soC a g ha) (chk_odd ha) hc.1 hc.2
      · unfold chkTy at hc
        split at hc
        · rename_i q; cases q
        · rename_i q
          cases q
          simp only [Bool.and_eq_true, decide_eq_true_eq] at hc
          obtain ⟨⟨⟨e1, e2⟩, e3⟩, e4⟩ := hc
          unfold chkTy at e4
          split at e4
          · exact l_isi1 g hn hg (soC a g ha) (chk_odd ha) e1 e2 e3
          · rename_i q; cases q
          · cases e4
        · cases hc
    · cases h
  | .meth m o es, x, X, CX, k, E, e, g, h => by
    simp only [chkC] at h
    split at h
    · simp only [Bool.and_eq_true, decide_eq_true_eq] at h
      obtain ⟨⟨⟨⟨⟨hn, hb⟩, hl⟩, h8⟩, ho⟩, ha⟩ := h
      subst hn
      exact l_meth hb hl h8 (soC o g ho) (soCs es g ha) (chks_odd ha) fun e => by subst e; exact cs_nil ha
    · cases h
  | .lc al tg it ifs el own, x, X, CX, k, E, e, g, h => by
    simp only [chkC] at h
    split at h
    · rename_i v t i ts sc pos
      simp only [Bool.and_eq_true] at h
      obtain ⟨⟨⟨⟨⟨hb, hs⟩, htg⟩, hi⟩, hf⟩, he⟩ := h
      have hbk : blkC X.N X.env.scope sc (ownP x.N own) = true := by rw [g.eN, g.eS]; exact hb
      refine PE.wk (pe_lc (wi := rdI X Φ k E it) (g := rdG X.K tg) (tt := rdF X Φ k E00 ifs) (te := rdC X Φ k E00 el) g.calm g.nd (soI it g hi) (blkOk_by hbk) (fun s H C cl fp => l_tg (g.blk s H C cl fp _) htg) (fun s H C cl fp => soF ifs (g.blk s H C cl fp _) hf) (fun s H C cl fp => soC el (g.blk s H C cl fp _) he) (fun z => odd_fold (chkI_odd hi) _ z)) ?_
      intro σ H Q hq
      rw [own_snd]
      exact l_lc (p := default) g hb hs (soI it g hi) (.inl (chkI_odd hi)) (fun s H C cl fp => l_tg (g.blk s H C cl fp _) htg) (fun s H C cl fp => soF ifs (g.blk s H C cl fp _) hf) (fun s H C cl fp => soC el (g.blk s H C cl fp _) he) σ H Q hq
    · cases h
  | .ssc al tg it ifs el own, x, X, CX, k, E, e, g, h => by
    simp only [chkC] at h
    split at h
    · simp only [Bool.and_eq_true, decide_eq_true_eq] at h
      obtain ⟨⟨⟨⟨⟨⟨⟨hn, hgl⟩, hb⟩, hs⟩, htg⟩, hi⟩, hf⟩, he⟩ := h
      exact l_ssc g hn hgl hb hs (soI it g hi) (fun z => odd_fold (chkI_odd hi) _ z) (fun s H C cl fp => l_tg (g.blk s H C cl fp _) htg) (fun s H C cl fp => soF ifs (g.blk s H C cl fp _) hf) (fun s H C cl fp => soC el (g.blk s H C cl fp _) he)
    · cases h
termination_by structural c => c
theorem soT : ∀ (c : T) {x : SX} {X : Cx} {CX : CXT} {k : Nat} {E : XK} {e : Expr}, Good Φ x X CX k E → chkT Φ c x e = true → PT X e (rdT X Φ k E c) ∧ (isBo e = true → PW X e (rdT X Φ k E c))
  | .v c, x, X, CX, k, E, e, g, h => by
    simp only [chkT] at h
    split at h
    · cases h
    · cases h
    · cases h
    · rename_i n1 n2 n3
      have hbo : isBo e = false := by
        cases e <;> first | rfl | exact absurd rfl (n2 _ _ _)
      refine ⟨?_, fun q => by rw [hbo] at q; cases q⟩
      have ho := chk_odd h
      cases ht : tOdd e with
      | false => exact l_tv (soC c g h) (t_plain ho ht _)
      | true =>
        cases e <;> first
          | exact absurd ht Bool.false_ne_true
          | exact absurd rfl (n2 _ _ _)
          | exact absurd rfl (n3 _ _ _ _)
          | skip
        · rename_i op _ _
          cases op <;> first | exact absurd rfl (n1 _ _) | exact absurd ht Bool.false_ne_true
        · cases c <;> first
            | (simp only [chkC] at h; done)
            | skip
          all_goals first
            | (exfalso; simp only [chkC] at h; exact Bool.false_ne_true h)
            | skip
          · rename_i o a b
            simp only [chkC] at h
            split at h
            · rename_i q
              cases q
              simp only [Bool.and_eq_true, decide_eq_true_eq] at h
              obtain ⟨⟨rfl, ha⟩, hb⟩ := h
              exact l_tcmp (soC a g ha) (soC b g hb) (odd_mark (chk_odd hb) _)
            · cases h
          · simp only [chkC] at h
            split at h
            · rename_i q
              cases q
              simp only [Bool.and_eq_true, decide_eq_true_eq] at h
              obtain ⟨⟨⟨⟨rfl, rfl⟩, ha⟩, hb⟩, hc⟩ := h
              exact l_tchain (soC _ g ha) (soC _ g hb) (soC _ g hc) (odd_mark (chk_odd hc) _)
            · cases h
  | .and a b, x, X, CX, k, E, e, g, h => by
    simp only [chkT] at h
    split at h
    · simp only [Bool.and_eq_true] at h
      have q := l_tand (p := _) (soT a g h.1).1 ((soT b g h.2).2 rfl)
      exact ⟨q.pt, fun _ => q⟩
    · cases h
  | .or a b, x, X, CX, k, E, e, g, h => by
    simp only [chkT] at h
    split at h
    · simp only [Bool.and_eq_true] at h
      have q := l_tor (p := _) (soT a g h.1).1 ((soT b g h.2).2 rfl)
      exact ⟨q.pt, fun _ => q⟩
    · cases h
  | .one a, x, X, CX, k, E, e, g, h => by
    simp only [chkT] at h
    split at h
    · rename_i op l pos
      have q := l_tone (o := op) (p := pos) (soT a g h).1
      exact ⟨q.pt, fun _ => q⟩
    · cases h
  | .not a, x, X, CX, k, E, e, g, h => by
    simp only [chkT] at h
    split at h
    · exact ⟨l_tnot (soT a g h).1, fun q => by cases q⟩
    · cases h
termination_by structural c => c
theorem soCs : ∀ (c : Cs) {x : SX} {X : Cx} {CX : CXT} {k : Nat} {E : XK} {l : List Expr}, Good Φ x X CX k E → chkCs Φ c x l = true → PA X l (rdCs X Φ k E c)
  | .nil, x, X, CX, k, E, l, g, h => by
    cases l with
    | nil => exact l_nil
    | cons e es => simp [chkCs] at h
  | .cons a r, x, X, CX, k, E, l, g, h => by
    cases l with
    | nil => simp [chkCs] at h
    | cons e es =>
      simp only [chkCs, Bool.and_eq_true] at h
      exact l_cons (soC a g h.1) (soCs r g h.2) (chk_odd h.1)
termination_by structural c => c
theorem soK : ∀ (c : Cs) {x : SX} {X : Cx} {CX : CXT} {k : Nat} {E : XK} {l : List Keyword}, Good Φ x X CX k E → chkK Φ c x l = true → PK X l (rdCs X Φ k E c)
  | .nil, x, X, CX, k, E, l, g, h => by
    cases l with
    | nil => exact l_knil
    | cons e es => simp [chkK] at h
  | .cons a r, x, X, CX, k, E, l, g, h => by
    simp only [chkK] at h
    split at h
    · simp only [Bool.and_eq_true] at h
      exact l_kcons (soC a g h.1) (soK r g h.2)
    · cases h
termination_by structural c => c
theorem soO : ∀ (c : Co) {x : SX} {X : Cx} {CX : CXT} {k : Nat} {E : XK} {o : Option Expr}, Good Φ x X CX k E → chkO Φ c x o = true → PO X o (rdO X Φ k E c)
  | .no, x, X, CX, k, E, o, g, h => by
    cases o with
    | none => exact l_no
    | some e => simp [chkO] at h
  | .so a, x, X, CX, k, E, o, g, h => by
    cases o with
    | none => simp [chkO] at h
    | some e => exact l_so (soC a g (by simpa only [chkO] using h))
termination_by structural c => c
theorem soF : ∀ (c : To) {x : SX} {X : Cx} {CX : CXT} {k : Nat} {E : XK} {l : List Expr}, Good Φ x X CX k E → chkF Φ c x l = true → PTs X l (rdF X Φ k E c)
  | .no, x, X, CX, k, E, l, g, h => by
    cases l with
    | nil => exact l_fno
    | cons e es => simp [chkF] at h
  | .so a, x, X, CX, k, E, l, g, h => by
    simp only [chkF] at h
    split at h
    · exact l_fso (soT a g h).1
    · cases h
termination_by structural c => c
theorem soI : ∀ (c : It') {x : SX} {X : Cx} {CX : CXT} {k : Nat} {E : XK} {t e : Expr}, Good Φ x X CX k E → chkI Φ c x t e = true → PI X t e (rdI X Φ k E c)
  | .val a, x, X, CX, k, E, t, e, g, h => l_ival (soC a g (by simpa only [chkI] using h))
  | .range1 a, x, X, CX, k, E, t, e, g, h => by
    simp only [chkI] at h
    split at h
    · simp only [Bool.and_eq_true, decide_eq_true_eq] at h
      exact l_irange1 g h.1.1 h.1.2 (soC a g h.2) (chk_odd h.2)
    · cases h
  | .range2 a b, x, X, CX, k, E, t, e, g, h => by
    simp only [chkI] at h
    split at h
    · simp only [Bool.and_eq_true, decide_eq_true_eq] at h
      exact l_irange2 g h.1.1.1 h.1.1.2 (soC a g h.1.2) (soC b g h.2) (chk_odd h.1.2) (chk_odd h.2)
    · cases h
  | .enum a, x, X, CX, k, E, t, e, g, h => by
    simp only [chkI] at h
    split at h
    · simp only [Bool.and_eq_true, decide_eq_true_eq] at h
      exact l_ienum g h.1.1 h.1.2 (soC a g h.2) (chk_odd h.2)
    · cases h
termination_by structural c => c
end
end
end Mi

namespace Mi
open PySem PySem.Spec L2 PyProof.Rows

/-! ### statements: the text's check -/
def isLC : Expr → Bool
  | .ListComp .. => true
  | _ => false
def parOk (x : SX) (ts vs : List Expr) : Bool := decide (x.sc.kind = .function) && (match ts, vs with
  | [.Name a pa, .Name b pb], [u, v] => (pb.line == pa.line) && decide (x.sc.names.lookup a = some .local) && decide (x.sc.names.lookup b = some .local) && decide (a ≠ b) && !(foldedForSure 8 u && foldedForSure 8 v) && !(constantsAlone 8 u && constantsAlone 8 v)
  | [.Name a pa, .Name b pb, .Name c pc], [u, v, w] => (pb.line == pa.line) && (pc.line == pa.line) && decide (x.sc.names.lookup a = some .local) && decide (x.sc.names.lookup b = some .local) && decide (x.sc.names.lookup c = some .local) && decide (a ≠ b) && decide (a ≠ c) && decide (b ≠ c) &&
      !(foldedForSure 8 u && foldedForSure 8 v && foldedForSure 8 w) && !(constantsAlone 8 u && constantsAlone 8 v && constantsAlone 8 w)
  | _, _ => false)
def unpOk (v : Expr) : Bool := match v with
  | .Tuple vs _ _ => vs.all (foldedForSure 8)
  | _ => true
section
variable (Φ : String → Option Fn)
mutual
def chkS : Sm → SX → Stmt → Bool
  | .set i e, x, s => match s with
    | .Assign [.Name n _] v _ => chkNm x i (.Name n default) && chkC Φ e x v
    | _ => false
  | .unp l e, x, s => match s with
    | .Assign [.Tuple ts _ _] v _ => chkNms x l ts && chkC Φ e x v && unpOk v
    | _ => false
  | .par l es, x, s => match s with
    | .Assign [.Tuple ts _ _] (.Tuple vs _ _) _ => chkNms x l ts && chkCs Φ es x vs && parOk x ts vs
    | _ => false
  | .seti o i e, x, s => match s with
    | .Assign [.Subscript a b _] v _ => chkC Φ o x a && chkC Φ i x b && chkC Φ e x v
    | _ => false
  | .augi op o i e, x, s => match s with
    | .AugAssign (.Subscript a b _) q v _ => decide (q = op.op) && chkC Φ o x a && chkC Φ i x b && chkC Φ e x v
    | _ => false
  | .aug op i e, x, s => match s with
    | .AugAssign (.Name n _) q v _ => decide (q = op.op) && chkNm x i (.Name n default) && chkC Φ e x v
    | _ => false
  | .exp e, x, s => match s with
    | .Expr v _ => !isLC v && chkC Φ e x v
    | _ => false
  | .ret e, x, s => match s with
    | .Return (some v) _ => chkC Φ e x v
    | _ => false
  | .retN, x, s => match s with
    | .Return none _ => true
    | _ => false
  | .ife t a b, x, s => match s with
    | .If c p q _ => chkT Φ t x c && chkSs a x p && chkSs b x q
    | _ => false
  | .for_ tg it b, x, s => match s with
    | .For t i p [] _ => chkTg x tg t && chkI Φ it x t i && chkSs b x p
    | _ => false
  | .while_ t b, x, s => match s with
    | .While c p [] _ => chkT Φ t x c && chkSs b x p
    | _ => false
  | .brk, x, s => match s with
    | .Break _ => true
    | _ => false
  | .cnt, x, s => match s with
    | .Continue _ => true
    | _ => false
  | .pass, x, s => match s with
    | .Pass _ => true
    | _ => false
termination_by structural c => c
def chkSs : Sms → SX → List Stmt → Bool
  | .nil, _, l => match l with
    | [] => true
    | _ => false
  | .cons a r, x, l => match l with
    | s :: ss => chkS a x s && chkSs r x ss
    | _ => false
termination_by structural c => c
end
end

/-! ### meaning -/
section
variable {K : PySem.W.Frag} {mg : Str → Option Value} {E : XK}
def PF (K : PySem.W.Frag) (Z : List Addr) (D : Ends) : F → Store → List Addr → Hp → Prop := fun f _ α H => match f with
  | .nx γ => ∀ σ, ER K Z α H γ σ → D.nx σ H
  | .ret m => ∀ v, Rep K Z α H m v → D.rt v H
  | .brk γ => ∀ σ, ER K Z α H γ σ → D.bk σ H
  | .cnt γ => ∀ σ, ER K Z α H γ σ → D.ct σ H
def tF (K : PySem.W.Frag) (mg : Str → Option Value) (E : XK) (e : Env → Store → R F) : TS := fun D σ H => tR K mg E e σ H fun Z => PF K Z D
end
section
variable {Φ : String → Option Fn} {x : SX} {X : Cx} {CX : CXT} {k : Nat} {E : XK}
abbrev rdS (X : Cx) (Φ : String → Option Fn) (k : Nat) (E : XK) (c : Sm) : TS := tF X.K X.mg E (ex (evalFn Φ k) c)
abbrev rdSs (X : Cx) (Φ : String → Option Fn) (k : Nat) (E : XK) (c : Sms) : TS := tF X.K X.mg E (exs (evalFn Φ k) c)
structure GoodS (Φ : String → Option Fn) (x : SX) (X : Cx) (CX : CXT) (k : Nat) (E : XK) : Prop where
  g : Good Φ x X CX k E
  own : PassesOwn (model X.prog X.w) X.A X.env X.xe
  kind : X.env.scope.kind = .function

theorem set_wk {i : Nat} {e : C} : ∀ D σ H, rdS X Φ k E (.set i e) D σ H → rdC X Φ k E e σ H fun v H1 => gName i v σ H1 D.nx := by
  rintro D σ H ⟨Z, α, S, γ, s, er, h⟩
  simp only [ex] at h
  refine ⟨Z, α, S, γ, s, er, h.bind.imp fun m S1 α1 H1 t1 s1 h v rv => ?_⟩
  exact h.now s1 _ ((er.tr s.muts t1).set rv)
theorem nm_of {i : Nat} {n : Str} {p : Pos} (g : Good Φ x X CX k E) (h : chkNm x i (.Name n p) = true) : X.N[i]? = some n ∧ L2.Loc X.env.scope n ∧ (X.fn n = true ∨ X.env.scope.names.lookup n = some .local) := by
  unfold chkNm at h
  simp only [Bool.and_eq_true, decide_eq_true_eq] at h
  exact ⟨by rw [g.eN]; exact h.1, (g.loc h.2).1, (g.loc h.2).2⟩
theorem sw_no {c : C} {v : Expr} {t : Option Expr} {n : Nat} {env : PySem.Env} (h : chkC Φ c x v = true) (hl : isLC v = false) : swapsWith v t n env = pure false := by
  cases v <;> first
    | rfl
    | exact absurd hl.symm Bool.false_ne_true
    | (exfalso; cases c <;> first | exact Bool.false_ne_true h | (rename_i q; cases q <;> exact Bool.false_ne_true h))
theorem sw_sub {c : C} {v a b : Expr} {p : Pos} {n : Nat} {env : PySem.Env} (h : chkC Φ c x v = true) : swapsWithSole [.Subscript a b p] v n env = pure false := by
  cases v <;> rfl
theorem sw_tup {v : Expr} {ts : List Expr} {j : Nat} {p : Pos} {n : Nat} {env : PySem.Env} : swapsWithSole [.Tuple ts j p] v n env = pure false := by
  cases v <;> rfl
theorem ss_sub {v a b : Expr} {p : Pos} {env : PySem.Env} : swappedStores [.Subscript a b p] v env = pure none := by
  cases v <;> rfl
theorem ss_tup {v : Expr} {ts : List Expr} {j : Nat} {p : Pos} {env : PySem.Env} (h : unpOk v = true) : swappedStores [.Tuple ts j p] v env = pure none := by
  cases v <;> first
    | rfl
    | (have h' : List.all _ (foldedForSure 8) = true := h
       simp [swappedStores, h'])
theorem ss_2 {a b : Str} {u v : Expr} {pa pb pt p2 : Pos} {kt k2 : Nat} {env : PySem.Env} (hk' : env.blockKind = .function) (hu : odd u = false) (hv : odd v = false) (hl : (pb.line == pa.line) = true) (ha : env.scope.names.lookup a = some .local) (hb : env.scope.names.lookup b = some .local) (hab : a ≠ b)
    (hf : (foldedForSure 8 u && foldedForSure 8 v) = false) (hc : (constantsAlone 8 u && constantsAlone 8 v) = false) : swappedStores [.Tuple [.Name a pa, .Name b pb] kt pt] (.Tuple [u, v] k2 p2) env = pure (some [a, b]) := by
  have nu : ∀ e : Expr, odd e = false → ∀ a p, e ≠ .Starred a p := fun e h a p q => by rw [q] at h; exact Bool.false_ne_true h.symm
  have e1 : env.kindOf a = some .local := ha
  have e2 : env.kindOf b = some .local := hb
  have e3 : env.blockKind = .function := hk'
  have lb : pb.line = pa.line := by simpa using hl
  have hba : (b == a) = false := by simpa using Ne.symm hab
  unfold swappedStores
  simp [e1, e2, e3, lb, hf, hc, hab, hba, Expr.pos, List.eraseDups, List.eraseDupsBy, List.eraseDupsBy.loop, List.filterMap_cons]
  rintro (h | h) <;> (split at h <;> first | (exact absurd rfl (nu _ hu _ _)) | (exact absurd rfl (nu _ hv _ _)) | cases h)
theorem ss_3 {a b c : Str} {u v w : Expr} {pa pb pc pt p2 : Pos} {kt k2 : Nat} {env : PySem.Env} (hk' : env.blockKind = .function) (hu : odd u = false) (hv : odd v = false) (hw : odd w = false) (hl : (pb.line == pa.line) = true) (hl' : (pc.line == pa.line) = true)
    (ha : env.scope.names.lookup a = some .local) (hb : env.scope.names.lookup b = some .local) (hc : env.scope.names.lookup c = some .local) (hab : a ≠ b) (hac : a ≠ c) (hbc : b ≠ c)
    (hf : (foldedForSure 8 u && foldedForSure 8 v && foldedForSure 8 w) = false) (hq : (constantsAlone 8 u && constantsAlone 8 v && constantsAlone 8 w) = false) : swappedStores [.Tuple [.Name a pa, .Name b pb, .Name c pc] kt pt] (.Tuple [u, v, w] k2 p2) env = pure (some [a, b, c]) := by
  have nu : ∀ e : Expr, odd e = false → ∀ a p, e ≠ .Starred a p := fun e h a p q => by rw [q] at h; exact Bool.false_ne_true h.symm
  have e1 : env.kindOf a = some .local := ha
  have e2 : env.kindOf b = some .local := hb
  have e4 : env.kindOf c = some .local := hc
  have e3 : env.blockKind = .function := hk'
  have lb : pb.line = pa.line := by simpa using hl
  have lc : pc.line = pa.line := by simpa using hl'
  have hba : (b == a) = false := by simpa using Ne.symm hab
  have hca : (c == a) = false := by simpa using Ne.symm hac
  have hcb : (c == b) = false := by simpa using Ne.symm hbc
  unfold swappedStores
  simp [e1, e2, e3, e4, lb, lc, hf, hq, hab, hba, hca, hcb, Expr.pos, List.eraseDups, List.eraseDupsBy, List.eraseDupsBy.loop, List.filterMap_cons]
  have hf' : ¬ (foldedForSure 8 u = true ∧ foldedForSure 8 v = true ∧ foldedForSure 8 w = true) := fun q => by rw [q.1, q.2.1, q.2.2] at hf; cases hf
  have hq' : ¬ (constantsAlone 8 u = true ∧ constantsAlone 8 v = true ∧ constantsAlone 8 w = true) := fun q => by rw [q.1, q.2.1, q.2.2] at hq; cases hq
  rw [if_neg ?_, if_neg hf', if_neg hq']
  rintro (h | h | h) <;> (split at h <;> first | (exact absurd rfl (nu _ hu _ _)) | (exact absurd rfl (nu _ hv _ _)) | (exact absurd rfl (nu _ hw _ _)) | cases h)
end
end Mi

namespace Mi
open PySem PySem.Spec L2 PyProof.Rows

/-! ### small parts -/
def rAug : Bop → TIp
  | .add => ipI fun i j => i + j
  | .sub => ipI fun i j => i - j
  | _ => fun _ _ _ _ => False
theorem ip_aug {X : Cx} (o : Bop) : PIp X o.op (rAug o) := by
  cases o <;> first
    | exact ip_add
    | exact ip_sub
    | exact fun _ _ _ _ _ _ _ _ _ _ _ _ h => False.elim h
/-- xs[i] of a list, by values -/
def rGetL : V → V → Hp → VK → Prop := fun o i H Q => ∃ a xs k y, o = .ref a ∧ i = .int k ∧ H a = some (.lst xs) ∧ atI xs k = some y ∧ Q y H
theorem get_list {X : Cx} : PGet X rGetL := by
  intro pins s σ H o i ov iv Q I ro ri h
  obtain ⟨a, xs, k, y, rfl, rfl, ha, hk, q⟩ := h
  cases ro
  obtain ⟨t, rfl⟩ := ri
  obtain ⟨its, n, r, ho, hz⟩ := I.lst ha
  have isL : s.heap.IsList a its.toArray := ⟨_, ho, rfl, n, rfl⟩
  obtain ⟨j, h1, h2, h3, h4, h5⟩ := atI_get hk
  obtain ⟨w, ew, rw'⟩ := r.get h2
  have hl := r.length
  have hn := line63
  have fin : EP X pins σ Q w s := ⟨y, H, I, rw', q⟩
  by_cases h0 : 0 ≤ k
  · have hj : k.toNat = j := by
      rw [seqIndex_of h0 h5] at h1
      exact Option.some.inj h1
    exact wpAny_getItem_list isL h0 (by omega) (by rw [hj]; simpa using ew) fin
  · have hj : (k + (its.toArray.size : Int)).toNat = j := by
      rw [seqIndex_neg (by omega) h4] at h1
      rw [List.size_toArray, ← hl]
      exact Option.some.inj h1
    exact wpAny_getItem_list_neg isL (by omega) (by rw [List.size_toArray] <;> omega) (by omega) (by rw [hj]; simpa using ew) fin
section
variable {K : PySem.W.Frag} {mg : Str → Option Value} {E : XK} {Z α : List Addr} {H : Hp} {S : Store} {Q : VK}
theorem aug_out {o : Bop} {m n : M} {x y : V} (s : SR K Z α H S) (rx : Rep K Z α H m x) (ry : Rep K Z α H n y) (h : Out K Z mg E (augop o m n S) α H (PM K Z Q)) : rAug o x y H Q := by
  unfold augop at h
  split at h
  · exact ⟨_, _, rep_int rx, rep_int ry, out_int s h⟩
  · exact ⟨_, _, rep_int rx, rep_int ry, out_int s h⟩
  · exact False.elim h
theorem ixl_out {m n : M} {x y : V} (s : SR K Z α H S) (rx : Rep K Z α H m x) (ry : Rep K Z α H n y) (h : Out K Z mg E (ixlop m n S) α H (PM K Z Q)) : rGetL x y H Q := by
  unfold ixlop at h
  split at h
  · obtain ⟨ms, e1, h⟩ := h.of
    obtain ⟨m, e2, h⟩ := h.of
    obtain ⟨a, xs, rfl, hs, r⟩ := lst_rep s rx e1
    obtain ⟨v, e3, rv⟩ := atI_rep r e2
    exact ⟨a, xs, _, v, rfl, rep_int ry, hs, e3, out_val s rv h⟩
  · exact False.elim h
end
section
variable {Φ : String → Option Fn} {x : SX} {X : Cx} {CX : CXT} {k : Nat} {E : XK}
theorem par_nms {l : List Nat} {es : List Expr} (g : Good Φ x X CX k E) (h : chkNms x l es = true) : l.length = es.length := by
  induction l generalizing es with
  | nil => cases es with
    | nil => rfl
    | cons e es => unfold chkNms at h; cases h
  | cons i l ih =>
    cases es with
    | nil => unfold chkNms at h; cases h
    | cons e es =>
      unfold chkNms at h
      simp only [Bool.and_eq_true] at h
      rw [List.length_cons, List.length_cons, ih h.2]
theorem nm_of' {i : Nat} {n : Str} {p : Pos} (g : Good Φ x X CX k E) (h : chkNm x i (.Name n p) = true) : X.N[i]? = some n := (nm_of g h).1
theorem ix_ne {N : List Str} {i j : Nat} {a b : Str} (h1 : N[i]? = some a) (h2 : N[j]? = some b) (h : a ≠ b) : i ≠ j := fun q => h (by rw [q, h2] at h1; exact (Option.some.inj h1).symm)
theorem l_par {l : List Nat} {es : Cs} {ts vs : List Expr} {j j2 : Nat} {tp vp pos : Pos} (g : GoodS Φ x X CX k E) (hn : chkNms x l ts = true) (hc : chkCs Φ es x vs = true) (hp : parOk x ts vs = true) : PS X (.Assign [.Tuple ts j tp] (.Tuple vs j2 vp) pos) (rdS X Φ k E (.par l es)) := by
  have gg := g.g
  unfold parOk at hp
  simp only [Bool.and_eq_true, decide_eq_true_eq] at hp
  obtain ⟨hk, hp⟩ := hp
  have hbk : X.env.blockKind = .function := by unfold Env.blockKind; rw [g.kind]; rfl
  have odd := chks_odd hc
  have sc := gg.eS
  split at hp
  · rename_i a pa b pb u v
    simp only [Bool.and_eq_true, decide_eq_true_eq, Bool.not_eq_true'] at hp
    obtain ⟨⟨⟨⟨⟨hl, ha⟩, hb⟩, hab⟩, hf⟩, hq⟩ := hp
    have hlen := par_nms gg hn
    obtain ⟨i1, i2, rfl⟩ : ∃ i1 i2, l = [i1, i2] := by
      match l, hlen with
      | [i1, i2], _ => exact ⟨i1, i2, rfl⟩
    unfold chkNms at hn
    simp only [Bool.and_eq_true] at hn
    obtain ⟨h1, hn⟩ := hn
    unfold chkNms at hn
    simp only [Bool.and_eq_true] at hn
    have n1 := nm_of' gg h1
    have n2 := nm_of' gg hn.1
    refine PS.wk (ps_par gg.calm gg.nd n1 n2 (ix_ne n1 n2 hab) (by rw [sc]; exact ha) (by rw [sc]; exact hb) (soCs es gg hc) (ss_2 hbk (odd u (by simp)) (odd v (by simp)) hl (by rw [sc]; exact ha) (by rw [sc]; exact hb) hab hf hq)) ?_
    rintro D σ H ⟨Z, α, S, γ, s, er, h⟩
    simp only [ex] at h
    refine ⟨Z, α, S, γ, s, er, h.bind.imp fun ms S1 α1 H1 t1 s1 h vs r => ?_⟩
    obtain ⟨c, h⟩ := h.when
    obtain ⟨m1, m2, rfl⟩ : ∃ m1 m2, ms = [m1, m2] := by
      match ms, c with
      | [m1, m2], _ => exact ⟨m1, m2, rfl⟩
    obtain ⟨y, z, rfl, r1, r2⟩ := repl2 r
    exact ⟨y, z, rfl, h.now s1 _ (ER.setAll (er.tr s.muts t1) r)⟩
  · rename_i a pa b pb c pc u v w
    simp only [Bool.and_eq_true, decide_eq_true_eq, Bool.not_eq_true'] at hp
    obtain ⟨⟨⟨⟨⟨⟨⟨⟨⟨hl, hl'⟩, ha⟩, hb⟩, hc'⟩, hab⟩, hac⟩, hbc⟩, hf⟩, hq⟩ := hp
    have hlen := par_nms gg hn
    obtain ⟨i1, i2, i3, rfl⟩ : ∃ i1 i2 i3, l = [i1, i2, i3] := by
      match l, hlen with
      | [i1, i2, i3], _ => exact ⟨i1, i2, i3, rfl⟩
    unfold chkNms at hn
    simp only [Bool.and_eq_true] at hn
    obtain ⟨h1, hn⟩ := hn
    unfold chkNms at hn
    simp only [Bool.and_eq_true] at hn
    obtain ⟨h2, hn⟩ := hn
    unfold chkNms at hn
    simp only [Bool.and_eq_true] at hn
    have n1 := nm_of' gg h1
    have n2 := nm_of' gg h2
    have n3 := nm_of' gg hn.1
    refine PS.wk (ps_par3 gg.calm gg.nd n1 n2 n3 (ix_ne n1 n2 hab) (ix_ne n1 n3 hac) (ix_ne n2 n3 hbc) (by rw [sc]; exact ha) (by rw [sc]; exact hb) (by rw [sc]; exact hc') (soCs es gg hc) (ss_3 hbk (odd u (by simp)) (odd v (by simp)) (odd w (by simp)) hl hl' (by rw [sc]; exact ha) (by rw [sc]; exact hb) (by rw [sc]; exact hc') hab hac hbc hf hq)) ?_
    rintro D σ H ⟨Z, α, S, γ, s, er, h⟩
    simp only [ex] at h
    refine ⟨Z, α, S, γ, s, er, h.bind.imp fun ms S1 α1 H1 t1 s1 h vs r => ?_⟩
    obtain ⟨c, h⟩ := h.when
    obtain ⟨m1, m2, m3, rfl⟩ : ∃ m1 m2 m3, ms = [m1, m2, m3] := by
      match ms, c with
      | [m1, m2, m3], _ => exact ⟨m1, m2, m3, rfl⟩
    have r' := r
    simp only [RepL] at r'
    obtain ⟨y, _, rfl, r1, z, _, rfl, r2, w', _, rfl, r3, rfl⟩ := r'
    exact ⟨y, z, w', rfl, h.now s1 _ (ER.setAll (er.tr s.muts t1) r)⟩
  · cases hp
/-- name = value -/
theorem l_set {i : Nat} {e : C} {n : Str} {p pos : Pos} {v : Expr} (g : GoodS Φ x X CX k E) (hn : chkNm x i (.Name n p) = true) (he : chkC Φ e x v = true) : PS X (.Assign [.Name n p] v pos) (rdS X Φ k E (.set i e)) := by
  have gg := g.g
  have hbk : X.env.blockKind = .function := by unfold Env.blockKind; rw [g.kind]; rfl
  obtain ⟨h1, h2, h3⟩ := nm_of gg hn
  cases hl : isLC v with
  | false => exact PS.wk (ps_set gg.nd h1 h2 (soC e gg he) (sw_no he hl) h3) set_wk
  | true =>
    cases v <;> first | exact absurd hl Bool.false_ne_true | skip
    rename_i el gens scope lp
    cases hs : (X.env.blockKind == .function && X.env.kindOf n == some .local && p.line == lp.line && !(scope.names.any fun (m, q) => m == n && (q == .local || q == .cell))) with
    | false =>
      refine PS.wk (ps_set gg.nd h1 h2 (soC e gg he) ?_ h3) set_wk
      show pure _ = pure false
      rw [← hs]; rfl
    | true =>
      have hloc : X.env.scope.names.lookup n = some .local := by
        simp only [Bool.and_eq_true] at hs
        exact eq_of_beq hs.1.1.2
      have hsw : ∀ gens, swapsWith (.ListComp el gens scope lp) (some (.Name n p)) pos.line X.env = pure true := fun gens => by
        show pure _ = pure true
        rw [← hs]; rfl
      cases e <;> first
        | (exfalso; exact Bool.false_ne_true he)
        | (exfalso; rename_i q; cases q <;> exact Bool.false_ne_true he)
        | skip
      rename_i al tg it ifs ee own
      simp only [chkC] at he
      split at he
      · rename_i heq
        cases heq
        simp only [Bool.and_eq_true] at he
        obtain ⟨⟨⟨⟨⟨hb, hs'⟩, htg⟩, hi⟩, hf⟩, he⟩ := he
        have hbk' : blkC X.N X.env.scope scope (ownP x.N own) = true := by rw [gg.eN, gg.eS]; exact hb
        refine PS.wk (ps_setLc (wi := rdI X Φ k E it) (g := rdG X.K tg) (tt := rdF X Φ k E00 ifs) (te := rdC X Φ k E00 ee) gg.calm gg.nd h1 hloc (hsw _) (soI it gg hi) (blkOk_by hbk') (fun s H C cl fp => l_tg (gg.blk s H C cl fp _) htg) (fun s H C cl fp => soF ifs (gg.blk s H C cl fp _) hf) (fun s H C cl fp => soC ee (gg.blk s H C cl fp _) he) (fun z => odd_fold (chkI_odd hi) _ z)) ?_
        intro D σ H hq
        have hq' := set_wk D σ H hq
        show tLc _ _ _ _ _ σ H _
        rw [own_snd]
        exact l_lc (p := default) gg hb hs' (soI it gg hi) (.inl (chkI_odd hi)) (fun s H C cl fp => l_tg (gg.blk s H C cl fp _) htg) (fun s H C cl fp => soF ifs (gg.blk s H C cl fp _) hf) (fun s H C cl fp => soC ee (gg.blk s H C cl fp _) he) σ H _ hq'
      · cases he
end
end Mi

namespace Mi
open PySem PySem.Spec L2 PyProof.Rows

section
variable {Φ : String → Option Fn} {x : SX} {X : Cx} {CX : CXT} {k : Nat} {E : XK}
theorem l_unp {l : List Nat} {e : C} {ts : List Expr} {v : Expr} {j : Nat} {tp pos : Pos} (g : GoodS Φ x X CX k E) (hn : chkNms x l ts = true) (he : PE X v (rdC X Φ k E e)) (hu : unpOk v = true) : PS X (.Assign [.Tuple ts j tp] v pos) (rdS X Φ k E (.unp l e)) := by
  refine PS.wk (ps_asg he (l_tg (tg := .tu l) g.g hn) sw_tup (ss_tup hu)) ?_
  rintro D σ H ⟨Z, α, S, γ, s, er, h⟩
  simp only [ex] at h
  refine ⟨Z, α, S, γ, s, er, h.bind.imp fun m S1 α1 H1 t1 s1 h v rv => ?_⟩
  obtain ⟨γ1, e1, h⟩ := h.of
  exact tg_out (er.tr s.muts t1) rv e1 fun σ1 er1 _ => h.now s1 _ er1
theorem l_seti {o i e : C} {a b v : Expr} {sp pos : Pos} (ho : PE X a (rdC X Φ k E o)) (hi : PE X b (rdC X Φ k E i)) (ob : odd b = false) (he : PE X v (rdC X Φ k E e)) (hv : swapsWithSole [.Subscript a b sp] v pos.line X.env = pure false) :
    PS X (.Assign [.Subscript a b sp] v pos) (rdS X Φ k E (.seti o i e)) := by
  have hb : ∀ v, assign (.Subscript a b sp) X.env v = (do
      let ov ← holding [v] (eval a X.env)
      let iv ← holding [v, ov] (eval b X.env)
      standAt sp
      holding [v, ov, iv] (setItem ov iv v)
      release [v, ov, iv] []) := by
    intro v
    cases b <;> first | rfl | exact absurd ob.symm Bool.false_ne_true
  refine PS.wk (ps_asg he (pg_sub ho hi set_list hb) hv ss_sub (by rfl)) ?_
  rintro D σ H ⟨Z, α, S, γ, s, er, h⟩
  simp only [ex] at h
  refine ⟨Z, α, S, γ, s, er, h.bind.imp fun m S1 α1 H1 t1 s1 h v rv => ?_⟩
  have er1 := er.tr s.muts t1
  refine ⟨Z, α1, S1, γ, s1, er1, h.bind.imp fun n S2 α2 H2 t2 s2 h u ru => ?_⟩
  have er2 := er1.tr s1.muts t2
  refine ⟨Z, α2, S2, γ, s2, er2, h.bind.imp fun q S3 α3 H3 t3 s3 h w rw' => ?_⟩
  refine seti_out s3 (Rep.tr s2.muts t3 _ _ ru) rw' (Rep.tr s1.muts (t2.trans t3) _ _ rv) (h.bind.imp fun _ S4 α4 H4 t4 s4 h => ?_)
  exact h.now s4 _ ((er2.tr s2.muts t3).tr s3.muts t4)
theorem l_augi {op : Bop} {o i e : C} {a b v : Expr} {sp pos : Pos} (ho : PE X a (rdC X Φ k E o)) (hi : PE X b (rdC X Φ k E i)) (ob : odd b = false) (he : PE X v (rdC X Φ k E e)) :
    PS X (.AugAssign (.Subscript a b sp) op.op v pos) (rdS X Φ k E (.augi op o i e)) := by
  have hb : ∀ ov iv new, augStore b ov iv new = (do holding [new, ov, iv] (setItem ov iv new); release [new, ov, iv] []; pure .next) := by
    intro ov iv new
    cases b <;> first | rfl | exact absurd ob.symm Bool.false_ne_true
  refine PS.wk (ps_augS ho hi get_list he (ip_aug op) set_list hb) ?_
  rintro D σ H ⟨Z, α, S, γ, s, er, h⟩
  simp only [ex] at h
  refine ⟨Z, α, S, γ, s, er, h.bind.imp fun m S1 α1 H1 t1 s1 h v rv => ?_⟩
  have er1 := er.tr s.muts t1
  refine ⟨Z, α1, S1, γ, s1, er1, h.bind.imp fun n S2 α2 H2 t2 s2 h u ru => ?_⟩
  have er2 := er1.tr s1.muts t2
  refine ixl_out s2 (Rep.tr s1.muts t2 _ _ rv) ru (h.bind.imp fun q S3 α3 H3 t3 s3 h w rw' => ?_)
  have er3 := er2.tr s2.muts t3
  refine ⟨Z, α3, S3, γ, s3, er3, h.bind.imp fun z S4 α4 H4 t4 s4 h y ry => ?_⟩
  have er4 := er3.tr s3.muts t4
  refine aug_out s4 (Rep.tr s3.muts t4 _ _ rw') ry (h.bind.imp fun z5 S5 α5 H5 t5 s5 h y5 ry5 => ?_)
  have er5 := er4.tr s4.muts t5
  have t25 := ((t3.trans t4).trans t5)
  refine seti_out s5 (Rep.tr s1.muts (t2.trans t25) _ _ rv) (Rep.tr s2.muts t25 _ _ ru) ry5 (h.bind.imp fun _ S6 α6 H6 t6 s6 h => ?_)
  exact h.now s6 _ (er5.tr s5.muts t6)
theorem l_aug {op : Bop} {i : Nat} {e : C} {n : Str} {v : Expr} {p pos : Pos} (g : GoodS Φ x X CX k E) (hn : chkNm x i (.Name n p) = true) (he : PE X v (rdC X Φ k E e)) : PS X (.AugAssign (.Name n p) op.op v pos) (rdS X Φ k E (.aug op i e)) := by
  obtain ⟨h1, h2, h3⟩ := nm_of g.g hn
  refine PS.wk (ps_aug g.g.nd h1 h2 he (ip_aug op) h3) ?_
  rintro D σ H ⟨Z, α, S, γ, s, er, h⟩
  simp only [ex] at h
  split at h
  · rename_i z ez
    obtain ⟨y, ey, ry⟩ := er.get i z ez
    refine ⟨y, ey, Z, α, S, γ, s, er, h.bind.imp fun m S1 α1 H1 t1 s1 h v rv => ?_⟩
    have er1 := er.tr s.muts t1
    refine aug_out s1 (Rep.tr s.muts t1 _ _ ry) rv (h.bind.imp fun r S2 α2 H2 t2 s2 h u ru => ?_)
    exact h.now s2 _ ((er1.tr s1.muts t2).set ru)
  · exact False.elim h
theorem l_exp {e : C} {v : Expr} {pos : Pos} (he : PE X v (rdC X Φ k E e)) (hs : swapsWith v none pos.line X.env = pure false) : PS X (.Expr v pos) (rdS X Φ k E (.exp e)) := by
  refine PS.wk (ps_expr he hs) ?_
  rintro D σ H ⟨Z, α, S, γ, s, er, h⟩
  simp only [ex] at h
  exact ⟨Z, α, S, γ, s, er, h.bind.imp fun m S1 α1 H1 t1 s1 h v rv => h.now s1 _ (er.tr s.muts t1)⟩
theorem l_ret {e : C} {v : Expr} {pos : Pos} (he : PE X v (rdC X Φ k E e)) : PS X (.Return (some v) pos) (rdS X Φ k E (.ret e)) := by
  refine PS.wk (ps_ret he) ?_
  rintro D σ H ⟨Z, α, S, γ, s, er, h⟩
  simp only [ex] at h
  exact ⟨Z, α, S, γ, s, er, h.bind.imp fun m S1 α1 H1 t1 s1 h v rv => h.now s1 v rv⟩
theorem l_retN {pos : Pos} : PS X (.Return none pos) (rdS X Φ k E .retN) := by
  refine PS.wk ps_retN ?_
  rintro D σ H ⟨Z, α, S, γ, s, er, h⟩
  simp only [ex] at h
  exact h.now s .non (by simp only [Rep])
theorem l_brk {pos : Pos} : PS X (.Break pos) (rdS X Φ k E .brk) := by
  refine PS.wk ps_break ?_
  rintro D σ H ⟨Z, α, S, γ, s, er, h⟩
  simp only [ex] at h
  exact h.now s σ er
theorem l_cnt {pos : Pos} : PS X (.Continue pos) (rdS X Φ k E .cnt) := by
  refine PS.wk ps_continue ?_
  rintro D σ H ⟨Z, α, S, γ, s, er, h⟩
  simp only [ex] at h
  exact h.now s σ er
theorem l_pass {pos : Pos} : PS X (.Pass pos) (rdS X Φ k E .pass) := by
  refine PS.wk ps_pass ?_
  rintro D σ H ⟨Z, α, S, γ, s, er, h⟩
  simp only [ex] at h
  exact h.now s σ er
theorem l_if {t : T} {a b : Sms} {c : Expr} {p q : List Stmt} {pos : Pos} (ht : PT X c (rdT X Φ k E t)) (ha : PSs X p (rdSs X Φ k E a)) (hb : PSs X q (rdSs X Φ k E b)) : PS X (.If c p q pos) (rdS X Φ k E (.ife t a b)) := by
  refine PS.wk (ps_if ht ha hb) ?_
  rintro D σ H ⟨Z, α, S, γ, s, er, h⟩
  simp only [ex] at h
  refine ⟨Z, α, S, γ, s, er, h.bind.imp fun c S1 α1 H1 t1 s1 h => ?_⟩
  cases c with
  | true => exact ⟨Z, α1, S1, γ, s1, er.tr s.muts t1, h⟩
  | false => exact ⟨Z, α1, S1, γ, s1, er.tr s.muts t1, h⟩
theorem l_seq_nil : PSs X [] (rdSs X Φ k E .nil) := by
  refine PSs.wk pss_nil ?_
  rintro D σ H ⟨Z, α, S, γ, s, er, h⟩
  simp only [exs] at h
  exact h.now s σ er
theorem l_seq {a : Sm} {r : Sms} {st : Stmt} {rest : List Stmt} (ha : PS X st (rdS X Φ k E a)) (hr : PSs X rest (rdSs X Φ k E r)) : PSs X (st :: rest) (rdSs X Φ k E (.cons a r)) := by
  refine PSs.wk (pss_cons ha hr) ?_
  rintro D σ H ⟨Z, α, S, γ, s, er, h⟩
  simp only [exs] at h
  refine ⟨Z, α, S, γ, s, er, h.bind.imp fun f S1 α1 H1 t1 s1 h => ?_⟩
  cases f with
  | nx γ1 => exact fun σ1 er1 => ⟨Z, α1, S1, γ1, s1, er1, h⟩
  | ret m => exact Out.now (mg := X.mg) (E := E) s1 (show Out X.K Z X.mg E (.ok (.ret m) S1) α1 H1 (PF X.K Z D) from h)
  | brk γ1 => exact Out.now (mg := X.mg) (E := E) s1 (show Out X.K Z X.mg E (.ok (.brk γ1) S1) α1 H1 (PF X.K Z D) from h)
  | cnt γ1 => exact Out.now (mg := X.mg) (E := E) s1 (show Out X.K Z X.mg E (.ok (.cnt γ1) S1) α1 H1 (PF X.K Z D) from h)
theorem l_while {t : T} {b : Sms} {c : Expr} {p : List Stmt} {pos : Pos} (own : PassesOwn (model X.prog X.w) X.A X.env X.xe) (ht : PT X c (rdT X Φ k E t)) (hb : PSs X p (rdSs X Φ k E b)) : PS X (.While c p [] pos) (rdS X Φ k E (.while_ t b)) := by
  refine PS.wk (ps_while own ht hb) ?_
  rintro D σ H ⟨Z, α, S, γ, s, er, h⟩
  simp only [ex] at h
  refine ⟨fun m σ H => ∃ Z α S γ, SR X.K Z α H S ∧ ER X.K Z α H γ σ ∧ Out X.K Z X.mg E (whileLoop (evT (evalFn Φ k) t) (fun γ S => exs (evalFn Φ k) b γ S) m γ S) α H (PF X.K Z D), ⟨lim, Z, α, S, γ, s, er, h⟩, ?_⟩
  rintro m σ H ⟨Z, α, S, γ, s, er, h⟩
  cases m with
  | zero => exact False.elim h
  | succ m =>
    unfold whileLoop at h
    refine ⟨Z, α, S, γ, s, er, h.bind.imp fun c S1 α1 H1 t1 s1 h => ?_⟩
    have er1 := er.tr s.muts t1
    cases c with
    | false => exact Out.now (mg := X.mg) (E := E) s1 (show Out X.K Z X.mg E (.ok (.nx γ) S1) α1 H1 (PF X.K Z D) from h) σ er1
    | true =>
      refine ⟨fun σ H => ∃ Z α S γ, SR X.K Z α H S ∧ ER X.K Z α H γ σ ∧ Out X.K Z X.mg E (whileLoop (evT (evalFn Φ k) t) (fun γ S => exs (evalFn Φ k) b γ S) m γ S) α H (PF X.K Z D), fun σ' H' w => ⟨m, Nat.lt_succ_self m, w⟩, ?_⟩
      have h' : Out X.K Z X.mg E ((exs (evalFn Φ k) b γ S1).bind _) α1 H1 (PF X.K Z D) := h
      refine ⟨Z, α1, S1, γ, s1, er1, h'.bind.imp fun f S2 α2 H2 t2 s2 h => ?_⟩
      cases f with
      | nx γ2 => exact fun σ2 er2 => ⟨Z, α2, S2, γ2, s2, er2, h⟩
      | cnt γ2 => exact fun σ2 er2 => ⟨Z, α2, S2, γ2, s2, er2, h⟩
      | brk γ2 => exact Out.now (mg := X.mg) (E := E) s2 (show Out X.K Z X.mg E (.ok (.nx γ2) S2) α2 H2 (PF X.K Z D) from h)
      | ret v => exact Out.now (mg := X.mg) (E := E) s2 (show Out X.K Z X.mg E (.ok (.ret v) S2) α2 H2 (PF X.K Z D) from h)
theorem for_ok {s : Src} {f : M → Env → Store → R F} {l : List M} {γ : Env} {S : Store} {K : PySem.W.Frag} {mg : Str → Option Value} {Z α : List Addr} {H : Hp} {P : F → Store → List Addr → Hp → Prop} (h : Out K Z mg E (forLoop s f l γ S) α H P) : s.ok S := by
  by_cases hok : s.ok S
  · exact hok
  · cases l with
    | nil =>
      unfold forLoop at h
      rw [show R.when (s.ok S) _ = .bad from if_neg hok] at h
      exact False.elim h
    | cons m l =>
      unfold forLoop at h
      rw [show R.when (s.ok S) _ = .bad from if_neg hok] at h
      exact False.elim h
theorem l_for {tg : Tg} {it : It'} {b : Sms} {t i : Expr} {p : List Stmt} {pos : Pos} (g : GoodS Φ x X CX k E) (hg : PG X t (rdG X.K tg)) (hi : PI X t i (rdI X Φ k E it)) (ho : ∀ z, foldedSetIterable i X.env z = pure z) (hb : PSs X p (rdSs X Φ k E b)) :
    PS X (.For t i p [] pos) (rdS X Φ k E (.for_ tg it b)) := by
  refine PS.wk (ps_for g.own g.g.calm hi hg hb ho) ?_
  rintro D σ H ⟨Z, α, S, γ, s, er, h⟩
  simp only [ex] at h
  refine ⟨Z, α, S, γ, s, er, h.bind.imp fun src S1 α1 H1 t1 s1 h J WM => ?_⟩
  obtain ⟨G, Y, w, hG, hY⟩ := WM.ex
  refine for_it w (fun i σ H' => ∃ α' S' γ', Tr α1 H1 α' H' ∧ SR X.K Z α' H' S' ∧ ER X.K Z α' H' γ' σ ∧ Out X.K Z X.mg E (forLoop src (fun m γ S => .of (bindT tg m γ) fun γ1 => exs (evalFn Φ k) b γ1 S) (src.items.drop i) γ' S') α' H' (PF X.K Z D)) ?_ ?_ ?_ ?_
  · exact ⟨α1, S1, γ, Tr.refl s1, s1, er.tr s.muts t1, by simpa using h⟩
  · rintro i σ' H' _ ⟨α', S', γ', t, s', e', o⟩
    exact hG Z α' H' S' ZT.refl t s' (for_ok o)
  · rintro i y σ' H' H'' hi ⟨α', S', γ', t, s', e', o⟩ hy
    have hd : src.items.drop i = src.items[i] :: src.items.drop (i + 1) := List.drop_eq_getElem_cons hi
    rw [hd] at o
    have hok := for_ok o
    unfold forLoop at o
    rw [R.when_true hok] at o
    obtain ⟨ty, s'', ry⟩ := hY Z α' H' S' i src.items[i] y H'' ZT.refl t s' hok (by simp [hi]) hy
    have tt := t.trans ty
    have o := Out.tr ty o
    cases hbt : bindT tg src.items[i] γ' with
    | none => rw [hbt] at o; exact False.elim o
    | some γ1 =>
      rw [hbt, R.of_some] at o
      refine tg_out (e'.tr s'.muts ty) ry hbt fun σ1 er1 _ => ?_
      refine ⟨Z, α', S', γ1, s'', er1, o.bind.imp fun f S2 α2 H2 t2 s2 h => ?_⟩
      cases f with
      | nx γ2 => exact fun σ2 er2 => ⟨α2, S2, γ2, tt.trans t2, s2, er2, h⟩
      | cnt γ2 => exact fun σ2 er2 => ⟨α2, S2, γ2, tt.trans t2, s2, er2, h⟩
      | brk γ2 => exact Out.now (mg := X.mg) (E := E) s2 (show Out X.K Z X.mg E (.ok (.nx γ2) S2) α2 H2 (PF X.K Z D) from h)
      | ret v => exact Out.now (mg := X.mg) (E := E) s2 (show Out X.K Z X.mg E (.ok (.ret v) S2) α2 H2 (PF X.K Z D) from h)
  · rintro σ' H' ⟨α', S', γ', t, s', e', o⟩
    rw [List.drop_length] at o
    have hok := for_ok o
    unfold forLoop at o
    rw [R.when_true hok] at o
    exact o.now s' σ' e'

mutual
theorem soS : ∀ (c : Sm) {st : Stmt}, GoodS Φ x X CX k E → chkS Φ c x st = true → PS X st (rdS X Φ k E c)
  | .set i e, st, g, h => by
    simp only [chkS] at h
    split at h
    · simp only [Bool.and_eq_true] at h
      exact l_set g h.1 h.2
    · cases h
  | .unp l e, st, g, h => by
    simp only [chkS] at h
    split at h
    · simp only [Bool.and_eq_true] at h
      exact l_unp g h.1.1 (soC e g.g h.1.2) h.2
    · cases h
  | .par l es, st, g, h => by
    simp only [chkS] at h
    split at h
    · simp only [Bool.and_eq_true] at h
      exact l_par g h.1.1 h.1.2 h.2
    · cases h
  | .seti o i e, st, g, h => by
    simp only [chkS] at h
    split at h
    · simp only [Bool.and_eq_true] at h
      exact l_seti (soC o g.g h.1.1) (soC i g.g h.1.2) (chk_odd h.1.2) (soC e g.g h.2) (sw_sub h.2)
    · cases h
  | .augi op o i e, st, g, h => by
    simp only [chkS] at h
    split at h
    · simp only [Bool.and_eq_true, decide_eq_true_eq] at h
      obtain ⟨⟨⟨rfl, h1⟩, h2⟩, h3⟩ := h
      exact l_augi (soC o g.g h1) (soC i g.g h2) (chk_odd h2) (soC e g.g h3)
    · cases h
  | .aug op i e, st, g, h => by
    simp only [chkS] at h
    split at h
    · simp only [Bool.and_eq_true, decide_eq_true_eq] at h
      obtain ⟨⟨rfl, h1⟩, h2⟩ := h
      exact l_aug g h1 (soC e g.g h2)
    · cases h
  | .exp e, st, g, h => by
    simp only [chkS] at h
    split at h
    · simp only [Bool.and_eq_true, Bool.not_eq_true'] at h
      exact l_exp (soC e g.g h.2) (sw_no h.2 h.1)
    · cases h
  | .ret e, st, g, h => by
    simp only [chkS] at h
    split at h
    · exact l_ret (soC e g.g h)
    · cases h
  | .retN, st, g, h => by
    simp only [chkS] at h
    split at h
    · exact l_retN
    · cases h
  | .ife t a b, st, g, h => by
    simp only [chkS] at h
    split at h
    · simp only [Bool.and_eq_true] at h
      exact l_if (soT t g.g h.1.1).1 (soSs a g h.1.2) (soSs b g h.2)
    · cases h
  | .for_ tg it b, st, g, h => by
    simp only [chkS] at h
    split at h
    · simp only [Bool.and_eq_true] at h
      exact l_for g (l_tg g.g h.1.1) (soI it g.g h.1.2) (fun z => odd_fold (chkI_odd h.1.2) _ z) (soSs b g h.2)
    · cases h
  | .while_ t b, st, g, h => by
    simp only [chkS] at h
    split at h
    · simp only [Bool.and_eq_true] at h
      exact l_while g.own (soT t g.g h.1).1 (soSs b g h.2)
    · cases h
  | .brk, st, g, h => by
    simp only [chkS] at h
    split at h
    · exact l_brk
    · cases h
  | .cnt, st, g, h => by
    simp only [chkS] at h
    split at h
    · exact l_cnt
    · cases h
  | .pass, st, g, h => by
    simp only [chkS] at h
    split at h
    · exact l_pass
    · cases h
termination_by structural c => c
theorem soSs : ∀ (c : Sms) {l : List Stmt}, GoodS Φ x X CX k E → chkSs Φ c x l = true → PSs X l (rdSs X Φ k E c)
  | .nil, l, g, h => by
    cases l with
    | nil => exact l_seq_nil
    | cons s ss => simp [chkSs] at h
  | .cons a r, l, g, h => by
    cases l with
    | nil => simp [chkSs] at h
    | cons s ss =>
      simp only [chkSs, Bool.and_eq_true] at h
      exact l_seq (soS a g h.1) (soSs r g h.2)
termination_by structural c => c
end
end
end Mi

namespace Mi
open PySem PySem.Spec L2 PyProof.Rows

/-! ### the defs of a text -/
structure Tab where
  st : Stmt
  N : List Str
  d : Fn
def tabF (Ψ : String → Option Tab) : String → Option Fn := fun f => (Ψ f).map (·.d)
def Fn.pn (d : Fn) : List Str := d.ps.map Str.ofString
def chkSc (N P : List Str) (sc : Scope) : Bool :=
  decide (sc.kind = .function) && decide (sc.isCoroutine = false) && decide (sc.isGenerator = false) && decide N.Nodup && decide (N.take P.length = P) &&
    (P.all fun x => decide (sc.names.lookup x = some .local) || decide (sc.names.lookup x = some .cell)) && (sc.names.all fun y => decide (y.2 ≠ .free))
def chkTab (Φ : String → Option Fn) (t : Tab) : Bool :=
  chkSc t.N t.d.pn (defScope t.st) && decide (t.N.length = t.d.ns) && decide (t.d.ps.length ≤ t.d.ns) && chkSs Φ t.d.body ⟨t.N, defScope t.st, fun _ => true⟩ (defBody t.st)
theorem sc_of {N P : List Str} {sc : Scope} (h : chkSc N P sc = true) : FnScope N P sc := by
  unfold chkSc at h
  simp only [Bool.and_eq_true, decide_eq_true_eq, List.all_eq_true, Bool.or_eq_true] at h
  obtain ⟨⟨⟨⟨⟨⟨h1, h2⟩, h3⟩, h4⟩, h5⟩, h6⟩, h7⟩ := h
  exact ⟨h1, h2, h3, h4, h5, h6, h7⟩
/-- a def stands in what is written -/
structure At (K : PySem.W.Frag) (mg : Str → Option Value) (f : String) (t : Tab) (a : Addr) (fd : FuncData) : Prop where
  fn : L2.Fun K (Str.ofString f) (Str.ofString f) t.st a fd
  m : mg (Str.ofString f) = some (.ref a)
  b : Binds K fd t.d.pn []
  kb : ∀ n qs, (n, qs) ∈ t.d.kw → KBinds K fd t.d.pn ((ksOf t.d n qs).map Str.ofString) (placeN n qs) (placeN n qs)
theorem place_vals (qs : List Nat) : ∀ {xs zs : List V} {us ws : List Value}, Vals xs us → Vals zs ws → Vals (place qs xs zs) (place qs us ws) := by
  intro xs zs us ws r r'
  unfold place
  refine r.append ?_
  induction qs with
  | nil => exact .nil
  | cons q qs ih =>
    rw [List.filterMap_cons, List.filterMap_cons]
    cases e : zs[q]? with
    | none =>
      rw [r'.none_of e]
      exact ih
    | some z =>
      obtain ⟨w, e1, e2⟩ := r'.get e
      rw [e1]
      exact .cons e2 ih
theorem kb_mk {K : PySem.W.Frag} {fd : FuncData} {ps ks : List Str} {n : Nat} {qs : List Nat} (hp : ps ≠ [])
    (h : ∀ us ws : List Value, us.length = n → ws.length = qs.length → bindArgs fd ⟨us, ks.zip ws⟩ = pure (ps.zip (place qs us ws))) : KBinds K fd ps ks (placeN n qs) (placeN n qs) := by
  refine ⟨fun s us ws KX hl => ?_, fun {vs us zs ws} r r' => ?_⟩
  · by_cases c : us.length = n ∧ ws.length = qs.length
    · have e : placeN n qs us ws = place qs us ws := if_pos c
      rw [e]
      exact .of_eq (h us ws c.1 c.2)
    · have e : placeN n qs us ws = [] := if_neg c
      rw [e] at hl
      exact absurd (List.length_eq_zero_iff.mp hl.symm) hp
  · unfold placeN
    rw [r.length, r'.length]
    split
    · exact place_vals qs r r'
    · exact .nil
section
variable {P : Program} {w : World} {K : PySem.W.Frag} {mg : Str → Option Value} {base : Heap} {Ψ : String → Option Tab}
theorem er_start {Z α : List Addr} {H : Hp} {N : List Str} {ms : List M} {vs : List V} (r : RepL K Z α H ms vs) : ER K Z α H (ms.map some ++ List.replicate (N.length - ms.length) none) (L2.start N vs) := by
  unfold L2.start
  have hl := r.length
  refine ⟨by simp [hl], fun i m h => ?_⟩
  by_cases hi : i < ms.length
  · rw [List.getElem?_append_left (by simpa using hi), List.getElem?_map] at h
    obtain ⟨m', h1, h2⟩ := Option.map_eq_some_iff.mp h
    cases h2
    obtain ⟨v, e1, e2⟩ := r.get h1
    refine ⟨v, ?_, e2⟩
    rw [List.getElem?_append_left (by simp; omega), List.getElem?_map, e1]
    rfl
  · rw [List.getElem?_append_right (by simp; omega)] at h
    have := List.mem_of_getElem? h
    have := (List.mem_replicate.mp this).2
    cases this
theorem fns_ok (hc : ∀ f t, Ψ f = some t → chkTab (tabF Ψ) t = true) (ha : ∀ f t, Ψ f = some t → ∃ a fd, At K mg f t a fd) (hb : ∀ n ∈ bnames, mg (Str.ofString n) = none) :
    ∀ (k : Nat) (f : String) (t : Tab) (a : Addr) (fd : FuncData), Ψ f = some t → At K mg f t a fd → FnOk P w K mg base CX0 k a fd t.d.pn (spM K mg t.d.ps.length (evalFn (tabF Ψ) k f))
  | 0, f, t, a, fd, hf, A => by
    have len : ∀ vs H Q E, spM K mg t.d.ps.length (evalFn (tabF Ψ) 0 f) vs H Q E → vs.length = t.d.pn.length := fun vs H Q E h => by rw [h.1]; simp [Fn.pn]
    refine ⟨len, fun A outer s H args us vs Q E hr e0 hb r h => ?_⟩
    obtain ⟨_, Z, α, S, ms, s, r, h⟩ := h
    exact False.elim (show False from h)
  | k + 1, f, t, a, fd, hf, A => by
    have ck := hc f t hf
    unfold chkTab at ck
    simp only [Bool.and_eq_true, decide_eq_true_eq] at ck
    obtain ⟨⟨⟨c1, c2⟩, c3⟩, c4⟩ := ck
    have S := sc_of c1
    have len : ∀ vs H Q E, spM K mg t.d.ps.length (evalFn (tabF Ψ) (k + 1) f) vs H Q E → vs.length = t.d.pn.length := fun vs H Q E h => by rw [h.1]; simp [Fn.pn]
    refine A.fn.ok S len fun cdv A' outer s H vs Q E hr h => ?_
    have g : GoodS (tabF Ψ) ⟨t.N, defScope t.st, fun _ => true⟩ (cxOf CX0 P w K mg base t.N (Str.ofString f) (defScope t.st) a cdv A' outer s H E).nox CX0 k E := by
      refine ⟨⟨rfl, rfl, fun _ => rfl, S.nd, rfl, hr, hb, fun f' d' e => ?_, fun _ _ _ _ _ _ _ h => h.elim, fun _ _ _ _ _ _ _ _ _ _ h => h.elim⟩, PassesOwn.never, S.kind⟩
      obtain ⟨t', e1, rfl⟩ := Option.map_eq_some_iff.mp e
      obtain ⟨a', fd', A2⟩ := ha f' t' e1
      exact ⟨a', fd', A2.m, A2.fn.kp, fns_ok hc ha hb k f' t' a' fd' e1 A2, A2.b, A2.kb⟩
    refine ⟨_, soSs t.d.body g c4, ?_⟩
    obtain ⟨hl, Z, α, S', ms, sr, r, h⟩ := h
    have hΦ : tabF Ψ f = some t.d := by unfold tabF; rw [hf]; rfl
    simp only [evalFn, hΦ] at h
    obtain ⟨e, h⟩ := h.when
    refine ⟨Z, α, S', ms.map some ++ List.replicate (t.d.ns - t.d.ps.length) none, sr, ?_, h.bind.imp fun fl S1 α1 H1 t1 s1 h => ?_⟩
    · have := er_start (N := t.N) r
      rw [c2, e] at this
      exact this
    · cases fl with
      | nx γ => exact fun σ _ => Out.now (mg := mg) (E := E) s1 (show Out K Z mg E (.ok .non S1) α1 H1 (PM K Z Q) from h) .non (by simp only [Rep])
      | ret m => exact Out.now (mg := mg) (E := E) s1 (show Out K Z mg E (.ok m S1) α1 H1 (PM K Z Q) from h)
      | brk γ => exact False.elim h
      | cnt γ => exact False.elim h
/-- the law's promise -/
def spLaw (n : Nat) (K : PySem.W.Frag) : Sp := fun vs H Q _ => ∃ (a : Addr) (ns : List Int), vs = [.ref a] ∧ ns.length ≤ n ∧ Only H ∧ SqL K H a (ns.map V.int) ∧ ∀ H', Q (.bl true) H'
theorem law_ok {k n : Nat} {t : Tab} {a : Addr} {fd : FuncData} (hc : ∀ f t, Ψ f = some t → chkTab (tabF Ψ) t = true) (ha : ∀ f t, Ψ f = some t → ∃ a fd, At K mg f t a fd) (hb : ∀ n ∈ bnames, mg (Str.ofString n) = none)
    (hf : Ψ "law" = some t) (A : At K mg "law" t a fd) (h1 : t.d.ps = ["script"]) (plain : ∀ ns : List Int, ns.length ≤ n → ∃ S, evalFn (tabF Ψ) k "law" [.scr ns] [] = .ok (.bl true) S) :
    FnOk P w K mg base CX0 k a fd [Str.ofString "script"] (spLaw n K) := by
  have F := fns_ok (P := P) (w := w) (base := base) hc ha hb k "law" t a fd hf A
  have e : t.d.pn = [Str.ofString "script"] := by unfold Fn.pn; rw [h1]; rfl
  rw [e, h1] at F
  refine F.imp fun vs H Q E h => ?_
  obtain ⟨a, ns, rfl, hn, hO, hS, q⟩ := h
  obtain ⟨S, e⟩ := plain ns hn
  refine ⟨rfl, [], [], [], [.scr ns], ⟨List.nodup_nil, rfl, fun _ _ h => (nomatch h), fun a h => (nomatch h)⟩, ?_, ?_⟩
  · simp only [RepL, Rep]
    refine ⟨.ref a, [], rfl, ⟨a, rfl, ?_⟩, rfl⟩
    rcases hS with h | h
    · rcases hO a with h' | ⟨o, xs, h'⟩
      · rcases h with h | ⟨o, h⟩
        · rw [h'] at h; cases h
        · rw [h'] at h; cases h
      · rcases h with h | ⟨o2, h⟩
        · rw [h'] at h; cases h
        · exact .inl ⟨o2, h⟩
    · exact .inr (.inr h)
  · rw [e]
    exact fun α' H' _ _ v r => by rw [rep_bl r]; exact q H'
theorem at_mk {h : Heap} (KX : K.In h) (G : h.Ns mainGlobals mg) {t : Tab} {f : String} {a : Addr} {oc kV dc pm cd ct : Value} {od an : Option Addr} {sl : Array (Option Value)} (a1 : PySem.W.nsIn K mainGlobals (Str.ofString f) = some (some (.ref a)))
    (l1 : K.lookup a = some ⟨oc, od, .func (PySem.W.fnOf (Str.ofString f) (Str.ofString f) (defArgs t.st) (defBody t.st) (defScope t.st) .none kV dc pm an cd ct), sl⟩) (c1 : PySem.W.codeIn K cd (Str.ofString f) = true) (k1 : PySem.W.keepIn K (.ref a) = true)
    (hb : ∀ (kV doc pm : Value) (an : Option Addr) (cdv ct : Value) (us : List Value), us.length = t.d.pn.length → bindArgs (PySem.W.fnOf (Str.ofString f) (Str.ofString f) (defArgs t.st) (defBody t.st) (defScope t.st) .none kV doc pm an cdv ct) ⟨us, []⟩ = pure (t.d.pn.zip us))
    (hk : ∀ (kV doc pm : Value) (an : Option Addr) (cdv ct : Value), ∀ n qs, (n, qs) ∈ t.d.kw → KBinds K (PySem.W.fnOf (Str.ofString f) (Str.ofString f) (defArgs t.st) (defBody t.st) (defScope t.st) .none kV doc pm an cdv ct) t.d.pn ((ksOf t.d n qs).map Str.ofString) (placeN n qs) (placeN n qs)) :
    At K mg f t a (PySem.W.fnOf (Str.ofString f) (Str.ofString f) (defArgs t.st) (defBody t.st) (defScope t.st) .none kV dc pm an cd ct) := by
  have F := fun_mk (st := t.st) l1 c1 k1
  exact ⟨F, PySem.W.mg_of KX G a1, F.binds hb, hk kV dc pm an cd ct⟩
end
end Mi

namespace Mi
open PySem PySem.Spec L2

/-! ### plain reasoning: a run that ends well -/
def Wp {τ : Type} (r : R τ) (P : τ → Store → Prop) : Prop := match r with
  | .ok a S => P a S
  | _ => False
section
variable {τ υ : Type} {P Q : τ → Store → Prop}
@[simp] theorem wp_ok (a : τ) (S : Store) : Wp (.ok a S) P = P a S := rfl
@[simp] theorem wp_bind (r : R υ) (f : υ → Store → R τ) : Wp (r.bind f) P = Wp r fun a S => Wp (f a S) P := by cases r <;> rfl
theorem wp_when (c : Prop) [Decidable c] (r : R τ) : Wp (.when c r) P = (c ∧ Wp r P) := by
  unfold R.when
  by_cases h : c
  · rw [if_pos h]; simp [h]
  · rw [if_neg h]; simp [h, Wp]
@[simp] theorem wp_some (a : υ) (f : υ → R τ) : Wp (.of (some a) f) P = Wp (f a) P := rfl
theorem wp_ite (c : Prop) [Decidable c] (r r' : R τ) : Wp (if c then r else r') P = (if c then Wp r P else Wp r' P) := by split <;> rfl
theorem Wp.mono {r : R τ} (h : Wp r P) (i : ∀ a S, P a S → Q a S) : Wp r Q := by
  cases r with
  | ok a S => exact i a S h
  | exc x S => exact False.elim h
  | bad => exact False.elim h
theorem Wp.ex {r : R τ} (h : Wp r P) : ∃ a S, r = .ok a S ∧ P a S := by
  cases r with
  | ok a S => exact ⟨a, S, rfl, h⟩
  | exc x S => exact False.elim h
  | bad => exact False.elim h
theorem Wp.of {r : R τ} {a : τ} {S : Store} (e : r = .ok a S) (h : P a S) : Wp r P := by rw [e]; exact h
end
/-! from the left: what comes later is looked at later -/
theorem bind_lazy {τ υ : Type} {r r' : R τ} {f : τ → Store → R υ} (h : r = r') : r.bind f = r'.bind f := by rw [h]
theorem of_lazy {τ υ : Type} {o o' : Option τ} {f : τ → R υ} (h : o = o') : R.of o f = R.of o' f := by rw [h]
theorem when_lazy {τ : Type} {c : Prop} [Decidable c] {r : R τ} : R.when c r = R.when c r := rfl
theorem wp_lazy {τ : Type} {r r' : R τ} {P : τ → Store → Prop} (h : r = r') : Wp r P = Wp r' P := by rw [h]
theorem while_lazy {t : Mi.Env → Store → R Bool} {f : Mi.Env → Store → R F} {n : Nat} {γ γ' : Mi.Env} {S S' : Store} (h : γ = γ') (h' : S = S') : whileLoop t f n γ S = whileLoop t f n γ' S' := by rw [h, h']
theorem for_lazy {s s' : Src} {f : M → Mi.Env → Store → R F} {l l' : List M} {γ γ' : Mi.Env} {S S' : Store} (h0 : s = s') (h1 : l = l') (h : γ = γ') (h' : S = S') : forLoop s f l γ S = forLoop s' f l' γ' S' := by rw [h0, h1, h, h']
theorem comp_lazy {s s' : Src} {f : M → Store → R (Option M)} {l l' : List M} {S S' : Store} (h0 : s = s') (h1 : l = l') (h' : S = S') : compLoop s f l S = compLoop s' f l' S' := by rw [h0, h1, h']
theorem cmul_r {i j : Int} (h1 : -(2 ^ 64) < j) (h2 : j < 2 ^ 64) : CMulOk i j := .inl (.inr (by omega))
theorem cmul_l {i j : Int} (h1 : -(2 ^ 64) < i) (h2 : i < 2 ^ 64) : CMulOk i j := .inl (.inl (by omega))
theorem cdiv_s {i j : Int} (h1 : 0 < j) (h2 : j < 2 ^ 64) : CDivOk i j := ⟨h1, Nat.lt_trans (m := 2 ^ 64) (by omega) (by decide +kernel)⟩
/-- a def's body -/
theorem wp_fn {Φ : String → Option Fn} {k : Nat} {f : String} {ms : List M} {S : Store} {d : Fn} {P : M → Store → Prop} (hd : Φ f = some d) (hl : ms.length = d.ps.length)
    (h : Wp (exs (evalFn Φ k) d.body (ms.map some ++ List.replicate (d.ns - d.ps.length) none) S) fun fl S => Wp (fin fl S) P) : Wp (evalFn Φ (k + 1) f ms S) P := by
  simp only [evalFn, hd]
  rw [wp_when, wp_bind]
  exact ⟨hl, h⟩
/-- a call that can't change what it is given -/
theorem wp_pure {call : String → List M → Store → R M} {f : String} {ms as : List M} {S : Store} {r : M} {P : M → Store → Prop} (h1 : derefs S ms = some as) {Q : M → Store → Prop} (h2 : Wp (call f as []) Q) (h3 : ∀ m S', Q m S' → freeze S' m = some r) (h4 : P r S) : Wp (callM call true f ms S) P := by
  obtain ⟨m, S', e, q⟩ := h2.ex
  unfold callM
  rw [if_pos rfl, h1, wp_some, e]
  show Wp (.of (freeze S' m) fun r => .ok r S) P
  rw [h3 m S' q]
  exact h4
section
variable {call : String → List M → Store → R M} {al : Bool} {es : Cs} {e : C} {γ : Mi.Env} {S S' : Store} {ms : List M}
theorem ev_lrange {a b : Int} (h : evs call es γ S = .ok ms S') (hr : range12 ms = some (a, b)) (hk : RgOk' a b) : ev call (.lrange al es) γ S = mkL al (rangeL a b) S' := by
  simp only [ev]
  rw [h, R.bind_ok, hr]
  exact R.when_true hk _
theorem ev_trange {a b : Int} (h : evs call es γ S = .ok ms S') (hr : range12 ms = some (a, b)) (hk : RgOk' a b) : ev call (.trange es) γ S = .ok (.tup (rangeL a b)) S' := by
  simp only [ev]
  rw [h, R.bind_ok, hr]
  exact R.when_true hk _
theorem evI_range1 {b : Int} (h : ev call e γ S = .ok (.int b) S') (hk : RgOk' 0 b) : evI call (.range1 e) γ S = .ok ⟨rangeL 0 b, .tup [], []⟩ S' := by
  simp only [evI]
  rw [h, R.bind_ok]
  exact R.when_true hk _
theorem evI_val {m : M} (h : ev call e γ S = .ok m S') (hk : seqOf S' m = some ms) : evI call (.val e) γ S = .ok ⟨ms, m, ms⟩ S' := by
  simp only [evI]
  rw [h, R.bind_ok, hk]
  rfl
theorem ev_call {f : String} {pu : Bool} (h : evs call es γ S = .ok ms S') : ev call (.call pu f es) γ S = callM call pu f ms S' := by
  simp only [ev]
  rw [h]
  rfl
theorem rg_len (n : Nat) (h : n ≤ 1000000) : RgOk' 0 n := by
  unfold RgOk' big
  omega
theorem rangeN (n : Nat) : rangeL 0 n = (List.range n).map fun i : Nat => M.int (i : Int) := by
  unfold rangeL
  simp
theorem plain_ints {τ : Type} (f : τ → Int) (l : List τ) : M.plain.go (l.map fun i => M.int (f i)) = true := by
  induction l with
  | nil => rfl
  | cons x l ih => simp [M.plain.go, M.plain, ih]
end
/-- what a comprehension's turn gives, no store touched -/
def turnP (call : String → List M → Store → R M) (tg : Tg) (ifs : To) (e : C) (γ : Mi.Env) (S : Store) (x : M) : R (Option M) :=
  .of (bindT tg x γ) fun γ1 => ((evt call ifs γ1 S).bind fun b S => if b = true then (ev call e γ1 S).bind fun m S => .ok (some m) S else .ok none S).calm
/-- a comprehension whose turns are known -/
theorem wp_comp {s : Src} {f : M → Store → R (Option M)} {S : Store} (hok : s.ok S) (g : M → Option M) : ∀ (l : List M), (∀ x ∈ l, f x S = .ok (g x) S) → compLoop s f l S = .ok (l.filterMap g) S
  | [], h => by
    unfold compLoop
    rw [R.when_true hok]
    rfl
  | x :: l, h => by
    unfold compLoop
    rw [R.when_true hok, h x List.mem_cons_self, R.bind_ok, wp_comp hok g l fun y hy => h y (List.mem_cons_of_mem _ hy), R.bind_ok, List.filterMap_cons]
    cases g x <;> rfl
theorem ev_lcP {call : String → List M → Store → R M} {al : Bool} {tg : Tg} {it : It'} {ifs : To} {e : C} {own : List Nat} {γ : Mi.Env} {S S' : Store} {s : Src} (g : M → Option M) (h : evI call it γ S = .ok s S') (hl : s.items.length ≤ big) (hok : s.ok S')
    (ht : ∀ x ∈ s.items, turnP call tg ifs e (wipeE γ own) S' x = .ok (g x) S') : ev call (.lc al tg it ifs e own) γ S = mkL al (s.items.filterMap g) S' := by
  simp only [ev]
  rw [h, R.bind_ok, R.when_true hl, wp_comp hok g s.items ht]
  rfl
/-- .. by an invariant of the store -/
theorem wp_compI {s : Src} {f : M → Store → R (Option M)} {P : List M → Store → Prop} (I : Store → Prop) (hok : ∀ S, I S → s.ok S) (A : M → M → Prop) : ∀ (l : List M) (S : Store), I S → (∀ x ∈ l, ∀ S, I S → Wp (f x S) fun o S' => I S' ∧ ∃ y, o = some y ∧ A x y) →
    (∀ (r : List M) S', I S' → r.length = l.length → (∀ (i : Nat) (x y : M), l[i]? = some x → r[i]? = some y → A x y) → P r S') → Wp (compLoop s f l S) P
  | [], S, hS, h, q => by
    unfold compLoop
    rw [wp_when]
    exact ⟨hok S hS, q [] S hS rfl fun i x y h => by simp at h⟩
  | x :: l, S, hS, h, q => by
    unfold compLoop
    rw [wp_when, wp_bind]
    refine ⟨hok S hS, (h x List.mem_cons_self S hS).mono fun o S1 ⟨h1, y, e, ay⟩ => ?_⟩
    subst e
    rw [wp_bind]
    refine wp_compI I hok A l S1 h1 (fun z hz => h z (List.mem_cons_of_mem _ hz)) fun r S2 h2 hl hA => ?_
    rw [wp_ok]
    refine q _ _ h2 (by simp [hl]) fun i a b ha hb => ?_
    cases i with
    | zero => simp at ha hb; subst ha; subst hb; exact ay
    | succ i => exact hA i a b (by simpa using ha) (by simpa using hb)
/-- a for by its invariant; i: how many are done -/
theorem wp_for {s : Src} {f : M → Env → Store → R F} {P : F → Store → Prop} (I : Nat → Env → Store → Prop) (l : List M) (hok : ∀ i γ S, i ≤ l.length → I i γ S → s.ok S)
    (step : ∀ i x γ S, l[i]? = some x → I i γ S → Wp (f x γ S) fun fl S' => match fl with
      | .nx γ' => I (i + 1) γ' S'
      | .cnt γ' => I (i + 1) γ' S'
      | .brk γ' => P (.nx γ') S'
      | .ret m => P (.ret m) S') (done : ∀ γ S, I l.length γ S → P (.nx γ) S) :
    ∀ γ S, I 0 γ S → Wp (forLoop s f l γ S) P := by
  have key : ∀ (m : List M) (i : Nat), l.drop i = m → i ≤ l.length → ∀ γ S, I i γ S → Wp (forLoop s f m γ S) P := by
    intro m
    induction m with
    | nil =>
      intro i hd hi γ S h
      have hi' : i = l.length := by
        have := congrArg List.length hd
        simp at this; omega
      subst hi'
      unfold forLoop
      rw [wp_when]
      exact ⟨hok _ γ S hi h, done γ S h⟩
    | cons x m ih =>
      intro i hd hi γ S h
      have hlt : i < l.length := by
        have := congrArg List.length hd
        simp at this; omega
      have e := List.drop_eq_getElem_cons hlt
      rw [hd] at e
      obtain ⟨e1, e2⟩ := List.cons.inj e
      unfold forLoop
      rw [wp_when, wp_bind]
      refine ⟨hok i γ S hi h, (step i x γ S (by rw [e1]; simp [hlt]) h).mono fun fl S1 q => ?_⟩
      cases fl with
      | nx γ1 => exact ih (i + 1) e2.symm hlt γ1 S1 q
      | cnt γ1 => exact ih (i + 1) e2.symm hlt γ1 S1 q
      | brk γ1 => exact q
      | ret m => exact q
  exact fun γ S h => key l 0 rfl (Nat.zero_le _) γ S h
/-- a while by a measure -/
theorem wp_while {t : Env → Store → R Bool} {f : Env → Store → R F} {P : F → Store → Prop} (I : Env → Store → Prop) (μ : Env → Store → Nat)
    (step : ∀ γ S, I γ S → Wp (t γ S) fun b S1 => if b = true then Wp (f γ S1) fun fl S' => match fl with
      | .nx γ' => I γ' S' ∧ μ γ' S' < μ γ S
      | .cnt γ' => I γ' S' ∧ μ γ' S' < μ γ S
      | .brk γ' => P (.nx γ') S'
      | .ret m => P (.ret m) S' else P (.nx γ) S1) : ∀ (n : Nat) γ S, I γ S → μ γ S < n → Wp (whileLoop t f n γ S) P := by
  intro n
  induction n with
  | zero => intro γ S _ h; omega
  | succ n ih =>
    intro γ S h hm
    unfold whileLoop
    rw [wp_bind]
    refine (step γ S h).mono fun b S1 q => ?_
    cases b with
    | false => exact q
    | true =>
      rw [if_pos rfl, wp_bind]
      have q' : Wp (f γ S1) _ := q
      refine q'.mono fun fl S2 q => ?_
      cases fl with
      | nx γ1 => exact ih γ1 S2 q.1 (by have := q.2; omega)
      | cnt γ1 => exact ih γ1 S2 q.1 (by have := q.2; omega)
      | brk γ1 => exact q
      | ret m => exact q
end Mi

namespace K01
open PySem PySem.Spec L2 Mi
/-! ### the text in the small language (printed by gen.py) -/
def topS (i : Nat) : Stmt := PySem.Challenge.pw_whoevercomesfirst_k01_clashes_facts.main.body.getD i (.Pass ⟨0, 0, 0, 0⟩)
def d_is_ahead : Fn := ⟨["change", "one", "other"], [], 3, (.cons (.ret (.and (.cmp .eq (.ix (.var 1) (.con (.int 0))) (.ix (.var 2) (.con (.int 0)))) (.one (.cmp .le (.bin false .add (.ix (.var 1) (.con (.int 2))) (.var 0)) (.ix (.var 2) (.con (.int 1))))))) .nil)⟩
def t_is_ahead : Tab := ⟨topS 1, [Str.ofString "change", Str.ofString "one", Str.ofString "other"], d_is_ahead⟩
def d_are_clashing : Fn := ⟨["change", "one", "other"], [], 3, (.cons (.ret (.and (.cmp .eq (.ix (.var 1) (.con (.int 0))) (.ix (.var 2) (.con (.int 0)))) (.and (.cmp .gt (.bin false .add (.ix (.var 1) (.con (.int 2))) (.var 0)) (.ix (.var 2) (.con (.int 1)))) (.one (.cmp .gt (.bin false .add (.ix (.var 2) (.con (.int 2))) (.var 0)) (.ix (.var 1) (.con (.int 1)))))))) .nil)⟩
def t_are_clashing : Tab := ⟨topS 2, [Str.ofString "change", Str.ofString "one", Str.ofString "other"], d_are_clashing⟩
def d_do_clash : Fn := ⟨["book", "one", "other"], [], 3, (.cons (.ret (.and (.cmp .ne (.var 1) (.var 2)) (.one (.call true "are_clashing" (.cons (.ix (.var 0) (.con (.int 0))) (.cons (.ix (.ix (.var 0) (.con (.int 1))) (.var 1)) (.cons (.ix (.ix (.var 0) (.con (.int 1))) (.var 2)) .nil))))))) .nil)⟩
def t_do_clash : Tab := ⟨topS 4, [Str.ofString "book", Str.ofString "one", Str.ofString "other"], d_do_clash⟩
def d_stands_ahead : Fn := ⟨["book", "one", "other"], [(0, [2, 1, 0])], 3, (.cons (.ret (.call true "is_ahead" (.cons (.ix (.var 0) (.con (.int 0))) (.cons (.ix (.ix (.var 0) (.con (.int 1))) (.var 1)) (.cons (.ix (.ix (.var 0) (.con (.int 1))) (.var 2)) .nil))))) .nil)⟩
def t_stands_ahead : Tab := ⟨topS 5, [Str.ofString "book", Str.ofString "one", Str.ofString "other"], d_stands_ahead⟩
def d_all_numbers : Fn := ⟨["book"], [], 1, (.cons (.ret (.lrange true (.cons (.bi .len (.cons (.ix (.var 0) (.con (.int 1))) .nil)) .nil))) .nil)⟩
def t_all_numbers : Tab := ⟨topS 6, [Str.ofString "book"], d_all_numbers⟩
def d_clashes_of : Fn := ⟨["book", "wish"], [], 3, (.cons (.ret (.bi .tuple (.cons (.lc false (.nm 2) (.val (.call true "all_numbers" (.cons (.var 0) .nil))) (.so (.v (.call true "do_clash" (.cons (.var 0) (.cons (.var 1) (.cons (.var 2) .nil)))))) (.var 2) [2]) .nil))) .nil)⟩
def t_clashes_of : Tab := ⟨topS 7, [Str.ofString "book", Str.ofString "wish", Str.ofString "other"], d_clashes_of⟩
def d_wishes_behind : Fn := ⟨["book", "wish"], [(0, [0, 1])], 3, (.cons (.ret (.bi .tuple (.cons (.lc false (.nm 2) (.val (.call true "all_numbers" (.cons (.var 0) .nil))) (.so (.v (.call true "stands_ahead" (.cons (.var 0) (.cons (.var 1) (.cons (.var 2) .nil)))))) (.var 2) [2]) .nil))) .nil)⟩
def t_wishes_behind : Tab := ⟨topS 8, [Str.ofString "book", Str.ofString "wish", Str.ofString "other"], d_wishes_behind⟩
def d_wishes_ahead : Fn := ⟨["book", "wish"], [], 3, (.cons (.ret (.bi .tuple (.cons (.lc false (.nm 2) (.val (.call true "all_numbers" (.cons (.var 0) .nil))) (.so (.v (.call true "stands_ahead" (.cons (.var 0) (.cons (.var 2) (.cons (.var 1) .nil)))))) (.var 2) [2]) .nil))) .nil)⟩
def t_wishes_ahead : Tab := ⟨topS 9, [Str.ofString "book", Str.ofString "wish", Str.ofString "other"], d_wishes_ahead⟩
def d_rooms_of : Fn := ⟨["book"], [], 2, (.cons (.ret (.bi .tuple (.cons (.ssc false (.nm 1) (.val (.ix (.var 0) (.con (.int 1)))) .no (.ix (.var 1) (.con (.int 0))) [1]) .nil))) .nil)⟩
def t_rooms_of : Tab := ⟨topS 11, [Str.ofString "book", Str.ofString "wish"], d_rooms_of⟩
def d_wishes_of : Fn := ⟨["book", "room"], [], 4, (.cons (.ret (.bi .tuple (.cons (.lc false (.tu [2, 3]) (.enum (.ix (.var 0) (.con (.int 1)))) (.so (.v (.cmp .eq (.ix (.var 3) (.con (.int 0))) (.var 1)))) (.var 2) [2, 3]) .nil))) .nil)⟩
def t_wishes_of : Tab := ⟨topS 12, [Str.ofString "book", Str.ofString "room", Str.ofString "at", Str.ofString "wish"], d_wishes_of⟩
def d_total_worth : Fn := ⟨["book"], [], 2, (.cons (.ret (.bi .sum (.cons (.lc false (.nm 1) (.val (.ix (.var 0) (.con (.int 1)))) .no (.ix (.var 1) (.con (.int 3))) [1]) .nil))) .nil)⟩
def t_total_worth : Tab := ⟨topS 13, [Str.ofString "book", Str.ofString "wish"], d_total_worth⟩
def d_span_of : Fn := ⟨["book", "room"], [(0, [1, 0])], 5, (.cons (.set 2 (.lc false (.nm 3) (.val (.call true "wishes_of" (.cons (.var 0) (.cons (.var 1) .nil)))) .no (.ix (.ix (.var 0) (.con (.int 1))) (.var 3)) [3])) (.cons (.ret (.tup (.cons (.bi .minL (.cons (.lc false (.nm 4) (.val (.var 2)) .no (.ix (.var 4) (.con (.int 1))) [4]) .nil)) (.cons (.bi .maxL (.cons (.lc false (.nm 4) (.val (.var 2)) .no (.ix (.var 4) (.con (.int 2))) [4]) .nil)) .nil)))) .nil))⟩
def t_span_of : Tab := ⟨topS 14, [Str.ofString "book", Str.ofString "room", Str.ofString "rows", Str.ofString "wish", Str.ofString "row"], d_span_of⟩
def d_busy_time : Fn := ⟨["book", "wishes"], [(0, [1, 0])], 3, (.cons (.ret (.bi .sum (.cons (.lc false (.nm 2) (.val (.var 1)) .no (.bin false .sub (.ix (.ix (.ix (.var 0) (.con (.int 1))) (.var 2)) (.con (.int 2))) (.ix (.ix (.ix (.var 0) (.con (.int 1))) (.var 2)) (.con (.int 1)))) [2]) .nil))) .nil)⟩
def t_busy_time : Tab := ⟨topS 15, [Str.ofString "book", Str.ofString "wishes", Str.ofString "wish"], d_busy_time⟩
def d__law_meadow : Fn := ⟨["script"], [], 5, (.cons (.set 1 (.lst true .nil)) (.cons (.set 2 (.con (.int 523011))) (.cons (.for_ (.nm 3) (.val (.sl false (.var 0) .no (.so (.con (.int 60))))) (.cons (.set 4 (.bin false .mod (.bi .abs (.cons (.bi .int (.cons (.var 3) .nil)) .nil)) (.bin false .mul (.bin false .mul (.bin false .mul (.bin false .mul (.bin false .mul (.bin false .mul (.bin false .pow (.con (.int 10)) (.con (.int 60))) (.bin false .pow (.con (.int 10)) (.con (.int 60)))) (.bin false .pow (.con (.int 10)) (.con (.int 60)))) (.bin false .pow (.con (.int 10)) (.con (.int 60)))) (.bin false .pow (.con (.int 10)) (.con (.int 60)))) (.bin false .pow (.con (.int 10)) (.con (.int 60)))) (.bin false .pow (.con (.int 10)) (.con (.int 60)))))) (.cons (.set 2 (.bin false .mod (.bi .int (.cons (.bin false .add (.bin false .add (.bin false .mul (.var 2) (.con (.int 88897))) (.bin false .mod (.var 4) (.con (.int 1000074181)))) (.bi .int (.cons (.cmp .lt (.var 3) (.con (.int 0))) .nil))) .nil)) (.con (.int 2147478317)))) (.cons (.ife (.v (.cmp .ge (.var 4) (.bin false .pow (.con (.int 10)) (.con (.int 18))))) (.cons (.exp (.meth .append (.var 1) (.cons (.var 4) .nil))) .nil) .nil) .nil)))) (.cons (.ret (.lst true (.cons (.rev true (.var 1)) (.cons (.var 2) (.cons (.con (.int 0)) .nil))))) .nil))))⟩
def t__law_meadow : Tab := ⟨topS 17, [Str.ofString "script", Str.ofString "great", Str.ofString "stirred", Str.ofString "cell", Str.ofString "size"], d__law_meadow⟩
def d__law_stroll : Fn := ⟨["meadow", "many"], [], 3, (.cons (.ife (.v (.cmp .lt (.var 1) (.con (.int 2)))) (.cons (.ret (.con (.int 0))) .nil) .nil) (.cons (.ife (.v (.cmp .gt (.bi .len (.cons (.ix (.var 0) (.con (.int 0))) .nil)) (.con (.int 0)))) (.cons (.set 2 (.bi .int (.cons (.ix (.ix (.var 0) (.con (.int 0))) (.neg (.con (.int 1)))) .nil))) (.cons (.seti (.ix (.var 0) (.con (.int 0))) (.neg (.con (.int 1))) (.bin false .fdiv (.var 2) (.var 1))) (.cons (.ife (.v (.cmp .lt (.var 2) (.var 1))) (.cons (.exp (.meth .pop (.ix (.var 0) (.con (.int 0))) .nil)) .nil) .nil) (.cons (.ret (.bin true .mod (.bi .int (.cons (.var 2) .nil)) (.var 1))) .nil)))) .nil) (.cons (.augi .add (.var 0) (.con (.int 2)) (.con (.int 1))) (.cons (.seti (.var 0) (.con (.int 1)) (.bin false .mod (.bi .int (.cons (.bin false .add (.bin false .add (.bin false .mul (.ix (.var 0) (.con (.int 1))) (.con (.int 106013))) (.bin false .mul (.ix (.var 0) (.con (.int 2))) (.con (.int 7219)))) (.con (.int 359))) .nil)) (.con (.int 2147478317)))) (.cons (.ret (.bin true .mod (.bi .int (.cons (.bin false .fdiv (.ix (.var 0) (.con (.int 1))) (.con (.int 401))) .nil)) (.var 1))) .nil)))))⟩
def t__law_stroll : Tab := ⟨topS 18, [Str.ofString "meadow", Str.ofString "many", Str.ofString "size"], d__law_stroll⟩
def d__law_of : Fn := ⟨["meadow", "row"], [], 2, (.cons (.ret (.ix (.var 1) (.call false "_law_stroll" (.cons (.var 0) (.cons (.bi .len (.cons (.var 1) .nil)) .nil))))) .nil)⟩
def t__law_of : Tab := ⟨topS 19, [Str.ofString "meadow", Str.ofString "row"], d__law_of⟩
def d__law_same : Fn := ⟨["told", "due"], [], 6, (.cons (.set 2 (.lst true (.cons (.tup (.cons (.var 0) (.cons (.var 1) .nil))) .nil))) (.cons (.while_ (.v (.cmp .gt (.bi .len (.cons (.var 2) .nil)) (.con (.int 0)))) (.cons (.unp [3, 4] (.meth .pop (.var 2) .nil)) (.cons (.ife (.v (.cmp .isN (.var 4) (.con .non))) (.cons (.ife (.v (.cmp .notN (.var 3) (.con .non))) (.cons (.ret (.con (.bl false))) .nil) .nil) .nil) (.cons (.ife (.v (.isi (.var 4) ["tuple", "list"])) (.cons (.ife (.or (.v (.cmp .ne (.isi (.var 3) ["tuple"]) (.isi (.var 4) ["tuple"]))) (.one (.v (.cmp .ne (.isi (.var 3) ["list"]) (.isi (.var 4) ["list"]))))) (.cons (.ret (.con (.bl false))) .nil) .nil) (.cons (.ife (.v (.cmp .ne (.bi .len (.cons (.var 3) .nil)) (.bi .len (.cons (.var 4) .nil)))) (.cons (.ret (.con (.bl false))) .nil) .nil) (.cons (.exp (.meth .extend (.var 2) (.cons (.lc false (.nm 5) (.range1 (.bi .len (.cons (.var 4) .nil))) .no (.tup (.cons (.ix (.var 3) (.var 5)) (.cons (.ix (.var 4) (.var 5)) .nil))) [5]) .nil))) .nil))) (.cons (.ife (.v (.isi (.var 4) ["bool"])) (.cons (.ife (.or (.not (.v (.isi (.var 3) ["bool"]))) (.one (.v (.cmp .ne (.var 3) (.var 4))))) (.cons (.ret (.con (.bl false))) .nil) .nil) .nil) (.cons (.ife (.v (.isi (.var 4) ["str"])) (.cons (.ife (.or (.not (.v (.isi (.var 3) ["str"]))) (.one (.v (.cmp .ne (.var 3) (.var 4))))) (.cons (.ret (.con (.bl false))) .nil) .nil) .nil) (.cons (.ife (.or (.v (.isi (.var 3) ["bool"])) (.or (.not (.v (.isi (.var 3) ["int"]))) (.one (.v (.cmp .ne (.var 3) (.var 4)))))) (.cons (.ret (.con (.bl false))) .nil) .nil) .nil)) .nil)) .nil)) .nil)) .nil))) (.cons (.ret (.con (.bl true))) .nil)))⟩
def t__law_same : Tab := ⟨topS 20, [Str.ofString "told", Str.ofString "due", Str.ofString "todo", Str.ofString "one", Str.ofString "other", Str.ofString "at"], d__law_same⟩
def d__law_book : Fn := ⟨["meadow", "many", "most"], [], 13, (.cons (.set 3 (.call false "_law_of" (.cons (.var 0) (.cons (.tup (.cons (.con (.int 0)) (.cons (.con (.int 1)) (.cons (.con (.int 10)) (.cons (.con (.int 99)) (.cons (.con (.int 0)) .nil)))))) .nil)))) (.cons (.set 4 (.sl false (.call false "_law_of" (.cons (.var 0) (.cons (.tup (.cons (.tup (.cons (.con (.int 4)) .nil)) (.cons (.tup (.cons (.con (.int 0)) (.cons (.con (.int 9)) .nil))) (.cons (.tup (.cons (.con (.int 2)) (.cons (.con (.int 3)) (.cons (.con (.int 7)) .nil)))) (.cons (.tup (.cons (.con (.int 1)) (.cons (.con (.int 0)) .nil))) (.cons (.trange (.cons (.con (.int 10)) .nil)) .nil)))))) .nil))) .no (.so (.var 2)))) (.cons (.set 5 (.lst true .nil)) (.cons (.for_ (.nm 6) (.range1 (.var 1)) (.cons (.set 7 (.call false "_law_stroll" (.cons (.var 0) (.cons (.con (.int 600)) .nil)))) (.cons (.set 8 (.bin false .add (.con (.int 1)) (.call false "_law_of" (.cons (.var 0) (.cons (.tup (.cons (.con (.int 0)) (.cons (.con (.int 29)) (.cons (.call false "_law_stroll" (.cons (.var 0) (.cons (.con (.int 200)) .nil))) (.cons (.con (.int 59)) .nil))))) .nil))))) (.cons (.ife (.and (.v (.cmp .gt (.var 6) (.con (.int 0)))) (.one (.v (.cmp .gt (.call false "_law_stroll" (.cons (.var 0) (.cons (.con (.int 4)) .nil))) (.con (.int 0)))))) (.cons (.unp [9, 10, 11, 12] (.call false "_law_of" (.cons (.var 0) (.cons (.var 5) .nil)))) (.cons (.set 7 (.bi .max (.cons (.con (.int 0)) (.cons (.call false "_law_of" (.cons (.var 0) (.cons (.tup (.cons (.bin false .add (.var 11) (.var 3)) (.cons (.bin false .sub (.bin false .add (.var 11) (.var 3)) (.con (.int 1))) (.cons (.var 11) (.cons (.var 10) (.cons (.bin false .sub (.bin false .sub (.var 10) (.var 8)) (.var 3)) (.cons (.bin false .add (.bin false .sub (.bin false .sub (.var 10) (.var 8)) (.var 3)) (.con (.int 1))) (.cons (.bin false .add (.var 10) (.con (.int 1))) .nil)))))))) .nil))) .nil)))) (.cons (.set 8 (.call false "_law_of" (.cons (.var 0) (.cons (.tup (.cons (.var 8) (.cons (.bin false .sub (.var 11) (.var 10)) .nil))) .nil)))) .nil))) .nil) (.cons (.set 7 (.bi .min (.cons (.var 7) (.cons (.con (.int 9998)) .nil)))) (.cons (.exp (.meth .append (.var 5) (.cons (.tup (.cons (.call false "_law_of" (.cons (.var 0) (.cons (.var 4) .nil))) (.cons (.var 7) (.cons (.bi .min (.cons (.con (.int 9999)) (.cons (.bin false .add (.var 7) (.var 8)) .nil))) (.cons (.call false "_law_of" (.cons (.var 0) (.cons (.tup (.cons (.con (.int 0)) (.cons (.con (.int 999)) (.cons (.call false "_law_stroll" (.cons (.var 0) (.cons (.con (.int 50)) .nil))) .nil)))) .nil))) .nil))))) .nil))) .nil)))))) (.cons (.ret (.tup (.cons (.var 3) (.cons (.bi .tuple (.cons (.var 5) .nil)) .nil)))) .nil)))))⟩
def t__law_book : Tab := ⟨topS 21, [Str.ofString "meadow", Str.ofString "many", Str.ofString "most", Str.ofString "change", Str.ofString "rooms", Str.ofString "told", Str.ofString "lap", Str.ofString "begin", Str.ofString "long", Str.ofString "room", Str.ofString "one", Str.ofString "two", Str.ofString "worth"], d__law_book⟩
def d__law_ahead : Fn := ⟨["book", "one", "other"], [], 7, (.cons (.unp [3, 4] (.var 0)) (.cons (.par [5, 6] (.cons (.ix (.var 4) (.var 1)) (.cons (.ix (.var 4) (.var 2)) .nil))) (.cons (.ret (.and (.cmp .eq (.ix (.var 5) (.con (.int 0))) (.ix (.var 6) (.con (.int 0)))) (.one (.not (.cmp .gt (.bin false .add (.ix (.var 5) (.con (.int 2))) (.var 3)) (.ix (.var 6) (.con (.int 1)))))))) .nil)))⟩
def t__law_ahead : Tab := ⟨topS 22, [Str.ofString "book", Str.ofString "one", Str.ofString "other", Str.ofString "change", Str.ofString "wishes", Str.ofString "first", Str.ofString "second"], d__law_ahead⟩
def d__law_clash : Fn := ⟨["book", "one", "other"], [], 3, (.cons (.ret (.and (.cmp .ne (.var 1) (.var 2)) (.and (.cmp .eq (.ix (.ix (.ix (.var 0) (.con (.int 1))) (.var 1)) (.con (.int 0))) (.ix (.ix (.ix (.var 0) (.con (.int 1))) (.var 2)) (.con (.int 0)))) (.and (.not (.call true "_law_ahead" (.cons (.var 0) (.cons (.var 1) (.cons (.var 2) .nil))))) (.one (.not (.call true "_law_ahead" (.cons (.var 0) (.cons (.var 2) (.cons (.var 1) .nil)))))))))) .nil)⟩
def t__law_clash : Tab := ⟨topS 23, [Str.ofString "book", Str.ofString "one", Str.ofString "other"], d__law_clash⟩
def d__law_pairs : Fn := ⟨["meadow", "book"], [], 11, (.cons (.set 2 (.lrange false (.cons (.bi .len (.cons (.ix (.var 1) (.con (.int 1))) .nil)) .nil))) (.cons (.set 3 (.ife (.v (.cmp .lt (.bi .len (.cons (.ix (.var 1) (.con (.int 1))) .nil)) (.con (.int 10)))) (.var 2) (.lc false (.nm 10) (.range1 (.con (.int 6))) .no (.call false "_law_stroll" (.cons (.var 0) (.cons (.bi .len (.cons (.ix (.var 1) (.con (.int 1))) .nil)) .nil))) [10]))) (.cons (.for_ (.nm 4) (.val (.var 3)) (.cons (.par [7, 8, 9] (.cons (.lst true .nil) (.cons (.lst true .nil) (.cons (.lst true .nil) .nil)))) (.cons (.for_ (.nm 5) (.val (.var 2)) (.cons (.set 6 (.tup (.cons (.call true "do_clash" (.cons (.var 1) (.cons (.var 4) (.cons (.var 5) .nil)))) (.cons (.callk true "stands_ahead" .nil [2, 1, 0] (.cons (.var 5) (.cons (.var 4) (.cons (.var 1) .nil)))) .nil)))) (.cons (.ife (.not (.v (.call true "_law_same" (.cons (.var 6) (.cons (.tup (.cons (.call true "_law_clash" (.cons (.var 1) (.cons (.var 4) (.cons (.var 5) .nil)))) (.cons (.and (.cmp .ne (.var 4) (.var 5)) (.one (.call true "_law_ahead" (.cons (.var 1) (.cons (.var 4) (.cons (.var 5) .nil)))))) .nil))) .nil))))) (.cons (.ret (.con (.bl false))) .nil) .nil) (.cons (.exp (.meth .extend (.var 7) (.cons (.bin false .mul (.lst false (.cons (.var 5) .nil)) (.bi .int (.cons (.call true "_law_clash" (.cons (.var 1) (.cons (.var 4) (.cons (.var 5) .nil)))) .nil))) .nil))) (.cons (.exp (.meth .extend (.var 8) (.cons (.bin false .mul (.lst false (.cons (.var 5) .nil)) (.bi .int (.cons (.and (.cmp .ne (.var 4) (.var 5)) (.one (.call true "_law_ahead" (.cons (.var 1) (.cons (.var 4) (.cons (.var 5) .nil)))))) .nil))) .nil))) (.cons (.exp (.meth .extend (.var 9) (.cons (.bin false .mul (.lst false (.cons (.var 5) .nil)) (.bi .int (.cons (.and (.cmp .ne (.var 4) (.var 5)) (.one (.call true "_law_ahead" (.cons (.var 1) (.cons (.var 5) (.cons (.var 4) .nil)))))) .nil))) .nil))) .nil)))))) (.cons (.set 6 (.tup (.cons (.call true "clashes_of" (.cons (.var 1) (.cons (.var 4) .nil))) (.cons (.callk true "wishes_behind" .nil [0, 1] (.cons (.var 1) (.cons (.var 4) .nil))) (.cons (.call true "wishes_ahead" (.cons (.var 1) (.cons (.var 4) .nil))) .nil))))) (.cons (.ife (.not (.v (.call true "_law_same" (.cons (.var 6) (.cons (.tup (.cons (.bi .tuple (.cons (.var 7) .nil)) (.cons (.bi .tuple (.cons (.var 8) .nil)) (.cons (.bi .tuple (.cons (.var 9) .nil)) .nil)))) .nil))))) (.cons (.ret (.con (.bl false))) .nil) .nil) .nil))))) (.cons (.ret (.con (.bl true))) .nil))))⟩
def t__law_pairs : Tab := ⟨topS 24, [Str.ofString "meadow", Str.ofString "book", Str.ofString "numbers", Str.ofString "some", Str.ofString "one", Str.ofString "other", Str.ofString "told", Str.ofString "clashes", Str.ofString "behind", Str.ofString "ahead", Str.ofString "lap"], d__law_pairs⟩
def d__law_facts : Fn := ⟨["meadow", "book"], [], 12, (.cons (.set 2 (.ix (.var 1) (.con (.int 1)))) (.cons (.set 3 (.lst true .nil)) (.cons (.for_ (.nm 4) (.range1 (.con (.int 10))) (.cons (.set 5 (.lc false (.nm 6) (.range1 (.bi .len (.cons (.var 2) .nil))) (.so (.v (.cmp .eq (.ix (.ix (.var 2) (.var 6)) (.con (.int 0))) (.var 4)))) (.var 6) [6])) (.cons (.ife (.v (.cmp .gt (.bi .len (.cons (.var 5) .nil)) (.con (.int 0)))) (.cons (.exp (.meth .append (.var 3) (.cons (.var 4) .nil))) (.cons (.par [10, 11] (.cons (.bi .minL (.cons (.lc false (.nm 6) (.val (.var 5)) .no (.ix (.ix (.var 2) (.var 6)) (.con (.int 1))) [6]) .nil)) (.cons (.bi .maxL (.cons (.lc false (.nm 6) (.val (.var 5)) .no (.ix (.ix (.var 2) (.var 6)) (.con (.int 2))) [6]) .nil)) .nil))) (.cons (.ife (.not (.v (.call true "_law_same" (.cons (.tup (.cons (.call true "wishes_of" (.cons (.var 1) (.cons (.var 4) .nil))) (.cons (.callk true "span_of" .nil [1, 0] (.cons (.var 4) (.cons (.var 1) .nil))) .nil))) (.cons (.tup (.cons (.bi .tuple (.cons (.var 5) .nil)) (.cons (.tup (.cons (.var 10) (.cons (.var 11) .nil))) .nil))) .nil))))) (.cons (.ret (.con (.bl false))) .nil) .nil) .nil))) .nil) .nil))) (.cons (.unp [8, 9] (.tup (.cons (.con (.int 0)) (.cons (.con (.int 0)) .nil)))) (.cons (.set 5 (.lc false (.nm 6) (.range1 (.bi .len (.cons (.var 2) .nil))) (.so (.v (.cmp .gt (.call false "_law_stroll" (.cons (.var 0) (.cons (.con (.int 3)) .nil))) (.con (.int 0))))) (.var 6) [6])) (.cons (.for_ (.nm 6) (.range1 (.bi .len (.cons (.var 2) .nil))) (.cons (.set 8 (.bin false .add (.var 8) (.ix (.ix (.var 2) (.var 6)) (.con (.int 3))))) (.cons (.set 9 (.bin false .add (.var 9) (.ife (.v (.cmp .isin (.var 6) (.var 5))) (.bin false .sub (.ix (.ix (.var 2) (.var 6)) (.con (.int 2))) (.ix (.ix (.var 2) (.var 6)) (.con (.int 1)))) (.con (.int 0))))) .nil))) (.cons (.set 7 (.tup (.cons (.call true "rooms_of" (.cons (.var 1) .nil)) (.cons (.call true "total_worth" (.cons (.var 1) .nil)) (.cons (.callk true "busy_time" .nil [1, 0] (.cons (.bi .tuple (.cons (.var 5) .nil)) (.cons (.var 1) .nil))) (.cons (.call true "busy_time" (.cons (.var 1) (.cons (.tup .nil) .nil))) .nil)))))) (.cons (.ret (.call true "_law_same" (.cons (.var 7) (.cons (.tup (.cons (.bi .tuple (.cons (.var 3) .nil)) (.cons (.var 8) (.cons (.var 9) (.cons (.con (.int 0)) .nil))))) .nil)))) .nil))))))))⟩
def t__law_facts : Tab := ⟨topS 25, [Str.ofString "meadow", Str.ofString "book", Str.ofString "wishes", Str.ofString "rooms", Str.ofString "room", Str.ofString "some", Str.ofString "at", Str.ofString "told", Str.ofString "worth", Str.ofString "busy", Str.ofString "begin", Str.ofString "end"], d__law_facts⟩
def d__law_hand : Fn := ⟨[], [], 2, (.cons (.set 0 (.tup (.cons (.con (.int 3)) (.cons (.tup (.cons (.tup (.cons (.con (.int 5)) (.cons (.con (.int 0)) (.cons (.con (.int 10)) (.cons (.con (.int 1)) .nil))))) (.cons (.tup (.cons (.con (.int 5)) (.cons (.con (.int 13)) (.cons (.con (.int 20)) (.cons (.con (.int 2)) .nil))))) (.cons (.tup (.cons (.con (.int 5)) (.cons (.con (.int 12)) (.cons (.con (.int 14)) (.cons (.con (.int 0)) .nil))))) (.cons (.tup (.cons (.con (.int 8)) (.cons (.con (.int 0)) (.cons (.con (.int 10)) (.cons (.con (.int 999)) .nil))))) (.cons (.tup (.cons (.con (.int 5)) (.cons (.con (.int 13)) (.cons (.con (.int 20)) (.cons (.con (.int 2)) .nil))))) .nil)))))) .nil)))) (.cons (.set 1 (.tup (.cons (.call true "stands_ahead" (.cons (.var 0) (.cons (.con (.int 0)) (.cons (.con (.int 1)) .nil)))) (.cons (.call true "stands_ahead" (.cons (.var 0) (.cons (.con (.int 0)) (.cons (.con (.int 2)) .nil)))) (.cons (.call true "do_clash" (.cons (.var 0) (.cons (.con (.int 0)) (.cons (.con (.int 2)) .nil)))) (.cons (.call true "do_clash" (.cons (.var 0) (.cons (.con (.int 0)) (.cons (.con (.int 3)) .nil)))) (.cons (.call true "do_clash" (.cons (.var 0) (.cons (.con (.int 1)) (.cons (.con (.int 4)) .nil)))) (.cons (.call true "do_clash" (.cons (.var 0) (.cons (.con (.int 1)) (.cons (.con (.int 1)) .nil)))) (.cons (.call true "stands_ahead" (.cons (.var 0) (.cons (.con (.int 1)) (.cons (.con (.int 1)) .nil)))) (.cons (.call true "clashes_of" (.cons (.var 0) (.cons (.con (.int 2)) .nil))) (.cons (.call true "wishes_behind" (.cons (.var 0) (.cons (.con (.int 0)) .nil))) (.cons (.call true "wishes_ahead" (.cons (.var 0) (.cons (.con (.int 4)) .nil))) .nil)))))))))))) (.cons (.ife (.not (.v (.call true "_law_same" (.cons (.var 1) (.cons (.tup (.cons (.con (.bl true)) (.cons (.con (.bl false)) (.cons (.con (.bl true)) (.cons (.con (.bl false)) (.cons (.con (.bl true)) (.cons (.con (.bl false)) (.cons (.con (.bl false)) (.cons (.tup (.cons (.con (.int 0)) (.cons (.con (.int 1)) (.cons (.con (.int 4)) .nil)))) (.cons (.tup (.cons (.con (.int 1)) (.cons (.con (.int 4)) .nil))) (.cons (.tup (.cons (.con (.int 0)) .nil)) .nil))))))))))) .nil))))) (.cons (.ret (.con (.bl false))) .nil) .nil) (.cons (.set 1 (.tup (.cons (.call true "rooms_of" (.cons (.var 0) .nil)) (.cons (.call true "wishes_of" (.cons (.var 0) (.cons (.con (.int 5)) .nil))) (.cons (.call true "total_worth" (.cons (.var 0) .nil)) (.cons (.call true "span_of" (.cons (.var 0) (.cons (.con (.int 5)) .nil))) (.cons (.call true "span_of" (.cons (.var 0) (.cons (.con (.int 8)) .nil))) (.cons (.call true "busy_time" (.cons (.var 0) (.cons (.tup (.cons (.con (.int 0)) (.cons (.con (.int 3)) (.cons (.con (.int 4)) .nil)))) .nil))) (.cons (.call true "clashes_of" (.cons (.var 0) (.cons (.con (.int 3)) .nil))) (.cons (.call true "wishes_ahead" (.cons (.var 0) (.cons (.con (.int 3)) .nil))) .nil)))))))))) (.cons (.ret (.call true "_law_same" (.cons (.var 1) (.cons (.tup (.cons (.tup (.cons (.con (.int 5)) (.cons (.con (.int 8)) .nil))) (.cons (.tup (.cons (.con (.int 0)) (.cons (.con (.int 1)) (.cons (.con (.int 2)) (.cons (.con (.int 4)) .nil))))) (.cons (.con (.int 1004)) (.cons (.tup (.cons (.con (.int 0)) (.cons (.con (.int 20)) .nil))) (.cons (.tup (.cons (.con (.int 0)) (.cons (.con (.int 10)) .nil))) (.cons (.con (.int 27)) (.cons (.tup .nil) (.cons (.tup .nil) .nil))))))))) .nil)))) .nil)))))⟩
def t__law_hand : Tab := ⟨topS 26, [Str.ofString "n", Str.ofString "told"], d__law_hand⟩
def d_law : Fn := ⟨["script"], [], 4, (.cons (.set 1 (.call false "_law_meadow" (.cons (.var 0) .nil))) (.cons (.ife (.not (.v (.call true "_law_hand" .nil))) (.cons (.ret (.con (.bl false))) .nil) .nil) (.cons (.for_ (.nm 2) (.range1 (.con (.int 3))) (.cons (.set 3 (.call false "_law_book" (.cons (.var 1) (.cons (.bin false .add (.con (.int 1)) (.call false "_law_stroll" (.cons (.var 1) (.cons (.con (.int 8)) .nil)))) (.cons (.con (.int 3)) .nil))))) (.cons (.ife (.or (.not (.v (.call false "_law_pairs" (.cons (.var 1) (.cons (.var 3) .nil))))) (.one (.not (.v (.call false "_law_facts" (.cons (.var 1) (.cons (.var 3) .nil))))))) (.cons (.ret (.con (.bl false))) .nil) .nil) .nil))) (.cons (.ife (.v (.cmp .ne (.call false "_law_stroll" (.cons (.var 1) (.cons (.con (.int 11)) .nil))) (.con (.int 3)))) (.cons (.ret (.con (.bl true))) .nil) .nil) (.cons (.set 3 (.call false "_law_book" (.cons (.var 1) (.cons (.con (.int 60)) (.cons (.con (.int 10)) .nil))))) (.cons (.ret (.and (.call false "_law_pairs" (.cons (.var 1) (.cons (.var 3) .nil))) (.one (.call false "_law_facts" (.cons (.var 1) (.cons (.var 3) .nil)))))) .nil))))))⟩
def t_law : Tab := ⟨topS 27, [Str.ofString "script", Str.ofString "meadow", Str.ofString "lap", Str.ofString "book"], d_law⟩
def tabs : List (String × Tab) := [("is_ahead", t_is_ahead), ("are_clashing", t_are_clashing), ("do_clash", t_do_clash), ("stands_ahead", t_stands_ahead), ("all_numbers", t_all_numbers), ("clashes_of", t_clashes_of), ("wishes_behind", t_wishes_behind), ("wishes_ahead", t_wishes_ahead), ("rooms_of", t_rooms_of), ("wishes_of", t_wishes_of), ("total_worth", t_total_worth), ("span_of", t_span_of), ("busy_time", t_busy_time), ("_law_meadow", t__law_meadow), ("_law_stroll", t__law_stroll), ("_law_of", t__law_of), ("_law_same", t__law_same), ("_law_book", t__law_book), ("_law_ahead", t__law_ahead), ("_law_clash", t__law_clash), ("_law_pairs", t__law_pairs), ("_law_facts", t__law_facts), ("_law_hand", t__law_hand), ("law", t_law)]
def Ψ (f : String) : Option Tab := tabs.lookup f
theorem c_is_ahead : chkTab (tabF Ψ) t_is_ahead = true := by decide +kernel
theorem c_are_clashing : chkTab (tabF Ψ) t_are_clashing = true := by decide +kernel
theorem c_do_clash : chkTab (tabF Ψ) t_do_clash = true := by decide +kernel
theorem c_stands_ahead : chkTab (tabF Ψ) t_stands_ahead = true := by decide +kernel
theorem c_all_numbers : chkTab (tabF Ψ) t_all_numbers = true := by decide +kernel
theorem c_clashes_of : chkTab (tabF Ψ) t_clashes_of = true := by decide +kernel
theorem c_wishes_behind : chkTab (tabF Ψ) t_wishes_behind = true := by decide +kernel
theorem c_wishes_ahead : chkTab (tabF Ψ) t_wishes_ahead = true := by decide +kernel
theorem c_rooms_of : chkTab (tabF Ψ) t_rooms_of = true := by decide +kernel
theorem c_wishes_of : chkTab (tabF Ψ) t_wishes_of = true := by decide +kernel
theorem c_total_worth : chkTab (tabF Ψ) t_total_worth = true := by decide +kernel
theorem c_span_of : chkTab (tabF Ψ) t_span_of = true := by decide +kernel
theorem c_busy_time : chkTab (tabF Ψ) t_busy_time = true := by decide +kernel
theorem c__law_meadow : chkTab (tabF Ψ) t__law_meadow = true := by decide +kernel
theorem c__law_stroll : chkTab (tabF Ψ) t__law_stroll = true := by decide +kernel
theorem c__law_of : chkTab (tabF Ψ) t__law_of = true := by decide +kernel
theorem c__law_same : chkTab (tabF Ψ) t__law_same = true := by decide +kernel
theorem c__law_book : chkTab (tabF Ψ) t__law_book = true := by decide +kernel
theorem c__law_ahead : chkTab (tabF Ψ) t__law_ahead = true := by decide +kernel
theorem c__law_clash : chkTab (tabF Ψ) t__law_clash = true := by decide +kernel
theorem c__law_pairs : chkTab (tabF Ψ) t__law_pairs = true := by decide +kernel
theorem c__law_facts : chkTab (tabF Ψ) t__law_facts = true := by decide +kernel
theorem c__law_hand : chkTab (tabF Ψ) t__law_hand = true := by decide +kernel
theorem c_law : chkTab (tabF Ψ) t_law = true := by decide +kernel
end K01

namespace K01
open PySem PySem.Spec L2 Mi
abbrev Φ := tabF Ψ
/-- a wish -/
structure W where
  r : Int
  b : Int
  e : Int
  w : Int
def W.m (x : W) : M := .tup [.int x.r, .int x.b, .int x.e, .int x.w]
def bk (c : Int) (ws : List W) : M := .tup [.int c, .tup (ws.map W.m)]
theorem pure_call {call : String → List M → Store → R M} {f : String} {ms : List M} {S S' : Store} {r m : M} (h1 : derefs S ms = some ms) (h2 : call f ms [] = .ok m S') (h3 : freeze S' m = some r) : callM call true f ms S = .ok r S := by
  unfold callM
  rw [if_pos rfl, h1, R.of_some, h2]
  show R.of (freeze S' m) (fun r => .ok r S) = _
  rw [h3]; rfl
theorem nor_w (ws : List W) : M.noref.go (ws.map W.m) = true := by
  induction ws with
  | nil => rfl
  | cons x ws ih => simp [M.noref.go, W.m, M.noref, ih]
theorem de_w (S : Store) (x : W) : derefA S x.m = some x.m := by simp [W.m, derefA, M.noref, M.noref.go]
theorem de_bk (S : Store) (c : Int) (ws : List W) : derefA S (bk c ws) = some (bk c ws) := by simp [bk, derefA, M.noref, M.noref.go, nor_w]
theorem de_int (S : Store) (i : Int) : derefA S (.int i) = some (.int i) := by simp [derefA, M.noref]
theorem fz_bl (S : Store) (b : Bool) : freeze S (.bl b) = some (.bl b) := by simp [freeze, M.plain]
theorem fz_int (S : Store) (b : Int) : freeze S (.int b) = some (.int b) := by simp [freeze, M.plain]
theorem ahead_eq (k : Nat) (c : Int) (x y : W) : evalFn Φ (k + 1) "is_ahead" [.int c, x.m, y.m] [] = .ok (.bl (decide (x.r = y.r) && decide (x.e + c ≤ y.b))) [] := by
  have h : Φ "is_ahead" = some d_is_ahead := by rfl
  simp only [evalFn, h, d_is_ahead]
  simp [exs, ex, ev, Kon.m, W.m, ixop, seqOf, atI, ixN, binop, cmpop, eqM]
  cases e : (x.r == y.r) <;> simp_all [fin]
theorem clash_eq (k : Nat) (c : Int) (x y : W) : evalFn Φ (k + 1) "are_clashing" [.int c, x.m, y.m] [] = .ok (.bl (decide (x.r = y.r) && (decide (y.b < x.e + c) && decide (x.b < y.e + c)))) [] := by
  have h : Φ "are_clashing" = some d_are_clashing := by rfl
  simp only [evalFn, h, d_are_clashing]
  simp [exs, ex, ev, Kon.m, W.m, ixop, seqOf, atI, ixN, binop, cmpop, eqM]
  cases e : (x.r == y.r) <;> cases e2 : decide (y.b < x.e + c) <;> simp_all [fin]
theorem at_w {ws : List W} {i : Nat} {x : W} (h : ws[i]? = some x) : atI (ws.map W.m) (i : Int) = some x.m := by
  have hl := (List.getElem?_eq_some_iff.mp h).1
  unfold atI ixN
  rw [if_pos (by omega), if_pos (by simp; omega)]
  simp [h]
theorem beq_nat (i j : Nat) : ((i : Int) == (j : Int)) = decide (i = j) := by
  by_cases h : i = j
  · simp [h]
  · rw [decide_eq_false h, beq_eq_false_iff_ne]; omega
theorem a20 (a b : M) : atI [a, b] 0 = some a := rfl
theorem a21 (a b : M) : atI [a, b] 1 = some b := rfl
theorem a40 (a b c d : M) : atI [a, b, c, d] 0 = some a := rfl
theorem a41 (a b c d : M) : atI [a, b, c, d] 1 = some b := rfl
theorem a42 (a b c d : M) : atI [a, b, c, d] 2 = some c := rfl
theorem a43 (a b c d : M) : atI [a, b, c, d] 3 = some d := rfl
def clashB (c : Int) (x y : W) : Bool := decide (x.r = y.r) && (decide (y.b < x.e + c) && decide (x.b < y.e + c))
def aheadB (c : Int) (x y : W) : Bool := decide (x.r = y.r) && decide (x.e + c ≤ y.b)
theorem doclash_eq (k : Nat) (c : Int) (ws : List W) (i j : Nat) (x y : W) (hx : ws[i]? = some x) (hy : ws[j]? = some y) :
    evalFn Φ (k + 2) "do_clash" [bk c ws, .int i, .int j] [] = .ok (.bl (decide (i ≠ j) && clashB c x y)) [] := by
  have h : Φ "do_clash" = some d_do_clash := by rfl
  have e1 := at_w hx
  have e2 := at_w hy
  have e3 := pure_call (S := []) (by simp [derefs, de_int, de_w]) (clash_eq k c x y) (fz_bl _ _)
  rw [evalFn]
  simp only [h, d_do_clash]
  simp [exs, ex, ev, evs, Kon.m, bk, ixop, seqOf, binop, cmpop, eqM, e1, e2, beq_nat, a20, a21]
  by_cases e : i = j
  · simp [e, fin]
  · simp [e, fin, e1, e2, seqOf, e3, a20, a21, clashB]
theorem stands_eq (k : Nat) (c : Int) (ws : List W) (i j : Nat) (x y : W) (hx : ws[i]? = some x) (hy : ws[j]? = some y) :
    evalFn Φ (k + 2) "stands_ahead" [bk c ws, .int i, .int j] [] = .ok (.bl (aheadB c x y)) [] := by
  have h : Φ "stands_ahead" = some d_stands_ahead := by rfl
  have e1 := at_w hx
  have e2 := at_w hy
  have e3 := pure_call (S := []) (by simp [derefs, de_int, de_w]) (ahead_eq k c x y) (fz_bl _ _)
  rw [evalFn]
  simp only [h, d_stands_ahead]
  simp [exs, ex, ev, evs, Kon.m, bk, ixop, seqOf, e1, e2, e3, a20, a21, fin, aheadB]

theorem len1_eq {call : String → List M → Store → R M} (c : Int) (ws : List W) (γ : Mi.Env) (S : Store) : ev call (.bi .len (.cons (.ix (.var 0) (.con (.int 1))) .nil)) (some (bk c ws) :: γ) S = .ok (.int ws.length) S := by
  have e : ev call (.ix (.var 0) (.con (.int 1))) (some (bk c ws) :: γ) S = .ok (.tup (ws.map W.m)) S := by simp [ev, Kon.m, bk, ixop, seqOf, a21]
  simp only [ev, evs] at e ⊢
  rw [e]
  simp [biop, seqOf]
theorem numbers_eq (k : Nat) (c : Int) (ws : List W) (hl : ws.length ≤ 1000) : evalFn Φ (k + 1) "all_numbers" [bk c ws] [] = .ok (.ref 0) [.lst ((List.range ws.length).map fun i : Nat => M.int (i : Int))] := by
  have h : Φ "all_numbers" = some d_all_numbers := by rfl
  rw [evalFn]
  simp only [h, d_all_numbers]
  have e1 : evs (evalFn Φ k) (.cons (.bi .len (.cons (.ix (.var 0) (.con (.int 1))) .nil)) .nil) [some (bk c ws)] [] = .ok [.int ws.length] [] := by
    rw [evs, len1_eq]
    rfl
  have e2 := ev_lrange (al := true) e1 rfl (rg_len _ (by omega))
  simp [exs, ex]
  rw [e2]
  simp [mkL, fin, rangeN]
theorem numbers_call (k : Nat) (c : Int) (ws : List W) (S : Store) (hl : ws.length ≤ 1000) : callM (evalFn Φ (k + 1)) true "all_numbers" [bk c ws] S = .ok (.lst ((List.range ws.length).map fun i : Nat => M.int (i : Int))) S := by
  refine pure_call (by simp [derefs, de_bk]) (numbers_eq k c ws hl) ?_
  have := plain_ints (fun i : Nat => (i : Int)) (List.range ws.length)
  simp only [freeze, List.getElem?_cons_zero, this, if_true]
theorem fm_filter (P : Nat → Bool) (l : List Nat) : (l.map fun i : Nat => M.int (i : Int)).filterMap (fun m => match m with | .int j => if P j.toNat then some (M.int j) else none | _ => none) = (l.filter P).map fun i : Nat => M.int (i : Int) := by
  induction l with
  | nil => rfl
  | cons a l ih =>
    rw [List.map_cons, List.filterMap_cons, List.filter_cons]
    by_cases h : P a = true
    · simp [h] at ih ⊢; exact ih
    · simp [h] at ih ⊢; exact ih
/-- the three lists of numbers -/
theorem pick_eq (k : Nat) (f g : String) (P : Nat → Bool) (c : Int) (ws : List W) (i : Nat) (hl : ws.length ≤ 1000) (d : Fn) (sw : Bool)
    (h : Φ f = some d) (h1 : d.ps.length = 2) (h2 : d.ns = 3) (h3 : d.body = .cons (.ret (.bi .tuple (.cons (.lc false (.nm 2) (.val (.call true "all_numbers" (.cons (.var 0) .nil))) (.so (.v (.call true g (.cons (.var 0) (if sw then .cons (.var 2) (.cons (.var 1) .nil) else .cons (.var 1) (.cons (.var 2) .nil)))))) (.var 2) [2]) .nil))) .nil)
    (hg : ∀ j : Nat, j < ws.length → evalFn Φ (k + 2) g (if sw then [bk c ws, .int j, .int i] else [bk c ws, .int i, .int j]) [] = .ok (.bl (P j)) []) :
    evalFn Φ (k + 3) f [bk c ws, .int i] [] = .ok (.tup (((List.range ws.length).filter P).map fun j : Nat => M.int (j : Int))) [] := by
  have hn := numbers_call (k + 1) c ws [] hl
  rw [evalFn]
  simp only [h, h1, h2, h3]
  have e1 : evI (evalFn Φ (k + 2)) (.val (.call true "all_numbers" (.cons (.var 0) .nil))) [some (bk c ws), some (.int i), none] [] = .ok ⟨(List.range ws.length).map fun i : Nat => M.int (i : Int), .lst ((List.range ws.length).map fun i : Nat => M.int (i : Int)), (List.range ws.length).map fun i : Nat => M.int (i : Int)⟩ [] := by
    refine evI_val (m := .lst _) ?_ rfl
    rw [ev_call (ms := [bk c ws]) (S' := [])]
    · exact hn
    · simp [evs, ev]
  have e2 := ev_lcP (al := false) (tg := .nm 2) (ifs := .so (.v (.call true g (.cons (.var 0) (if sw then .cons (.var 2) (.cons (.var 1) .nil) else .cons (.var 1) (.cons (.var 2) .nil)))))) (e := .var 2) (own := [2]) (fun m => match m with | .int j => if P j.toNat then some (.int j) else none | _ => none) e1 (by
    show ((List.range ws.length).map fun i : Nat => M.int (i : Int)).length ≤ big
    simp [big]; omega) (by rfl) (by
    intro x hx
    obtain ⟨j, hj, rfl⟩ := List.mem_map.mp hx
    have hj := List.mem_range.mp hj
    have hc := pure_call (S := []) (by cases sw <;> simp [derefs, de_bk, de_int]) (hg j hj) (fz_bl _ _)
    unfold turnP
    cases sw
    · simp [bindT, wipeE, evt, evT, ev, evs] at hc ⊢
      rw [hc]
      simp [truth]
      by_cases hp : P j = true <;> simp [hp, R.calm]
    · simp [bindT, wipeE, evt, evT, ev, evs] at hc ⊢
      rw [hc]
      simp [truth]
      by_cases hp : P j = true <;> simp [hp, R.calm])
  have e3 : ev (evalFn Φ (k + 2)) (.bi .tuple (.cons (.lc false (.nm 2) (.val (.call true "all_numbers" (.cons (.var 0) .nil))) (.so (.v (.call true g (.cons (.var 0) (if sw then .cons (.var 2) (.cons (.var 1) .nil) else .cons (.var 1) (.cons (.var 2) .nil)))))) (.var 2) [2]) .nil)) [some (bk c ws), some (.int i), none] [] = .ok (.tup (((List.range ws.length).filter P).map fun j : Nat => M.int (j : Int))) [] := by
    rw [ev, evs, e2]
    simp only [fm_filter]
    rfl
  simp only [exs, ex]
  show R.when _ (((R.bind (ev (evalFn Φ (k + 2)) _ [some (bk c ws), some (.int i), none] []) _).bind _).bind fin) = _
  rw [e3]
  rfl
theorem ev_true_sw : True := trivial
end K01

namespace K01
open PySem PySem.Spec L2 Mi
/-! ### the drawing -/
def rng (g0 : List M) (gs : List Int) (st c : Int) : Store := [.lst g0, .lst (gs.map M.int), .lst [.ref 1, .int st, .int c]]
def Rn (S L : Store) : Prop := ∃ g0 gs st c, S = rng g0 gs st c ++ L
theorem atI_last {ms : List M} {m : M} : atI (ms ++ [m]) (-1) = some m := by
  unfold atI ixN
  have e : (-1 + ((ms ++ [m]).length : Int)).toNat = ms.length := by simp; omega
  rw [if_neg (by omega), if_pos (by simp; omega)]
  show (ms ++ [m])[(-1 + ((ms ++ [m]).length : Int)).toNat]? = _
  rw [e]
  simp
theorem a30 (a b c : M) : atI [a, b, c] 0 = some a := rfl
theorem a31 (a b c : M) : atI [a, b, c] 1 = some b := rfl
theorem a32 (a b c : M) : atI [a, b, c] 2 = some c := rfl
theorem set_last (l : List Int) (x y : M) : (l.map M.int ++ [x]).set l.length y = l.map M.int ++ [y] := by
  rw [List.set_append_right _ _ (by simp)]
  simp
theorem stroll (k : Nat) (m : Int) (hm : m < 2 ^ 64) {S L : Store} (h : Rn S L) {P : M → Store → Prop} (hP : ∀ v S', Rn S' L → (m < 2 → v = 0) → (2 ≤ m → 0 ≤ v ∧ v < m) → P (.int v) S') : Wp (evalFn Φ (k + 1) "_law_stroll" [.ref 2, .int m] S) P := by
  obtain ⟨g0, gs, st, c, rfl⟩ := h
  have hΦ : Φ "_law_stroll" = some d__law_stroll := by rfl
  refine wp_fn hΦ rfl ?_
  simp only [d__law_stroll]
  by_cases h2 : m < 2
  · simp [exs, ex, ev, evT, Kon.m, cmpop, truth, h2, fin, wp_ok]
    exact hP 0 _ ⟨g0, gs, st, c, rfl⟩ (fun _ => rfl) (fun h => by omega)
  · have hd : ∀ i, CDivOk i m := fun i => cdiv_s (by omega) hm
    have hr : ∀ z : Int, 0 ≤ z % m ∧ z % m < m := fun z => ⟨Int.emod_nonneg _ (by omega), Int.emod_lt_of_pos _ (by omega)⟩
    rcases List.eq_nil_or_concat gs with rfl | ⟨gs', z, rfl⟩
    · simp [exs, ex, ev, evs, evT, Kon.m, cmpop, truth, h2, fin, wp_ok, wp_bind, biop, seqOf, rng, ixop, ixN, a30, a31, a32, ixlop, lstOf, setiop, augop, binop, wp_when, cmul_r, cdiv_s, hd, show (0:Int) < m by omega]
      exact hP _ _ ⟨g0, [], _, _, rfl⟩ (fun h => absurd h h2) fun _ => hr _
    · have e1 : (1 : Int) ≤ gs'.length + 1 := by omega
      have e2 : (-1 + ((gs'.length : Int) + 1)).toNat = gs'.length := by omega
      by_cases hz : z < m
      · simp [exs, ex, ev, evs, evT, Kon.m, cmpop, truth, h2, hz, fin, wp_ok, wp_bind, biop, seqOf, rng, ixN, a30, a31, a32, ixop, ixlop, lstOf, setiop, augop, binop, meop, wp_when, cmul_r, cdiv_s, hd, atI_last, e1, e2, set_last, show (0:Int) < m by omega]
        exact hP _ _ ⟨g0, gs', st, c, rfl⟩ (fun h => absurd h h2) fun _ => hr _
      · simp [exs, ex, ev, evs, evT, Kon.m, cmpop, truth, h2, hz, fin, wp_ok, wp_bind, biop, seqOf, rng, ixN, a30, a31, a32, ixop, ixlop, lstOf, setiop, augop, binop, meop, wp_when, cmul_r, cdiv_s, hd, atI_last, e1, e2, set_last, show (0:Int) < m by omega]
        refine hP _ _ ⟨g0, gs' ++ [z / m], st, c, ?_⟩ (fun h => absurd h h2) fun _ => hr _
        simp [rng]
/-- one of a row -/
theorem law_of (k : Nat) (row : M) (xs : List M) (hx : xs ≠ []) (hl : xs.length ≤ 1000) {S L : Store} (h : Rn S L) (hrow : ∀ S, Rn S L → seqOf S row = some xs) (hs : ∀ x, row ≠ .str x) {P : M → Store → Prop} (hP : ∀ x S', x ∈ xs → Rn S' L → P x S') : Wp (evalFn Φ (k + 2) "_law_of" [.ref 2, row] S) P := by
  have hΦ : Φ "_law_of" = some d__law_of := by rfl
  refine wp_fn hΦ rfl ?_
  have e0 := hrow S h
  have elen : biop .len [row] S = .ok (.int xs.length) S := by
    cases row <;> simp_all [biop]
  have hp : 0 < xs.length := List.length_pos_iff.mpr hx
  simp [d__law_of, exs, ex, ev, evs, wp_bind, callM, elen]
  refine stroll k xs.length (by omega) h fun v S' h' v0 v1 => ?_
  have hv : 0 ≤ v ∧ v < xs.length := by
    rcases Nat.lt_or_ge xs.length 2 with q | q
    · rw [v0 (by omega)]; omega
    · exact v1 (by omega)
  have e1 : atI xs v = some xs[v.toNat] := by
    unfold atI ixN
    rw [if_pos hv.1, if_pos hv.2]
    simp [show v.toNat < xs.length by omega]
  have ei : ixop row (.int v) S' = .ok xs[v.toNat] S' := by
    simp [ixop, hrow S' h', e1]
  rw [ei]
  exact hP _ _ (List.getElem_mem _) h'
end K01

namespace K01
open PySem PySem.Spec L2 Mi
theorem cut_mem {xs : List M} {lo hi : Option Int} : (∀ x ∈ cutM xs lo hi, x ∈ xs) ∧ (cutM xs lo hi).length ≤ xs.length := by
  unfold cutM
  refine ⟨fun x h => List.mem_of_mem_drop (List.mem_of_mem_take h), ?_⟩
  rw [List.length_take, List.length_drop]
  omega
theorem meadow (k : Nat) (ns : List Int) (hn : ns.length ≤ 63) {P : M → Store → Prop} (hP : ∀ S', Rn S' [] → P (.ref 2) S') : Wp (evalFn Φ (k + 1) "_law_meadow" [.scr ns] []) P := by
  have hΦ : Φ "_law_meadow" = some d__law_meadow := by rfl
  refine wp_fn hΦ rfl ?_
  have hc := cut_mem (xs := ns.map M.int) (lo := none) (hi := some 60)
  obtain ⟨cs, ecs⟩ : ∃ cs, cutM (ns.map M.int) none (some 60) = cs := ⟨_, rfl⟩
  rw [ecs] at hc
  have hl : cs.length ≤ 63 := by have := hc.2; simp at this; omega
  simp [d__law_meadow, exs, ex, ev, evs, evI, evo, wp_bind, mkL, wp_ok, Kon.m, slop, seqOf, ecs]
  refine wp_for (fun i γ S => ∃ (gs : List Int) (st : Int) (c3 c4 : Option M), γ = [some (.scr ns), some (.ref 0), some (.int st), c3, c4] ∧ S = [.lst (gs.map M.int)] ∧ gs.length ≤ i) cs ?_ ?_ ?_ _ _ ?_
  · rintro i γ S hi ⟨gs, st, c3, c4, rfl, rfl, hg⟩
    rfl
  · rintro i x γ S hx ⟨gs, st, c3, c4, rfl, rfl, hg⟩
    have hi : i < 63 := by have := (List.getElem?_eq_some_iff.mp hx).1; omega
    obtain ⟨z, _, rfl⟩ := List.mem_map.mp (hc.1 x (List.mem_of_getElem? hx))
    simp [bindT, wp_some, exs, ex, ev, evs, evT, wp_bind, wp_ok, Kon.m, biop, binop, cmpop, wp_when, cmul_r, truth, wp_ite]
    refine ⟨by decide +kernel, by decide +kernel, by decide +kernel, by decide +kernel, by decide +kernel, by decide +kernel, ?_⟩
    have hb : gs.length < big := by unfold big; omega
    generalize (if z < 0 then -z else z) = v
    split
    · rename_i h
      simp [lstOf, meop, wp_when, wp_ok, hb]
      exact ⟨_, (List.map_append (f := M.int) (l₁ := gs) (l₂ := [_])).symm, by rw [List.length_append, List.length_singleton]; omega⟩
    · exact ⟨gs, rfl, by omega⟩
  · rintro γ S ⟨gs, st, c3, c4, rfl, rfl, hg⟩
    simp [ev, evs, Kon.m, wp_ok, wp_bind, lstOf, mkL, fin]
    refine hP _ ⟨gs.map M.int, gs.reverse, st, 0, ?_⟩
    simp [rng]
  · exact ⟨[], 523011, none, none, by simp, by simp, by simp⟩
end K01

namespace Mi
open PySem PySem.Spec L2

/-! ### the evaluator's equations, loops left closed -/
section
variable (call : String → List M → Store → R M) (γ : Mi.Env) (S : Store)
def varM (γ : Mi.Env) (i : Nat) (S : Store) : R M := match γ[i]? with
  | some (some m) => .ok m S
  | _ => .bad
def negM (m : M) (S : Store) : R M := match m with
  | .int i => .ok (.int (-i)) S
  | _ => .bad
def notM (m : M) (S : Store) : R M := match m with
  | .bl b => .ok (.bl !b) S
  | _ => .bad
/-- a bool that is asked for -/
def boolM (m : M) (S : Store) : R Bool := match m with
  | .bl b => .ok b S
  | _ => .bad
def intM (m : M) (S : Store) : R Int := match m with
  | .int b => .ok b S
  | _ => .bad
def lcRun (tg : Tg) (ifs : To) (e : C) (own : List Nat) (s : Src) : R (List M) := .when (s.items.length ≤ big) (compLoop s (fun x S => turnP call tg ifs e (wipeE γ own) S x) s.items S)
def sscRun (tg : Tg) (ifs : To) (e : C) (own : List Nat) (s : Src) : R (List M) := .when (s.items.length ≤ 4000) (compLoop s (fun x S => turnP call tg ifs e (wipeE γ own) S x) s.items S)
def forRun (tg : Tg) (b : Sms) (s : Src) : R F := forLoop s (fun x γ S => .of (bindT tg x γ) fun γ1 => exs call b γ1 S) s.items γ S
def whileRun (t : T) (b : Sms) : R F := whileLoop (evT call t) (fun γ S => exs call b γ S) lim γ S
def nextM (f : F) (r : Sms) (S : Store) : R F := match f with
  | .nx γ1 => exs call r γ1 S
  | f => .ok f S
@[simp] theorem nextM_nx (γ1 : Mi.Env) (r : Sms) : nextM call (.nx γ1) r S = exs call r γ1 S := rfl
@[simp] theorem nextM_ret (m : M) (r : Sms) : nextM call (.ret m) r S = .ok (.ret m) S := rfl
@[simp] theorem nextM_brk (γ1 : Mi.Env) (r : Sms) : nextM call (.brk γ1) r S = .ok (.brk γ1) S := rfl
@[simp] theorem nextM_cnt (γ1 : Mi.Env) (r : Sms) : nextM call (.cnt γ1) r S = .ok (.cnt γ1) S := rfl
@[simp] theorem q_var (i : Nat) : ev call (.var i) γ S = varM γ i S := by simp only [ev]; rfl
@[simp] theorem varM_0 (m : M) (γ : Mi.Env) : varM (some m :: γ) 0 S = .ok m S := rfl
@[simp] theorem varM_s (m : Option M) (γ : Mi.Env) (i : Nat) : varM (m :: γ) (i + 1) S = varM γ i S := rfl
@[simp] theorem q_non : ev call (.con .non) γ S = .ok .non S := by simp only [ev]; rfl
@[simp] theorem q_cbl (b : Bool) : ev call (.con (.bl b)) γ S = .ok (.bl b) S := by simp only [ev]; rfl
@[simp] theorem q_cint (i : Int) : ev call (.con (.int i)) γ S = .ok (.int i) S := by simp only [ev]; rfl
@[simp] theorem q_cstr (s : String) : ev call (.con (.str s)) γ S = .ok (.str (Str.ofString s)) S := by simp only [ev]; rfl
@[simp] theorem q_tup (es : Cs) : ev call (.tup es) γ S = (evs call es γ S).bind fun ms S => .when (ms.length ≤ big) (.ok (.tup ms) S) := by simp only [ev]
@[simp] theorem q_lst (al : Bool) (es : Cs) : ev call (.lst al es) γ S = (evs call es γ S).bind fun ms S => .when (ms.length ≤ big) (mkL al ms S) := by simp only [ev]
@[simp] theorem q_bin (al : Bool) (o : Bop) (a b : C) : ev call (.bin al o a b) γ S = (ev call a γ S).bind fun x S => (ev call b γ S).bind fun y S => binop al o x y S := by simp only [ev]
@[simp] theorem q_neg (a : C) : ev call (.neg a) γ S = (ev call a γ S).bind fun x S => negM x S := by simp only [ev]; rfl
@[simp] theorem negM_int (i : Int) : negM (.int i) S = .ok (.int (-i)) S := rfl
@[simp] theorem q_cmp (o : Cop) (a b : C) : ev call (.cmp o a b) γ S = (ev call a γ S).bind fun x S => (ev call b γ S).bind fun y S => cmpop o x y S := by simp only [ev]
@[simp] theorem q_chain (o o' : Cop) (a b c : C) : ev call (.chain o o' a b c) γ S = (ev call a γ S).bind fun x S => (ev call b γ S).bind fun y S => (cmpop o x y S).bind fun r S => (boolM r S).bind fun r S => if r = true then (ev call c γ S).bind fun z S => cmpop o' y z S else .ok (.bl false) S := by
  simp only [ev]
  congr; funext x S; congr; funext y S; congr; funext r S
  cases r with
  | bl b => cases b <;> rfl
  | _ => rfl
@[simp] theorem q_and (a b : C) : ev call (.and a b) γ S = (ev call a γ S).bind fun x S => (boolM x S).bind fun r S => if r = true then ev call b γ S else .ok (.bl false) S := by
  simp only [ev]
  congr; funext r S
  cases r with
  | bl b => cases b <;> rfl
  | _ => rfl
@[simp] theorem q_or (a b : C) : ev call (.or a b) γ S = (ev call a γ S).bind fun x S => (boolM x S).bind fun r S => if r = true then .ok (.bl true) S else ev call b γ S := by
  simp only [ev]
  congr; funext r S
  cases r with
  | bl b => cases b <;> rfl
  | _ => rfl
@[simp] theorem boolM_bl (b : Bool) : boolM (.bl b) S = .ok b S := rfl
@[simp] theorem intM_int (b : Int) : intM (.int b) S = .ok b S := rfl
@[simp] theorem q_one (a : C) : ev call (.one a) γ S = ev call a γ S := by simp only [ev]
@[simp] theorem q_not (a : C) : ev call (.not a) γ S = (ev call a γ S).bind fun x S => notM x S := by simp only [ev]; rfl
@[simp] theorem notM_bl (b : Bool) : notM (.bl b) S = .ok (.bl !b) S := rfl
@[simp] theorem q_ife (t : T) (a b : C) : ev call (.ife t a b) γ S = (evT call t γ S).bind fun c S => if c = true then ev call a γ S else ev call b γ S := by simp only [ev]
@[simp] theorem q_ix (a i : C) : ev call (.ix a i) γ S = (ev call a γ S).bind fun x S => (ev call i γ S).bind fun y S => ixop x y S := by simp only [ev]
@[simp] theorem q_sl (al : Bool) (a : C) (lo hi : Co) : ev call (.sl al a lo hi) γ S = (ev call a γ S).bind fun x S => (evo call lo γ S).bind fun l S => (evo call hi γ S).bind fun h S => slop al x l h S := by simp only [ev]
@[simp] theorem q_rev (al : Bool) (a : C) : ev call (.rev al a) γ S = (ev call a γ S).bind fun x S => .of (lstOf S x) fun ms => mkL al ms.reverse S := by simp only [ev]
@[simp] theorem q_call (pu : Bool) (f : String) (es : Cs) : ev call (.call pu f es) γ S = (evs call es γ S).bind fun ms S => callM call pu f ms S := by simp only [ev]
@[simp] theorem q_callk (pu : Bool) (f : String) (es : Cs) (qs : List Nat) (kes : Cs) : ev call (.callk pu f es qs kes) γ S = (evs call es γ S).bind fun ms S => (evs call kes γ S).bind fun ns S => .when (ms.length = es.len ∧ ns.length = qs.length) (callM call pu f (place qs ms ns) S) := by simp only [ev]
@[simp] theorem q_bi (b : Bi) (es : Cs) : ev call (.bi b es) γ S = (evs call es γ S).bind fun ms S => biop b ms S := by simp only [ev]
@[simp] theorem q_isi (a : C) (ts : List String) : ev call (.isi a ts) γ S = (ev call a γ S).bind fun x S => isiop x ts S := by simp only [ev]
@[simp] theorem q_lrange (al : Bool) (es : Cs) : ev call (.lrange al es) γ S = (evs call es γ S).bind fun ms S => .of (range12 ms) fun p => .when (RgOk' p.1 p.2) (mkL al (rangeL p.1 p.2) S) := by simp only [ev]
@[simp] theorem q_trange (es : Cs) : ev call (.trange es) γ S = (evs call es γ S).bind fun ms S => .of (range12 ms) fun p => .when (RgOk' p.1 p.2) (.ok (.tup (rangeL p.1 p.2)) S) := by simp only [ev]
@[simp] theorem q_meth (m : Me) (o : C) (es : Cs) : ev call (.meth m o es) γ S = (ev call o γ S).bind fun x S => .of (lstOf S x) fun _ => (evs call es γ S).bind fun ms S => meop m x ms S := by simp only [ev]
@[simp] theorem q_lc (al : Bool) (tg : Tg) (it : It') (ifs : To) (e : C) (own : List Nat) : ev call (.lc al tg it ifs e own) γ S = (evI call it γ S).bind fun s S => (lcRun call γ S tg ifs e own s).bind fun ms S => mkL al ms S := by
  simp only [ev]
  congr; funext s S
  unfold lcRun R.when
  split <;> rfl
@[simp] theorem q_ssc (al : Bool) (tg : Tg) (it : It') (ifs : To) (e : C) (own : List Nat) : ev call (.ssc al tg it ifs e own) γ S = (evI call it γ S).bind fun s S => (sscRun call γ S tg ifs e own s).bind fun ms S => .of (intsOf ms) fun is => .when ((dedup is).length < 64) (mkL al ((isort (dedup is)).map M.int) S) := by
  simp only [ev]
  congr; funext s S
  unfold sscRun R.when
  split <;> rfl
@[simp] theorem q_Tand (a b : T) : evT call (.and a b) γ S = (evT call a γ S).bind fun c S => if c = true then evT call b γ S else .ok false S := by simp only [evT]
@[simp] theorem q_Tor (a b : T) : evT call (.or a b) γ S = (evT call a γ S).bind fun c S => if c = true then .ok true S else evT call b γ S := by simp only [evT]
@[simp] theorem q_Tone (a : T) : evT call (.one a) γ S = evT call a γ S := by simp only [evT]
@[simp] theorem q_Tnot (a : T) : evT call (.not a) γ S = (evT call a γ S).bind fun c S => .ok (!c) S := by simp only [evT]
@[simp] theorem q_Tv (a : C) : evT call (.v a) γ S = (ev call a γ S).bind fun m S => .of (truth S m) fun b => .ok b S := by simp only [evT]
@[simp] theorem q_nil : evs call .nil γ S = .ok [] S := by simp only [evs]
@[simp] theorem q_cons (a : C) (r : Cs) : evs call (.cons a r) γ S = (ev call a γ S).bind fun x S => (evs call r γ S).bind fun xs S => .ok (x :: xs) S := by simp only [evs]
@[simp] theorem q_ono : evo call .no γ S = .ok none S := by simp only [evo]
@[simp] theorem q_oso (a : C) : evo call (.so a) γ S = (ev call a γ S).bind fun x S => (intM x S).bind fun i S => .ok (some i) S := by
  simp only [evo]
  congr; funext r S
  cases r <;> rfl
@[simp] theorem q_tno : evt call .no γ S = .ok true S := by simp only [evt]
@[simp] theorem q_tso (a : T) : evt call (.so a) γ S = evT call a γ S := by simp only [evt]
@[simp] theorem q_Ival (a : C) : evI call (.val a) γ S = (ev call a γ S).bind fun x S => .of (seqOf S x) fun ms => .ok ⟨ms, x, ms⟩ S := by simp only [evI]
@[simp] theorem q_Ir1 (a : C) : evI call (.range1 a) γ S = (ev call a γ S).bind fun x S => (intM x S).bind fun j S => .when (RgOk' 0 j) (.ok ⟨rangeL 0 j, .tup [], []⟩ S) := by
  simp only [evI]
  congr; funext r S
  cases r <;> rfl
@[simp] theorem q_Ien (a : C) : evI call (.enum a) γ S = (ev call a γ S).bind fun x S => .of (seqOf S x) fun ms => .ok ⟨(List.range ms.length).map fun i => .tup [.int (i : Nat), ms.getD i .non], x, ms⟩ S := by simp only [evI]
@[simp] theorem q_set (i : Nat) (e : C) : ex call (.set i e) γ S = (ev call e γ S).bind fun m S => .ok (.nx (γ.set i (some m))) S := by simp only [ex]
@[simp] theorem q_unp (l : List Nat) (e : C) : ex call (.unp l e) γ S = (ev call e γ S).bind fun m S => .of (bindT (.tu l) m γ) fun γ1 => .ok (.nx γ1) S := by simp only [ex]
@[simp] theorem q_par (l : List Nat) (es : Cs) : ex call (.par l es) γ S = (evs call es γ S).bind fun ms S => .when (ms.length = l.length) (.ok (.nx (bindT.go l ms γ)) S) := by simp only [ex]
@[simp] theorem q_seti (o i e : C) : ex call (.seti o i e) γ S = (ev call e γ S).bind fun m S => (ev call o γ S).bind fun x S => (ev call i γ S).bind fun y S => (setiop x y m S).bind fun _ S => .ok (.nx γ) S := by simp only [ex]
@[simp] theorem q_augi (op : Bop) (a i e : C) : ex call (.augi op a i e) γ S = (ev call a γ S).bind fun x S => (ev call i γ S).bind fun y S => (ixlop x y S).bind fun z S => (ev call e γ S).bind fun u S => (augop op z u S).bind fun r S => (setiop x y r S).bind fun _ S => .ok (.nx γ) S := by simp only [ex]
@[simp] theorem q_aug (op : Bop) (i : Nat) (e : C) : ex call (.aug op i e) γ S = (varM γ i S).bind fun z S => (ev call e γ S).bind fun u S => (augop op z u S).bind fun r S => .ok (.nx (γ.set i (some r))) S := by
  simp only [ex]
  unfold varM
  cases γ[i]? with
  | none => rfl
  | some o => cases o <;> rfl
@[simp] theorem q_exp (e : C) : ex call (.exp e) γ S = (ev call e γ S).bind fun _ S => .ok (.nx γ) S := by simp only [ex]
@[simp] theorem q_ret (e : C) : ex call (.ret e) γ S = (ev call e γ S).bind fun m S => .ok (.ret m) S := by simp only [ex]
@[simp] theorem q_retN : ex call .retN γ S = .ok (.ret .non) S := by simp only [ex]
@[simp] theorem q_ifS (t : T) (a b : Sms) : ex call (.ife t a b) γ S = (evT call t γ S).bind fun c S => if c = true then exs call a γ S else exs call b γ S := by simp only [ex]
@[simp] theorem q_for (tg : Tg) (it : It') (b : Sms) : ex call (.for_ tg it b) γ S = (evI call it γ S).bind fun s S => forRun call γ S tg b s := by simp only [ex, forRun]
@[simp] theorem q_while (t : T) (b : Sms) : ex call (.while_ t b) γ S = whileRun call γ S t b := by simp only [ex, whileRun]
@[simp] theorem q_brk : ex call .brk γ S = .ok (.brk γ) S := by simp only [ex]
@[simp] theorem q_cnt : ex call .cnt γ S = .ok (.cnt γ) S := by simp only [ex]
@[simp] theorem q_pass : ex call .pass γ S = .ok (.nx γ) S := by simp only [ex]
@[simp] theorem q_snil : exs call .nil γ S = .ok (.nx γ) S := by simp only [exs]
@[simp] theorem q_scons (a : Sm) (r : Sms) : exs call (.cons a r) γ S = (ex call a γ S).bind fun f S => nextM call f r S := by
  simp only [exs]
  rfl
@[simp] theorem fin_ret (m : M) : fin (.ret m) S = .ok m S := rfl
@[simp] theorem fin_nx : fin (.nx γ) S = .ok .non S := rfl
end
end Mi

namespace K01
open PySem PySem.Spec L2 Mi
mutual
def cnt : M → Nat
  | .tup ms => 1 + cnts ms
  | _ => 1
def cnts : List M → Nat
  | [] => 0
  | m :: r => cnt m + cnts r
end
theorem cnt_pos (m : M) : 1 ≤ cnt m := by cases m <;> simp [cnt] <;> omega
theorem cnts_len : ∀ ms : List M, ms.length ≤ cnts ms
  | [] => Nat.le_refl _
  | m :: ms => by
    have := cnts_len ms
    have := cnt_pos m
    simp [cnts]; omega
theorem cnts_app : ∀ a b : List M, cnts (a ++ b) = cnts a + cnts b
  | [], b => by simp [cnts]
  | m :: a, b => by simp [cnts, cnts_app a b]; omega
theorem plain_app : ∀ a b : List M, M.plain.go (a ++ b) = (M.plain.go a && M.plain.go b)
  | [], b => by simp [M.plain.go]
  | m :: a, b => by simp [M.plain.go, plain_app a b, Bool.and_assoc]
theorem eqM_self : ∀ {x : M}, (∀ ms, x ≠ .tup ms) → M.plain x = true → eqM x x = some true
  | .non, _, _ => rfl
  | .bl b, _, _ => by simp [eqM]
  | .int i, _, _ => by simp [eqM]
  | .str s, _, _ => by simp [eqM]
  | .tup ms, h, _ => absurd rfl (h ms)
  | .lst ms, _, h => by simp [M.plain] at h
  | .scr ms, _, h => by simp [M.plain] at h
  | .ref ms, _, h => by simp [M.plain] at h
def same2 (x : M) : M := .tup [x, x]
def cnt2 : List M → Nat
  | .tup (x :: _) :: r => cnt x + cnt2 r
  | _ :: r => cnt2 r
  | [] => 0
theorem cnt2_map : ∀ td : List M, cnt2 (td.map same2) = cnts td
  | [] => rfl
  | m :: td => by simp [same2, cnt2, cnts]; exact cnt2_map td
theorem cnt2_last (td : List M) (x : M) : cnt2 (td.map same2 ++ [.tup [x, x]]) = cnts td + cnt x := by
  have : td.map same2 ++ [.tup [x, x]] = (td ++ [x]).map same2 := by simp [same2]
  rw [this, cnt2_map, cnts_app]
  simp [cnts]
theorem same_ok (k : Nat) (m : M) (hp : M.plain m = true) (hs : cnt m ≤ 100000) : Wp (evalFn Φ (k + 1) "_law_same" [m, m] []) fun r _ => r = .bl true := by
  have hΦ : Φ "_law_same" = some d__law_same := by rfl
  refine wp_fn hΦ rfl ?_
  simp [d__law_same, mkL, wp_when, big]
  refine wp_while (fun γ S => ∃ (c3 c4 c5 : Option M) (td : List M), γ = [some m, some m, some (.ref 0), c3, c4, c5] ∧ S = [.lst (td.map same2)] ∧ M.plain.go td = true ∧ cnts td ≤ 100000)
    (fun γ S => match S with | [.lst l] => cnt2 l | _ => 0) ?_ _ _ _ ?_ ?_
  · rintro γ S ⟨c3, c4, c5, td, rfl, rfl, h1, h2⟩
    rcases List.eq_nil_or_concat td with rfl | ⟨td, x, rfl⟩
    · simp [biop, seqOf, cmpop, truth, Wp]
    · rw [List.concat_eq_append] at h1 h2 ⊢
      have hx : M.plain x = true := by rw [plain_app] at h1; simp [M.plain.go] at h1; exact h1.2
      have ht : M.plain.go td = true := by rw [plain_app] at h1; simp [M.plain.go] at h1; exact h1.1
      have hl := cnts_len td
      rw [cnts_app] at h2
      simp only [cnts] at h2
      have step : ∀ u, M.plain.go u = true → cnts u < cnt x → (∃ y, td.map same2 ++ u.map same2 = List.map same2 y ∧ M.plain.go y = true ∧ cnts y ≤ 100000) ∧ cnt2 (td.map same2 ++ u.map same2) < cnt2 (td.map same2 ++ [.tup [x, x]]) := by
        intro u h3 h4
        refine ⟨⟨td ++ u, by simp, by rw [plain_app, ht, h3]; rfl, by rw [cnts_app]; omega⟩, ?_⟩
        rw [← List.map_append, cnt2_map, cnts_app, cnt2_last]
        omega
      have leaf := step [] rfl (by have := cnt_pos x; simp [cnts]; omega)
      rw [List.map_nil, List.append_nil] at leaf
      simp [biop, seqOf, cmpop, truth, lstOf, meop, same2, bindT, bindT.go]
      cases x with
      | non => simpa [isNon, truth, cmpop] using leaf
      | bl b => simpa [isNon, truth, cmpop, isiop, tyOf, isTy, eqM] using leaf
      | int i => simpa [isNon, truth, cmpop, isiop, tyOf, isTy, eqM] using leaf
      | str s => simpa [isNon, truth, cmpop, isiop, tyOf, isTy, eqM] using leaf
      | tup ms =>
        have hm : M.plain.go ms = true := by simpa [M.plain] using hx
        have hlm := cnts_len ms
        simp only [cnt] at h2
        have hr : RgOk' 0 ms.length := rg_len _ (by omega)
        have e2 : ∀ γ0 S0, lcRun (evalFn Φ k) [some m, some m, some (.ref 0), some (.tup ms), some (.tup ms), γ0] S0 (.nm 5) .no (.tup (.cons (.ix (.var 3) (.var 5)) (.cons (.ix (.var 4) (.var 5)) .nil))) [5] ⟨rangeL 0 ms.length, .tup [], []⟩ = .ok (ms.map same2) S0 := fun γ0 S0 => by
          unfold lcRun
          rw [R.when_true (by show (rangeL 0 ms.length).length ≤ big; rw [rangeN]; simp [big]; omega)]
          rw [wp_comp (by rfl) (fun y => match y with | .int j => (ms[j.toNat]?).map same2 | _ => none)]
          · show R.ok ((rangeL 0 ms.length).filterMap _) S0 = _
            rw [rangeN, List.filterMap_map]
            have : ((List.range ms.length).filterMap ((fun y => match y with | .int j => (ms[j.toNat]?).map same2 | _ => none) ∘ fun i : Nat => M.int (i : Int))) = ms.map same2 := by
              have g : ∀ (l : List M) (n : Nat) (f : Nat → Option M), (∀ i, i < l.length → f (n + i) = (l[i]?).map same2) → (List.range' n l.length).filterMap f = l.map same2 := by
                intro l
                induction l with
                | nil => intro n f h; rfl
                | cons a l ih =>
                  intro n f h
                  rw [List.length_cons, List.range'_succ, List.filterMap_cons, show f n = some (same2 a) from by simpa using h 0 (by simp)]
                  rw [List.map_cons, ih (n + 1) f fun i hi => by
                    have := h (i + 1) (by simp; omega)
                    rw [show n + (i + 1) = n + 1 + i by omega] at this
                    simpa using this]
              rw [List.range_eq_range']
              exact g ms 0 _ fun i hi => by simp
            rw [this]
          · intro y hy
            have hy : y ∈ rangeL 0 ms.length := hy
            rw [rangeN] at hy
            obtain ⟨j, hj, rfl⟩ := List.mem_map.mp hy
            have hj := List.mem_range.mp hj
            have e3 : atI ms (j : Int) = some ms[j] := by
              unfold atI ixN
              rw [if_pos (by omega), if_pos (by omega)]
              simp [hj]
            simp [turnP, bindT, wipeE, ixop, seqOf, e3, hj, same2, R.calm, big]
        have hb : td.length + ms.length ≤ big := by unfold big; omega
        have fin := step ms hm (by simp [cnt])
        simpa [isNon, truth, cmpop, isiop, tyOf, isTy, eqM, biop, seqOf, wp_when, hr, e2, mkL, lstOf, meop, hb, same2] using fin
      | lst ms => simp [M.plain] at hx
      | scr ms => simp [M.plain] at hx
      | ref ms => simp [M.plain] at hx
  · exact ⟨none, none, none, [m], rfl, rfl, by simp [M.plain.go, hp], by simp [cnts, hs]⟩
  · simp [cnt2, lim]; omega
end K01

namespace K01
open PySem PySem.Spec L2 Mi
mutual
theorem noref_plain : ∀ m : M, M.plain m = true → M.noref m = true
  | .non, _ => rfl
  | .bl _, _ => rfl
  | .int _, _ => rfl
  | .str _, _ => rfl
  | .tup ms, h => by simp only [M.plain] at h; simp only [M.noref]; exact noref_plains ms h
  | .lst ms, h => by simp [M.plain] at h
  | .scr ms, h => by simp [M.plain] at h
  | .ref ms, h => by simp [M.plain] at h
theorem noref_plains : ∀ ms : List M, M.plain.go ms = true → M.noref.go ms = true
  | [], _ => rfl
  | m :: ms, h => by
    simp only [M.plain.go, Bool.and_eq_true] at h
    simp only [M.noref.go, Bool.and_eq_true]
    exact ⟨noref_plain m h.1, noref_plains ms h.2⟩
end
theorem de_plain (S : Store) (m : M) (h : M.plain m = true) : derefA S m = some m := by
  have hn := noref_plain m h
  cases m <;> simp_all [derefA, M.plain]
theorem same_call (k : Nat) (S : Store) (m : M) (hp : M.plain m = true) (hs : cnt m ≤ 100000) : callM (evalFn Φ (k + 1)) true "_law_same" [m, m] S = .ok (.bl true) S := by
  obtain ⟨r, S', e, rfl⟩ := (same_ok k m hp hs).ex
  exact pure_call (by simp [derefs, de_plain S m hp]) e (fz_bl _ _)
def wat (ws : List W) (i : Nat) : W := ws.getD i ⟨0, 0, 0, 0⟩
theorem wat_get {ws : List W} {i : Nat} (h : i < ws.length) : ws[i]? = some (wat ws i) := by
  unfold wat
  rw [List.getD_eq_getElem?_getD, List.getElem?_eq_getElem h]
  rfl
theorem nums_call {k : Nat} {f : String} {c : Int} {ws : List W} {i : Nat} {l : List Nat} (S : Store) (h : evalFn Φ k f [bk c ws, .int i] [] = .ok (.tup (l.map fun j : Nat => M.int (j : Int))) []) : callM (evalFn Φ k) true f [bk c ws, .int i] S = .ok (.tup (l.map fun j : Nat => M.int (j : Int))) S := by
  refine pure_call (by simp [derefs, de_bk, de_int]) h ?_
  have := plain_ints (fun i : Nat => (i : Int)) l
  simp only [freeze, M.plain, this, if_true]
section
variable (k : Nat) (c : Int) (ws : List W) (i : Nat)
theorem clashes_of_eq (hl : ws.length ≤ 1000) (hi : i < ws.length) (S : Store) : callM (evalFn Φ (k + 3)) true "clashes_of" [bk c ws, .int i] S = .ok (.tup (((List.range ws.length).filter fun j => decide (i ≠ j) && clashB c (wat ws i) (wat ws j)).map fun j : Nat => M.int (j : Int))) S :=
  nums_call S (pick_eq k "clashes_of" "do_clash" _ c ws i hl d_clashes_of false (by rfl) rfl rfl rfl fun j hj => doclash_eq k c ws i j _ _ (wat_get hi) (wat_get hj))
theorem behind_eq (hl : ws.length ≤ 1000) (hi : i < ws.length) (S : Store) : callM (evalFn Φ (k + 3)) true "wishes_behind" [bk c ws, .int i] S = .ok (.tup (((List.range ws.length).filter fun j => aheadB c (wat ws i) (wat ws j)).map fun j : Nat => M.int (j : Int))) S :=
  nums_call S (pick_eq k "wishes_behind" "stands_ahead" _ c ws i hl d_wishes_behind false (by rfl) rfl rfl rfl fun j hj => stands_eq k c ws i j _ _ (wat_get hi) (wat_get hj))
theorem wahead_eq (hl : ws.length ≤ 1000) (hi : i < ws.length) (S : Store) : callM (evalFn Φ (k + 3)) true "wishes_ahead" [bk c ws, .int i] S = .ok (.tup (((List.range ws.length).filter fun j => aheadB c (wat ws j) (wat ws i)).map fun j : Nat => M.int (j : Int))) S :=
  nums_call S (pick_eq k "wishes_ahead" "stands_ahead" _ c ws i hl d_wishes_ahead true (by rfl) rfl rfl rfl fun j hj => stands_eq k c ws j i _ _ (wat_get hj) (wat_get hi))
end
theorem bl_call {k : Nat} {f : String} {c : Int} {ws : List W} {i j : Nat} {b : Bool} (S : Store) (h : evalFn Φ k f [bk c ws, .int i, .int j] [] = .ok (.bl b) []) : callM (evalFn Φ k) true f [bk c ws, .int i, .int j] S = .ok (.bl b) S :=
  pure_call (by simp [derefs, de_bk, de_int]) h (fz_bl _ _)
section
variable (k : Nat) (c : Int) (ws : List W) (i j : Nat)
theorem doclash_call (hi : i < ws.length) (hj : j < ws.length) (S : Store) : callM (evalFn Φ (k + 2)) true "do_clash" [bk c ws, .int i, .int j] S = .ok (.bl (decide (i ≠ j) && clashB c (wat ws i) (wat ws j))) S := bl_call S (doclash_eq k c ws i j _ _ (wat_get hi) (wat_get hj))
theorem stands_call (hi : i < ws.length) (hj : j < ws.length) (S : Store) : callM (evalFn Φ (k + 2)) true "stands_ahead" [bk c ws, .int i, .int j] S = .ok (.bl (aheadB c (wat ws i) (wat ws j))) S := bl_call S (stands_eq k c ws i j _ _ (wat_get hi) (wat_get hj))
theorem lahead_eq (hi : i < ws.length) (hj : j < ws.length) : evalFn Φ (k + 1) "_law_ahead" [bk c ws, .int i, .int j] [] = .ok (.bl (aheadB c (wat ws i) (wat ws j))) [] := by
  have h : Φ "_law_ahead" = some d__law_ahead := by rfl
  have e1 := at_w (wat_get hi)
  have e2 := at_w (wat_get hj)
  rw [evalFn]
  simp only [h]
  simp [d__law_ahead, bk, bindT, bindT.go, ixop, seqOf, e1, e2, W.m, a40, a41, a42, a43, cmpop, eqM, binop, aheadB]
  by_cases hr : (wat ws i).r = (wat ws j).r
  · simp [hr, show ∀ a b : Int, decide (b < a) = !decide (a ≤ b) from fun a b => by by_cases h : a ≤ b <;> simp [h] <;> omega]
  · have hb : ((wat ws i).r == (wat ws j).r) = false := beq_eq_false_iff_ne.mpr hr
    simp [hr, hb]
theorem lahead_call (hi : i < ws.length) (hj : j < ws.length) (S : Store) : callM (evalFn Φ (k + 1)) true "_law_ahead" [bk c ws, .int i, .int j] S = .ok (.bl (aheadB c (wat ws i) (wat ws j))) S := bl_call S (lahead_eq k c ws i j hi hj)
theorem lclash_eq (hi : i < ws.length) (hj : j < ws.length) : evalFn Φ (k + 2) "_law_clash" [bk c ws, .int i, .int j] [] = .ok (.bl (decide (i ≠ j) && clashB c (wat ws i) (wat ws j))) [] := by
  have h : Φ "_law_clash" = some d__law_clash := by rfl
  have e1 := at_w (wat_get hi)
  have e2 := at_w (wat_get hj)
  have c1 := lahead_call k c ws i j hi hj []
  have c2 := lahead_call k c ws j i hj hi []
  rw [evalFn]
  simp only [h]
  have g1 : ∀ S : Store, ixop (bk c ws) (.int 1) S = .ok (.tup (ws.map W.m)) S := fun S => rfl
  have g2 : ∀ S : Store, ixop (.tup (ws.map W.m)) (.int i) S = .ok (wat ws i).m S := fun S => by simp [ixop, seqOf, e1]
  have g3 : ∀ S : Store, ixop (.tup (ws.map W.m)) (.int j) S = .ok (wat ws j).m S := fun S => by simp [ixop, seqOf, e2]
  have g4 : ∀ (x : W) (S : Store), ixop x.m (.int 0) S = .ok (.int x.r) S := fun x S => rfl
  simp [d__law_clash, g1, g2, g3, g4, cmpop, eqM, c1, c2, beq_nat]
  by_cases e : i = j
  · simp [e]
  · by_cases hr : (wat ws i).r = (wat ws j).r
    · simp [e, hr, aheadB, clashB]
      by_cases q : (wat ws i).e + c ≤ (wat ws j).b
      · simp [q, show ¬ (wat ws j).b < (wat ws i).e + c by omega]
      · by_cases q2 : (wat ws j).e + c ≤ (wat ws i).b
        · simp [q, q2, show ¬ (wat ws i).b < (wat ws j).e + c by omega]
        · simp [q, q2, show (wat ws j).b < (wat ws i).e + c by omega, show (wat ws i).b < (wat ws j).e + c by omega]
    · have hb : ((wat ws i).r == (wat ws j).r) = false := beq_eq_false_iff_ne.mpr hr
      simp [e, hr, hb, clashB]
theorem lclash_call (hi : i < ws.length) (hj : j < ws.length) (S : Store) : callM (evalFn Φ (k + 2)) true "_law_clash" [bk c ws, .int i, .int j] S = .ok (.bl (decide (i ≠ j) && clashB c (wat ws i) (wat ws j))) S := bl_call S (lclash_eq k c ws i j hi hj)
end
end K01

namespace K01
open PySem PySem.Spec L2 Mi
/-! ### the facts of a book -/
theorem ix1_bk (c : Int) (ws : List W) (S : Store) : ixop (bk c ws) (.int 1) S = .ok (.tup (ws.map W.m)) S := rfl
theorem w0 (x : W) (S : Store) : ixop x.m (.int 0) S = .ok (.int x.r) S := rfl
theorem w1 (x : W) (S : Store) : ixop x.m (.int 1) S = .ok (.int x.b) S := rfl
theorem w2 (x : W) (S : Store) : ixop x.m (.int 2) S = .ok (.int x.e) S := rfl
theorem w3 (x : W) (S : Store) : ixop x.m (.int 3) S = .ok (.int x.w) S := rfl
theorem ix_w {ws : List W} {i : Nat} (h : i < ws.length) (S : Store) : ixop (.tup (ws.map W.m)) (.int i) S = .ok (wat ws i).m S := by simp [ixop, seqOf, at_w (wat_get h)]
theorem ints_map {τ : Type} (f : τ → Int) (l : List τ) : intsOf (l.map fun x => M.int (f x)) = some (l.map f) := by
  induction l with
  | nil => rfl
  | cons a l ih => simp [intsOf, ih]
/-- a comprehension over known items, all kept -/
theorem lc_all {call : String → List M → Store → R M} {γ : Mi.Env} {S : Store} {tg : Tg} {ifs : To} {e : C} {own : List Nat} {s : Src} {τ : Type} (l : List τ) (f : τ → M) (g : τ → M) (hs : s.items = l.map f) (hl : l.length ≤ big) (hok : s.ok S)
    (ht : ∀ x ∈ l, turnP call tg ifs e (wipeE γ own) S (f x) = .ok (some (g x)) S) : lcRun call γ S tg ifs e own s = .ok (l.map g) S := by
  unfold lcRun
  rw [R.when_true (by rw [hs, List.length_map]; exact hl), hs]
  clear hs hl
  induction l with
  | nil => simp only [List.map_nil]; unfold compLoop; rw [R.when_true hok]
  | cons a l ih =>
    rw [List.map_cons, List.map_cons]
    unfold compLoop
    rw [R.when_true hok, ht a List.mem_cons_self, R.bind_ok, ih fun x hx => ht x (List.mem_cons_of_mem _ hx)]
    rfl
/-- .. some kept -/
theorem lc_some {call : String → List M → Store → R M} {γ : Mi.Env} {S : Store} {tg : Tg} {ifs : To} {e : C} {own : List Nat} {s : Src} {τ : Type} (l : List τ) (f : τ → M) (p : τ → Bool) (g : τ → M) (hs : s.items = l.map f) (hl : l.length ≤ big) (hok : s.ok S)
    (ht : ∀ x ∈ l, turnP call tg ifs e (wipeE γ own) S (f x) = .ok (if p x = true then some (g x) else none) S) : lcRun call γ S tg ifs e own s = .ok ((l.filter p).map g) S := by
  unfold lcRun
  rw [R.when_true (by rw [hs, List.length_map]; exact hl), hs]
  clear hs hl
  induction l with
  | nil => simp only [List.map_nil, List.filter_nil]; unfold compLoop; rw [R.when_true hok]
  | cons a l ih =>
    rw [List.map_cons, List.filter_cons]
    unfold compLoop
    rw [R.when_true hok, ht a List.mem_cons_self, R.bind_ok, ih fun x hx => ht x (List.mem_cons_of_mem _ hx)]
    by_cases h : p a = true
    · rw [if_pos h, if_pos h]; rfl
    · rw [if_neg h, if_neg h]; rfl
theorem worth_eq (k : Nat) (c : Int) (ws : List W) (hl : ws.length ≤ 1000) : evalFn Φ (k + 1) "total_worth" [bk c ws] [] = .ok (.int (ws.map W.w).sum) [] := by
  have h : Φ "total_worth" = some d_total_worth := by rfl
  rw [evalFn]
  simp only [h]
  have e := lc_all (call := evalFn Φ k) (γ := [some (bk c ws), none]) (S := []) (tg := .nm 1) (ifs := .no) (e := .ix (.var 1) (.con (.int 3))) (own := [1]) (s := ⟨ws.map W.m, .tup (ws.map W.m), ws.map W.m⟩) ws W.m (fun x => M.int x.w) rfl (by unfold big; omega) rfl
    (fun x _ => by simp [turnP, bindT, wipeE, w3, R.calm])
  simp [d_total_worth, ix1_bk, seqOf, e, mkL, biop, lstOf, ints_map]
theorem rooms_eq (k : Nat) (c : Int) (ws : List W) (hl : ws.length ≤ 1000) (hd : (dedup (ws.map W.r)).length < 64) : evalFn Φ (k + 1) "rooms_of" [bk c ws] [] = .ok (.tup ((isort (dedup (ws.map W.r))).map M.int)) [] := by
  have h : Φ "rooms_of" = some d_rooms_of := by rfl
  rw [evalFn]
  simp only [h]
  have e := lc_all (call := evalFn Φ k) (γ := [some (bk c ws), none]) (S := []) (tg := .nm 1) (ifs := .no) (e := .ix (.var 1) (.con (.int 0))) (own := [1]) (s := ⟨ws.map W.m, .tup (ws.map W.m), ws.map W.m⟩) ws W.m (fun x => M.int x.r) rfl (by unfold big; omega) rfl
    (fun x _ => by simp [turnP, bindT, wipeE, w0, R.calm])
  have e' : sscRun (evalFn Φ k) [some (bk c ws), none] [] (.nm 1) .no (.ix (.var 1) (.con (.int 0))) [1] ⟨ws.map W.m, .tup (ws.map W.m), ws.map W.m⟩ = .ok (ws.map fun x => M.int x.r) [] := by
    unfold lcRun at e
    unfold sscRun
    rw [R.when_true (by simp [big]; omega)] at e
    rw [R.when_true (by simp; omega)]
    exact e
  simp [d_rooms_of, ix1_bk, seqOf, e', mkL, biop, ints_map, R.when_true hd]
/-- which wishes want this room -/
def wants (ws : List W) (r : Int) : List Nat := (List.range ws.length).filter fun j => decide ((wat ws j).r = r)
theorem wishes_eq (k : Nat) (c : Int) (ws : List W) (r : Int) (hl : ws.length ≤ 1000) : evalFn Φ (k + 1) "wishes_of" [bk c ws, .int r] [] = .ok (.tup ((wants ws r).map fun j : Nat => M.int (j : Int))) [] := by
  have h : Φ "wishes_of" = some d_wishes_of := by rfl
  rw [evalFn]
  simp only [h]
  have e := lc_some (call := evalFn Φ k) (γ := [some (bk c ws), some (.int r), none, none]) (S := []) (tg := .tu [2, 3]) (ifs := .so (.v (.cmp .eq (.ix (.var 3) (.con (.int 0))) (.var 1)))) (e := .var 2) (own := [2, 3])
    (s := ⟨(List.range (ws.map W.m).length).map fun i => .tup [.int (i : Nat), (ws.map W.m).getD i .non], .tup (ws.map W.m), ws.map W.m⟩) (List.range ws.length) (fun i => .tup [.int (i : Nat), (wat ws i).m]) (fun j => decide ((wat ws j).r = r)) (fun j : Nat => M.int (j : Int)) (by
      show (List.range (ws.map W.m).length).map _ = _
      rw [List.length_map]
      refine List.map_congr_left fun i hi => ?_
      have hi := List.mem_range.mp hi
      rw [List.getD_eq_getElem?_getD, List.getElem?_map, wat_get hi]
      rfl) (by simp [big]; omega) rfl
    (fun i hi => by
      simp [turnP, bindT, bindT.go, wipeE, w0, cmpop, eqM, truth]
      by_cases q : (wat ws i).r = r <;> simp [q, R.calm])
  simp [d_wishes_of, ix1_bk, seqOf] at e ⊢
  rw [e]
  simp [mkL, biop, seqOf, wants]
theorem sum_busy (k : Nat) (c : Int) (ws : List W) (l : List Nat) (hl : l.length ≤ 1000) (hm : ∀ j ∈ l, j < ws.length) :
    evalFn Φ (k + 1) "busy_time" [bk c ws, .tup (l.map fun j : Nat => M.int (j : Int))] [] = .ok (.int (l.map fun j => (wat ws j).e - (wat ws j).b).sum) [] := by
  have h : Φ "busy_time" = some d_busy_time := by rfl
  rw [evalFn]
  simp only [h]
  have e := lc_all (call := evalFn Φ k) (γ := [some (bk c ws), some (.tup (l.map fun j : Nat => M.int (j : Int))), none]) (S := []) (tg := .nm 2) (ifs := .no) (e := .bin false .sub (.ix (.ix (.ix (.var 0) (.con (.int 1))) (.var 2)) (.con (.int 2))) (.ix (.ix (.ix (.var 0) (.con (.int 1))) (.var 2)) (.con (.int 1)))) (own := [2])
    (s := ⟨l.map fun j : Nat => M.int (j : Int), .tup (l.map fun j : Nat => M.int (j : Int)), l.map fun j : Nat => M.int (j : Int)⟩) l (fun j : Nat => M.int (j : Int)) (fun j => M.int ((wat ws j).e - (wat ws j).b)) rfl (by unfold big; omega) rfl
    (fun j hj => by simp [turnP, bindT, wipeE, ix1_bk, ix_w (hm j hj), w1, w2, binop, R.calm])
  simp [d_busy_time, seqOf, e, mkL, biop, lstOf, ints_map]
end K01

namespace K01
open PySem PySem.Spec L2 Mi
@[simp] theorem callM_false (call : String → List M → Store → R M) (f : String) (ms : List M) (S : Store) : callM call false f ms S = call f ms S := by simp [callM]
def V (ws : List W) : Prop := ∀ x ∈ ws, (0 ≤ x.r ∧ x.r ≤ 9) ∧ x.b < x.e
/-- one of some ints -/
theorem law_ints (k : Nat) (is : List Int) (hx : is ≠ []) (hl : is.length ≤ 1000) {S L : Store} (h : Rn S L) {P : M → Store → Prop} (hP : ∀ i S', i ∈ is → Rn S' L → P (.int i) S') : Wp (evalFn Φ (k + 2) "_law_of" [.ref 2, .tup (is.map M.int)] S) P := by
  refine law_of k (.tup (is.map M.int)) (is.map M.int) (by simpa using hx) (by simpa using hl) h (fun _ _ => rfl) (fun _ e => by cases e) fun x S' hm h' => ?_
  obtain ⟨i, hi, rfl⟩ := List.mem_map.mp hm
  exact hP i S' hi h'
theorem told_at {S L : Store} {o : O} (h : Rn S (L ++ [o])) : S[3 + L.length]? = some o := by
  obtain ⟨g0, gs, st, c, rfl⟩ := h
  rw [List.getElem?_append_right (by simp [rng])]
  simp [rng]
theorem told_set {S L : Store} {o u : O} (h : Rn S (L ++ [o])) : Rn (S.set (3 + L.length) u) (L ++ [u]) := by
  obtain ⟨g0, gs, st, c, rfl⟩ := h
  refine ⟨g0, gs, st, c, ?_⟩
  rw [List.set_append_right _ _ (by simp [rng])]
  simp [rng]
theorem book (k : Nat) (n m : Int) (hn : 0 ≤ n ∧ n ≤ 60) (hm : m = 3 ∨ m = 10) {S L : Store} (h : Rn S L) {P : M → Store → Prop} (hP : ∀ c ws S' L', 0 ≤ c → ws.length ≤ 60 → V ws → Rn S' L' → P (bk c ws) S') : Wp (evalFn Φ (k + 3) "_law_book" [.ref 2, .int n, .int m] S) P := by
  have hΦ : Φ "_law_book" = some d__law_book := by rfl
  refine wp_fn hΦ rfl ?_
  simp [d__law_book, wp_when, big]
  refine law_ints k [0, 1, 10, 99, 0] (by simp) (by simp) h fun c S1 hc h1 => ?_
  have hc0 : 0 ≤ c := by simp at hc; omega
  have hr : RgOk' 0 10 := by decide
  simp [range12, hr, wp_when, big]
  refine law_of k _ [.tup [.int 4], .tup [.int 0, .int 9], .tup [.int 2, .int 3, .int 7], .tup [.int 1, .int 0], .tup (rangeL 0 10)] (by simp) (by simp) h1 (fun _ _ => rfl) (fun _ e => by cases e) fun y S2 hy h2 => ?_
  obtain ⟨rs, hrs, hr0, hr1, hr2⟩ : ∃ rs : List Int, slop false y none (some m) S2 = .ok (.tup (rs.map M.int)) S2 ∧ rs ≠ [] ∧ (∀ r ∈ rs, 0 ≤ r ∧ r ≤ 9) ∧ rs.length ≤ 10 := by
    simp only [List.mem_cons, List.not_mem_nil, or_false] at hy
    rcases hm with rfl | rfl
    · rcases hy with rfl | rfl | rfl | rfl | rfl
      · exact ⟨[4], rfl, by decide, by decide, by decide⟩
      · exact ⟨[0, 9], rfl, by decide, by decide, by decide⟩
      · exact ⟨[2, 3, 7], rfl, by decide, by decide, by decide⟩
      · exact ⟨[1, 0], rfl, by decide, by decide, by decide⟩
      · exact ⟨[0, 1, 2], rfl, by decide, by decide, by decide⟩
    · rcases hy with rfl | rfl | rfl | rfl | rfl
      · exact ⟨[4], rfl, by decide, by decide, by decide⟩
      · exact ⟨[0, 9], rfl, by decide, by decide, by decide⟩
      · exact ⟨[2, 3, 7], rfl, by decide, by decide, by decide⟩
      · exact ⟨[1, 0], rfl, by decide, by decide, by decide⟩
      · exact ⟨[0, 1, 2, 3, 4, 5, 6, 7, 8, 9], rfl, by decide, by decide, by decide⟩
  have hrn : RgOk' 0 n := by unfold RgOk' big; omega
  simp [hrs, mkL, wp_when, hrn]
  have hlen : S2.length = 3 + L.length := by
    obtain ⟨g0, gs, st, c, rfl⟩ := h2
    simp [rng]; omega
  rw [hlen]
  have h3 : Rn (S2 ++ [O.lst []]) (L ++ [O.lst (([] : List W).map W.m)]) := by
    obtain ⟨g0, gs, st, c, rfl⟩ := h2
    exact ⟨g0, gs, st, c, by simp⟩
  unfold forRun
  refine wp_for (fun i γ S => ∃ (ws : List W) (c6 c7 c8 c9 c10 c11 c12 : Option M), γ = [some (.ref 2), some (.int n), some (.int m), some (.int c), some (.tup (rs.map M.int)), some (.ref (3 + L.length)), c6, c7, c8, c9, c10, c11, c12] ∧
    Rn S (L ++ [O.lst (ws.map W.m)]) ∧ V ws ∧ ws.length = i) (rangeL 0 n) ?_ ?_ ?_ _ _ ?_
  · intro i γ S _ _; rfl
  · rintro i x γ S hx ⟨ws, c6, c7, c8, c9, c10, c11, c12, rfl, hS, hV, hi⟩
    have hxi : x = .int i ∧ i < 60 := by
      unfold rangeL at hx
      rw [List.getElem?_map] at hx
      obtain ⟨j, hj, rfl⟩ := Option.map_eq_some_iff.mp hx
      have hl := (List.getElem?_eq_some_iff.mp hj)
      obtain ⟨hl, e⟩ := hl
      simp at hl e
      subst e
      exact ⟨by simp, by omega⟩
    obtain ⟨rfl, hi60⟩ := hxi
    simp [bindT, -q_ifS]
    refine stroll (k + 1) 600 (by decide) hS fun b S3 hS3 _ hb => ?_
    have hb := hb (by decide)
    try simp [-q_ifS]
    refine stroll (k + 1) 200 (by decide) hS3 fun v S4 hS4 _ hv => ?_
    have hv := hv (by decide)
    try simp [wp_when, big, -q_ifS]
    refine law_ints k [0, 29, v, 59] (by simp) (by simp) hS4 fun l0 S5 hl0 hS5 => ?_
    have hl0 : 0 ≤ l0 := by simp at hl0; omega
    try simp [binop, -q_ifS]
    refine Wp.mono (P := fun fl S' => ∃ (b' l' : Int) (d9 d10 d11 d12 : Option M), fl = .nx [some (.ref 2), some (.int n), some (.int m), some (.int c), some (.tup (rs.map M.int)), some (.ref (3 + L.length)), some (.int i), some (.int b'), some (.int l'), d9, d10, d11, d12] ∧
      0 ≤ b' ∧ 1 ≤ l' ∧ Rn S' (L ++ [O.lst (ws.map W.m)])) ?_ ?_
    · by_cases hi0 : 0 < i
      · simp [cmpop, truth, hi0]
        refine stroll (k + 1) 4 (by decide) hS5 fun w S6 hS6 _ hw => ?_
        by_cases hw0 : 0 < w
        · simp [hw0, cmpop, truth]
          have hne : ws.map W.m ≠ [] := by
            intro e
            have := congrArg List.length e
            rw [List.length_map, List.length_nil] at this
            omega
          refine law_of k (.ref (3 + L.length)) (ws.map W.m) hne (by simp; omega) hS6 (fun S' h' => by simp [seqOf, told_at h']) (fun _ e => by cases e) fun y S7 hy hS7 => ?_
          obtain ⟨z, hz, rfl⟩ := List.mem_map.mp hy
          have hzv := hV z hz
          simp [bindT, bindT.go, W.m, binop, wp_when, big]
          refine law_ints k [z.e + c, z.e + c - 1, z.e, z.b, z.b - (1 + l0) - c, z.b - (1 + l0) - c + 1, z.b + 1] (by simp) (by simp) hS7 fun q S8 hq hS8 => ?_
          simp [biop, binop, wp_when, big]
          refine law_ints k [1 + l0, z.e - z.b] (by simp) (by simp) hS8 fun q2 S9 hq2 hS9 => ?_
          simp
          refine ⟨_, _, ⟨rfl, rfl⟩, ?_, ?_, hS9⟩
          · split <;> omega
          · simp at hq2; omega
        · simp [hw0, cmpop, truth]
          exact ⟨_, _, ⟨rfl, rfl⟩, hb.1, by omega, hS6⟩
      · simp [cmpop, truth, hi0]
        exact ⟨_, _, ⟨rfl, rfl⟩, hb.1, by omega, hS5⟩
    · rintro fl S6 ⟨b', l', d9, d10, d11, d12, rfl, hb', hl', hS6⟩
      simp [biop, lstOf, told_at hS6]
      refine law_ints k rs hr0 (by omega) hS6 fun r S7 hr7 hS7 => ?_
      simp [biop, binop]
      refine stroll (k + 1) 50 (by decide) hS7 fun w S8 hS8 _ hw => ?_
      simp [wp_when, big]
      refine law_ints k [0, 999, w] (by simp) (by simp) hS8 fun w2 S9 hw2 hS9 => ?_
      simp [wp_when, big, meop, told_at hS9]
      generalize hB : (if 9998 < b' then 9998 else b') = bb
      have b1 : bb ≤ 9998 := by rw [← hB]; split <;> omega
      generalize hE : (if bb + l' < 9999 then bb + l' else 9999) = ee
      have b2 : bb < ee := by rw [← hE]; split <;> omega
      refine ⟨by omega, ws ++ [⟨r, bb, ee, w2⟩], ?_, fun x hx => ?_, by simp; omega⟩
      · rw [List.map_append]
        exact told_set hS9
      · rcases List.mem_append.mp hx with h | h
        · exact hV x h
        · rw [List.mem_singleton.mp h]
          exact ⟨hr1 r hr7, b2⟩
  · rintro γ S' ⟨ws, c6, c7, c8, c9, c10, c11, c12, rfl, hS, hV, hl⟩
    have hl60 : ws.length ≤ 60 := by
      rw [hl]; unfold rangeL; simp; omega
    simp [biop, seqOf, told_at hS]
    exact hP c ws S' _ hc0 hl60 hV hS
  · exact ⟨[], none, none, none, none, none, none, none, rfl, h3, fun x hx => (nomatch hx), rfl⟩
end K01

namespace K01
open PySem PySem.Spec L2 Mi
@[simp] theorem wp_calm {τ : Type} (r : R τ) (P : τ → Store → Prop) : Wp r.calm P = Wp r P := by cases r <;> rfl
def nums (l : List Nat) : List M := l.map fun j : Nat => M.int (j : Int)
theorem nums_snoc (l : List Nat) (j : Nat) : nums (l ++ [j]) = nums l ++ [.int (j : Int)] := by simp [nums]
theorem plain_nums (l : List Nat) : M.plain.go (nums l) = true := plain_ints (fun i : Nat => (i : Int)) l
theorem cnts_nums (l : List Nat) : cnts (nums l) = l.length := by
  induction l with
  | nil => rfl
  | cons a l ih =>
    have e : nums (a :: l) = .int (a : Int) :: nums l := rfl
    rw [e]; simp [cnts, cnt, ih]; omega
theorem all_nums {n : Nat} : ∀ (r : List M), (∀ y ∈ r, ∃ i : Nat, y = .int (i : Int) ∧ i < n) → ∃ is : List Nat, r = nums is ∧ ∀ i ∈ is, i < n
  | [], _ => ⟨[], rfl, fun i hi => (nomatch hi)⟩
  | y :: r, h => by
    obtain ⟨i, rfl, hi⟩ := h y List.mem_cons_self
    obtain ⟨is, rfl, hs⟩ := all_nums r fun z hz => h z (List.mem_cons_of_mem _ hz)
    exact ⟨i :: is, rfl, fun j hj => (List.mem_cons.mp hj).elim (fun e => by rw [e]; exact hi) (hs j)⟩
theorem Rn_len {S L : Store} (h : Rn S L) : S.length = 3 + L.length := by
  obtain ⟨g0, gs, st, c, rfl⟩ := h
  simp [rng]; omega
theorem Rn_app {S L : Store} (h : Rn S L) (u : Store) : Rn (S ++ u) (L ++ u) := by
  obtain ⟨g0, gs, st, c, rfl⟩ := h
  exact ⟨g0, gs, st, c, by simp⟩
theorem ahead_self {c : Int} {x : W} (hc : 0 ≤ c) (h : x.b < x.e) : aheadB c x x = false := by
  unfold aheadB
  rw [show decide (x.e + c ≤ x.b) = false from decide_eq_false (by omega)]
  simp
/-- a store: three lists behind -/
def three (T : Store) (x y z : List Nat) : Store := T ++ [.lst (nums x), .lst (nums y), .lst (nums z)]
theorem three0 (T : Store) (x y z : List Nat) : (three T x y z)[T.length]? = some (.lst (nums x)) := by simp [three]
theorem three1 (T : Store) (x y z : List Nat) : (three T x y z)[T.length + 1]? = some (.lst (nums y)) := by simp [three]
theorem three2 (T : Store) (x y z : List Nat) : (three T x y z)[T.length + 2]? = some (.lst (nums z)) := by simp [three]
theorem three_s0 (T : Store) (x y z : List Nat) (u : List Nat) : (three T x y z).set T.length (.lst (nums u)) = three T u y z := by simp [three]
theorem three_s1 (T : Store) (x y z : List Nat) (u : List Nat) : (three T x y z).set (T.length + 1) (.lst (nums u)) = three T x u z := by simp [three]
theorem three_s2 (T : Store) (x y z : List Nat) (u : List Nat) : (three T x y z).set (T.length + 2) (.lst (nums u)) = three T x y u := by simp [three]
theorem pick_snoc (p : Nat → Bool) (q : Nat) : (List.range (q + 1)).filter p = (List.range q).filter p ++ (if p q = true then [q] else []) := by
  rw [List.range_succ, List.filter_append]
  by_cases h : p q = true <;> simp [h]
/-- x.extend([other] * int(b)) -/
theorem ext_out {S S1 : Store} {r : Nat} {l : List Nat} {b : Bool} {j : Nat} (h : S[r]? = some (.lst (nums l))) (hl : l.length ≤ 1000) (hs : S.set r (.lst (nums (l ++ if b = true then [j] else []))) = S1) :
    (binop false .mul (.lst [.int (j : Int)]) (.int (if b = true then 1 else 0)) S).bind (fun y S => meop .extend (.ref r) [y] S) = .ok .non S1 := by
  subst hs
  have e : binop false .mul (.lst [.int (j : Int)]) (.int (if b = true then 1 else 0)) S = .ok (.lst (nums (if b = true then [j] else []))) S := by cases b <;> rfl
  have hb : (nums l).length + (nums (if b = true then [j] else [])).length ≤ big := by
    unfold nums big
    rw [List.length_map, List.length_map]
    cases b <;> simp <;> omega
  rw [e, R.bind_ok]
  unfold meop
  simp only [h, R.of_some]
  rw [R.when_true hb]
  simp [nums]
section
variable (k : Nat) (c : Int) (ws : List W) (i : Nat)
def pC (c : Int) (ws : List W) (i j : Nat) : Bool := decide (i ≠ j) && clashB c (wat ws i) (wat ws j)
def pB (c : Int) (ws : List W) (i j : Nat) : Bool := decide (i ≠ j) && aheadB c (wat ws i) (wat ws j)
def pA (c : Int) (ws : List W) (i j : Nat) : Bool := decide (i ≠ j) && aheadB c (wat ws j) (wat ws i)
end
/-- a wish is never before itself -/
theorem pB_eq {c : Int} {ws : List W} {i q : Nat} (hc : 0 ≤ c) (hV : V ws) (hi : i < ws.length) : aheadB c (wat ws i) (wat ws q) = pB c ws i q := by
  unfold pB
  by_cases e : i = q
  · subst e
    rw [ahead_self hc (hV _ (List.mem_of_getElem? (wat_get hi))).2]
    simp
  · simp [e]
theorem pA_eq {c : Int} {ws : List W} {i q : Nat} (hc : 0 ≤ c) (hV : V ws) (hi : i < ws.length) : aheadB c (wat ws q) (wat ws i) = pA c ws i q := by
  unfold pA
  by_cases e : i = q
  · subst e
    rw [ahead_self hc (hV _ (List.mem_of_getElem? (wat_get hi))).2]
    simp
  · simp [e]
theorem ext_wp {S S1 : Store} {r : Nat} {l : List Nat} {b : Bool} {j : Nat} {P : M → Store → Prop} (h : S[r]? = some (.lst (nums l))) (hl : l.length ≤ 1000) (hs : S.set r (.lst (nums (l ++ if b = true then [j] else []))) = S1) (hP : P .non S1) :
    Wp (binop false .mul (.lst [.int (j : Int)]) (.int (if b = true then 1 else 0)) S) fun y S => Wp (meop .extend (.ref r) [y] S) P := by
  have e := ext_out (b := b) (j := j) h hl hs
  rw [← wp_bind, e]
  exact hP
section
variable (k : Nat) {c : Int} {ws : List W} {i q : Nat}
theorem and_ahead {A B c6 c7 c8 c9 c10 : Option M} (hi : i < ws.length) (hq : q < ws.length) (S : Store) : ev (evalFn Φ (k + 1)) (.and (.cmp .ne (.var 4) (.var 5)) (.one (.call true "_law_ahead" (.cons (.var 1) (.cons (.var 4) (.cons (.var 5) .nil))))))
    [some (.ref 2), some (bk c ws), A, B, some (.int i), some (.int q), c6, c7, c8, c9, c10] S = .ok (.bl (pB c ws i q)) S := by
  have e := lahead_call k c ws i q hi hq S
  simp [cmpop, eqM, beq_nat, pB]
  by_cases h : i = q
  · simp [h]
  · simp [h, e]
theorem and_ahead' {A B c6 c7 c8 c9 c10 : Option M} (hi : i < ws.length) (hq : q < ws.length) (S : Store) : ev (evalFn Φ (k + 1)) (.and (.cmp .ne (.var 4) (.var 5)) (.one (.call true "_law_ahead" (.cons (.var 1) (.cons (.var 5) (.cons (.var 4) .nil))))))
    [some (.ref 2), some (bk c ws), A, B, some (.int i), some (.int q), c6, c7, c8, c9, c10] S = .ok (.bl (pA c ws i q)) S := by
  have e := lahead_call k c ws q i hq hi S
  simp [cmpop, eqM, beq_nat, pA]
  by_cases h : i = q
  · simp [h]
  · simp [h, e]
end
theorem filter_le (p : Nat → Bool) (n : Nat) : ((List.range n).filter p).length ≤ n := by
  have := List.length_filter_le p (List.range n)
  simpa using this
theorem pairs (k : Nat) (c : Int) (ws : List W) (hc : 0 ≤ c) (hl : ws.length ≤ 60) (hV : V ws) {S L : Store} (h : Rn S L) {P : M → Store → Prop} (hP : ∀ S' L', Rn S' L' → P (.bl true) S') : Wp (evalFn Φ (k + 4) "_law_pairs" [.ref 2, bk c ws] S) P := by
  have hΦ : Φ "_law_pairs" = some d__law_pairs := by rfl
  refine wp_fn hΦ rfl ?_
  have hr : RgOk' 0 ws.length := rg_len _ (by omega)
  have elen : ∀ S : Store, biop .len [.tup (ws.map W.m)] S = .ok (.int ws.length) S := fun S => by simp [biop, seqOf]
  simp only [d__law_pairs]
  rw [q_scons, wp_bind]
  refine Wp.of (a := .nx [some (.ref 2), some (bk c ws), some (.lst (nums (List.range ws.length))), none, none, none, none, none, none, none, none]) (S := S) (by
    simp [ix1_bk, elen, range12, R.when_true hr, mkL, rangeN, nums]) ?_
  rw [nextM_nx, q_scons, wp_bind]
  refine Wp.mono (P := fun fl S' => ∃ is : List Nat, fl = .nx [some (.ref 2), some (bk c ws), some (.lst (nums (List.range ws.length))), some (.lst (nums is)), none, none, none, none, none, none, none] ∧ Rn S' L ∧ ∀ i ∈ is, i < ws.length) ?_ ?_
  · by_cases hn : ws.length < 10
    · simp [ix1_bk, elen, cmpop, truth, hn, show ((ws.length : Nat) : Int) < 10 by omega]
      exact ⟨List.range ws.length, rfl, h, fun i hi => List.mem_range.mp hi⟩
    · have hr6 : RgOk' 0 6 := by decide
      simp [ix1_bk, elen, cmpop, truth, hn, show ¬ ((ws.length : Nat) : Int) < 10 by omega, wp_when, hr6, lcRun]
      refine ⟨by decide, wp_compI (fun S => Rn S L) (by intro S _; rfl) (fun _ y => ∃ i : Nat, y = .int (i : Int) ∧ i < ws.length) _ S h (fun x _ S hS => ?_) fun r S' hS' hlen hA => ?_⟩
      · simp [turnP, bindT, wipeE, ix1_bk, elen]
        refine stroll (k + 2) ws.length (by omega) hS fun v S' hS' _ hv => ?_
        have hv := hv (by omega)
        simp
        exact ⟨hS', v.toNat, by omega, by omega⟩
      · obtain ⟨is, rfl, his⟩ := all_nums r fun y hy => by
          obtain ⟨q, hq, e⟩ := List.mem_iff_getElem.mp hy
          exact hA q ((rangeL 0 6)[q]'(by omega)) y (by simp) (by rw [List.getElem?_eq_getElem hq, e])
        exact ⟨is, rfl, hS', his⟩
  · rintro fl S1 ⟨is, rfl, h1, his⟩
    simp [seqOf]
    unfold forRun
    refine wp_for (fun q γ S => ∃ (c4 c5 c6 c7 c8 c9 c10 : Option M) (L' : Store), γ = [some (.ref 2), some (bk c ws), some (.lst (nums (List.range ws.length))), some (.lst (nums is)), c4, c5, c6, c7, c8, c9, c10] ∧ Rn S L') (nums is) (by intro _ _ _ _ _; rfl) ?_ ?_ _ _ ⟨_, _, _, _, _, _, _, L, rfl, h1⟩
    · rintro q x γ S hx ⟨c4, c5, c6, c7, c8, c9, c10, L', rfl, hS⟩
      obtain ⟨i, hi, rfl⟩ := List.mem_map.mp (List.mem_of_getElem? hx)
      have hin := his i hi
      simp [bindT, wp_when, mkL, big, bindT.go, seqOf, -q_ifS]
      rw [show (S ++ [O.lst [], O.lst [], O.lst []]) = three S [] [] [] from rfl]
      unfold forRun
      refine wp_for (fun q γ S'' => ∃ (d5 d6 : Option M), γ = [some (.ref 2), some (bk c ws), some (.lst (nums (List.range ws.length))), some (.lst (nums is)), some (.int i), d5, d6, some (.ref S.length), some (.ref (S.length + 1)), some (.ref (S.length + 2)), c10] ∧
        S'' = three S ((List.range q).filter (pC c ws i)) ((List.range q).filter (pB c ws i)) ((List.range q).filter (pA c ws i))) (nums (List.range ws.length)) (by intro _ _ _ _ _; rfl) ?_ ?_ _ _ ⟨c5, c6, rfl, rfl⟩
      · rintro q x γ S'' hx ⟨d5, d6, rfl, rfl⟩
        obtain ⟨hq, rfl⟩ : q < ws.length ∧ x = .int (q : Int) := by
          unfold nums at hx
          rw [List.getElem?_map] at hx
          obtain ⟨j, hj, rfl⟩ := Option.map_eq_some_iff.mp hx
          obtain ⟨hl, e⟩ := List.getElem?_eq_some_iff.mp hj
          simp at hl e
          subst e
          exact ⟨hl, rfl⟩
        have f1 : ∀ S, callM (evalFn Φ (k + 3)) true "do_clash" [bk c ws, .int i, .int q] S = .ok (.bl (pC c ws i q)) S := fun S => doclash_call (k + 1) c ws i q hin hq S
        have f2 : ∀ S, callM (evalFn Φ (k + 3)) true "stands_ahead" [bk c ws, .int i, .int q] S = .ok (.bl (pB c ws i q)) S := fun S => by
          rw [← pB_eq hc hV hin]; exact stands_call (k + 1) c ws i q hin hq S
        have f3 : ∀ S, callM (evalFn Φ (k + 3)) true "_law_clash" [bk c ws, .int i, .int q] S = .ok (.bl (pC c ws i q)) S := fun S => lclash_call (k + 1) c ws i q hin hq S
        have f4 : ∀ (b1 b2 : Bool) S, callM (evalFn Φ (k + 3)) true "_law_same" [.tup [.bl b1, .bl b2], .tup [.bl b1, .bl b2]] S = .ok (.bl true) S := fun b1 b2 S => same_call (k + 2) S _ rfl (by simp [cnt, cnts])
        have g1 := fun (A B c6 c7 c8 c9 c10 : Option M) (S : Store) => and_ahead (k + 2) (c := c) (A := A) (B := B) (c6 := c6) (c7 := c7) (c8 := c8) (c9 := c9) (c10 := c10) hin hq S
        have g2 := fun (A B c6 c7 c8 c9 c10 : Option M) (S : Store) => and_ahead' (k + 2) (c := c) (A := A) (B := B) (c6 := c6) (c7 := c7) (c8 := c8) (c9 := c9) (c10 := c10) hin hq S
        simp [-q_and, bindT, f1, f2, f3, f4, g1, g2, place, Cs.len, wp_when, big, truth, biop, lstOf, three0, mkL]
        have lq : ∀ p : Nat → Bool, ((List.range q).filter p).length ≤ 1000 := fun p => Nat.le_trans (filter_le p q) (by omega)
        refine ext_wp (three0 _ _ _ _) (lq _) (three_s0 _ _ _ _ _) ?_
        simp [three1]
        refine ext_wp (three1 _ _ _ _) (lq _) (three_s1 _ _ _ _ _) ?_
        simp [three2]
        refine ext_wp (three2 _ _ _ _) (lq _) (three_s2 _ _ _ _ _) ?_
        simp only [pick_snoc]
      · rintro γ S'' ⟨d5, d6, rfl, rfl⟩
        have f1 : ∀ S, callM (evalFn Φ (k + 3)) true "clashes_of" [bk c ws, .int i] S = .ok (.tup (nums ((List.range ws.length).filter (pC c ws i)))) S := fun S => clashes_of_eq k c ws i (by omega) hin S
        have f2 : ∀ S, callM (evalFn Φ (k + 3)) true "wishes_behind" [bk c ws, .int i] S = .ok (.tup (nums ((List.range ws.length).filter (pB c ws i)))) S := fun S => by
          rw [behind_eq k c ws i (by omega) hin S, show (fun j => aheadB c (wat ws i) (wat ws j)) = pB c ws i from funext fun j => pB_eq hc hV hin]
          rfl
        have f3 : ∀ S, callM (evalFn Φ (k + 3)) true "wishes_ahead" [bk c ws, .int i] S = .ok (.tup (nums ((List.range ws.length).filter (pA c ws i)))) S := fun S => by
          rw [wahead_eq k c ws i (by omega) hin S, show (fun j => aheadB c (wat ws j) (wat ws i)) = pA c ws i from funext fun j => pA_eq hc hV hin]
          rfl
        have nl : (nums (List.range ws.length)).length = ws.length := by simp [nums]
        have f4 : ∀ x y z S, x.length ≤ 1000 → y.length ≤ 1000 → z.length ≤ 1000 → callM (evalFn Φ (k + 3)) true "_law_same" [.tup [.tup (nums x), .tup (nums y), .tup (nums z)], .tup [.tup (nums x), .tup (nums y), .tup (nums z)]] S = .ok (.bl true) S := fun x y z S h1 h2 h3 =>
          same_call (k + 2) S _ (by simp [M.plain, M.plain.go, plain_nums]) (by simp [cnt, cnts, cnts_nums]; omega)
        have lq : ∀ p : Nat → Bool, ((List.range ws.length).filter p).length ≤ 1000 := fun p => Nat.le_trans (filter_le p _) (by omega)
        simp [nl, f1, f2, f3, f4, lq, place, Cs.len, wp_when, big, biop, seqOf, three0, three1, three2, truth]
        exact ⟨_, Rn_app hS _⟩
    · rintro γ S ⟨c4, c5, c6, c7, c8, c9, c10, L', rfl, hS⟩
      simp
      exact hP S L' hS
end K01

namespace K01
open PySem PySem.Spec L2 Mi
theorem wants_lt {ws : List W} {r : Int} : ∀ j ∈ wants ws r, j < ws.length := fun j hj => List.mem_range.mp (List.mem_filter.mp hj).1
theorem wants_len {ws : List W} {r : Int} : (wants ws r).length ≤ ws.length := by
  have := filter_le (fun j => decide ((wat ws j).r = r)) ws.length
  exact this
theorem len_m (ws : List W) (S : Store) : biop .len [.tup (ws.map W.m)] S = .ok (.int ws.length) S := by simp [biop, seqOf]
theorem span_eq (k : Nat) (c : Int) (ws : List W) (r : Int) (hl : ws.length ≤ 1000) (hne : wants ws r ≠ []) :
    evalFn Φ (k + 2) "span_of" [bk c ws, .int r] [] = .ok (.tup [.int (minZ ((wants ws r).map fun j => (wat ws j).b)), .int (maxZ ((wants ws r).map fun j => (wat ws j).e))]) [] := by
  have h : Φ "span_of" = some d_span_of := by rfl
  have hw : callM (evalFn Φ (k + 1)) true "wishes_of" [bk c ws, .int r] [] = .ok (.tup (nums (wants ws r))) [] := by
    refine pure_call (by simp [derefs, de_bk, de_int]) (wishes_eq k c ws r hl) ?_
    have := plain_nums (wants ws r)
    unfold nums at this
    simp only [freeze, M.plain, this, if_true, nums]
  have hll := wants_len (ws := ws) (r := r)
  have hp : 0 < (wants ws r).length := List.length_pos_iff.mpr hne
  rw [evalFn]
  simp only [h]
  have e1 := fun (A : Option M) (S : Store) => lc_all (call := evalFn Φ (k + 1)) (γ := [some (bk c ws), some (.int r), A, none, none]) (S := S) (tg := .nm 3) (ifs := .no) (e := .ix (.ix (.var 0) (.con (.int 1))) (.var 3)) (own := [3]) (s := ⟨nums (wants ws r), .tup (nums (wants ws r)), nums (wants ws r)⟩) (wants ws r) (fun j : Nat => M.int (j : Int)) (fun j => (wat ws j).m) rfl (by unfold big; omega) rfl
    (fun j hj => by simp [turnP, bindT, wipeE, ix1_bk, ix_w (wants_lt j hj), R.calm])
  have e2 := fun (A B : Option M) (S : Store) => lc_all (call := evalFn Φ (k + 1)) (γ := [some (bk c ws), some (.int r), A, B, none]) (S := S) (tg := .nm 4) (ifs := .no) (e := .ix (.var 4) (.con (.int 1))) (own := [4]) (s := ⟨(wants ws r).map fun j => (wat ws j).m, .lst ((wants ws r).map fun j => (wat ws j).m), (wants ws r).map fun j => (wat ws j).m⟩) (wants ws r) (fun j => (wat ws j).m) (fun j => .int (wat ws j).b) rfl (by unfold big; omega) rfl
    (fun j hj => by simp [turnP, bindT, wipeE, w1, R.calm])
  have e3 := fun (A B : Option M) (S : Store) => lc_all (call := evalFn Φ (k + 1)) (γ := [some (bk c ws), some (.int r), A, B, none]) (S := S) (tg := .nm 4) (ifs := .no) (e := .ix (.var 4) (.con (.int 2))) (own := [4]) (s := ⟨(wants ws r).map fun j => (wat ws j).m, .lst ((wants ws r).map fun j => (wat ws j).m), (wants ws r).map fun j => (wat ws j).m⟩) (wants ws r) (fun j => (wat ws j).m) (fun j => .int (wat ws j).e) rfl (by unfold big; omega) rfl
    (fun j hj => by simp [turnP, bindT, wipeE, w2, R.calm])
  have p1 : 0 < ((wants ws r).map fun j => (wat ws j).b).length := by simpa using hp
  have p2 : 0 < ((wants ws r).map fun j => (wat ws j).e).length := by simpa using hp
  simp [d_span_of, hw, seqOf, e1, e2, e3, mkL, biop, lstOf, ints_map, hp, R.when_true, big]
/-- a comprehension that keeps some -/
theorem wp_compF {τ : Type} {s : Src} {f : M → Store → R (Option M)} {P : List M → Store → Prop} (I : Store → Prop) (hok : ∀ S, I S → s.ok S) (t g : τ → M) : ∀ (l : List τ) (S : Store), I S → (∀ x ∈ l, ∀ S, I S → Wp (f (t x) S) fun o S' => I S' ∧ (o = some (g x) ∨ o = none)) →
    (∀ (l' : List τ) S', I S' → l'.Sublist l → P (l'.map g) S') → Wp (compLoop s f (l.map t) S) P
  | [], S, hS, h, q => by
    rw [List.map_nil]
    unfold compLoop
    rw [wp_when]
    exact ⟨hok S hS, q [] S hS (List.Sublist.refl _)⟩
  | x :: l, S, hS, h, q => by
    rw [List.map_cons]
    unfold compLoop
    rw [wp_when, wp_bind]
    refine ⟨hok S hS, (h x List.mem_cons_self S hS).mono fun o S1 ⟨h1, ho⟩ => ?_⟩
    rw [wp_bind]
    refine wp_compF I hok t g l S1 h1 (fun z hz => h z (List.mem_cons_of_mem _ hz)) fun l' S2 h2 hs => ?_
    rw [wp_ok]
    rcases ho with rfl | rfl
    · exact q (x :: l') S2 h2 (hs.cons₂ x)
    · exact q l' S2 h2 (hs.cons x)
theorem sum_take {f : Nat → Int} (q : Nat) : ((List.range (q + 1)).map f).sum = ((List.range q).map f).sum + f q := by
  rw [List.range_succ, List.map_append, List.sum_append]
  simp
theorem sum_sub (f : Nat → Int) : ∀ {l l' : List Nat}, l'.Sublist l → l.Nodup → (l.map fun j => if j ∈ l' then f j else 0).sum = (l'.map f).sum
  | _, _, .slnil, _ => rfl
  | _, _, .cons (l₁ := l') (l₂ := l) a h, nd => by
    have na := (List.nodup_cons.mp nd)
    rw [List.map_cons, List.sum_cons, if_neg fun q => na.1 (h.subset q), sum_sub f h na.2]
    omega
  | _, _, .cons₂ (l₁ := l') (l₂ := l) a h, nd => by
    have na := (List.nodup_cons.mp nd)
    rw [List.map_cons, List.sum_cons, if_pos List.mem_cons_self, List.map_cons, List.sum_cons, ← sum_sub f h na.2]
    congr 2
    refine List.map_congr_left fun j hj => ?_
    have hne : j ≠ a := fun e => na.1 (by rw [← e]; exact hj)
    simp [hne]
theorem sum_w (ws : List W) (f : W → Int) : ((List.range ws.length).map fun j => f (wat ws j)).sum = (ws.map f).sum := by
  congr 1
  apply List.ext_getElem
  · simp
  · intro i h1 h2
    simp at h1
    simp [wat, h1]
def used (ws : List W) (n : Nat) : List Nat := (List.range n).filter fun r => decide (wants ws (r : Int) ≠ [])
theorem rooms_same {ws : List W} (hV : V ws) : isort (dedup (ws.map W.r)) = (used ws 10).map fun r : Nat => (r : Int) := by
  symm
  have srt : ((used ws 10).map fun r : Nat => (r : Int)).Pairwise (· < ·) := by
    unfold used
    rw [List.pairwise_map]
    exact (List.pairwise_lt_range.filter _).imp fun h => by omega
  refine isort_same ((List.perm_ext_iff_of_nodup (srt.imp fun h => Int.ne_of_lt h) (nodup_dedup _)).mpr fun j => ?_) (srt.imp fun h => Int.le_of_lt h)
  rw [mem_dedup, List.mem_map, List.mem_map]
  constructor
  · rintro ⟨r, hr, rfl⟩
    have h2 := of_decide_eq_true (List.mem_filter.mp hr).2
    obtain ⟨q, hq⟩ := List.exists_mem_of_ne_nil _ h2
    have hq' := List.mem_filter.mp hq
    exact ⟨wat ws q, List.mem_of_getElem? (wat_get (List.mem_range.mp hq'.1)), of_decide_eq_true hq'.2⟩
  · rintro ⟨x, hx, rfl⟩
    have v := (hV x hx).1
    obtain ⟨q, hq, e⟩ := List.mem_iff_getElem.mp hx
    refine ⟨x.r.toNat, List.mem_filter.mpr ⟨List.mem_range.mpr (by omega), decide_eq_true fun h0 => ?_⟩, by omega⟩
    have : q ∈ wants ws (x.r.toNat : Int) := by
      refine List.mem_filter.mpr ⟨List.mem_range.mpr hq, decide_eq_true ?_⟩
      have := wat_get hq
      rw [List.getElem?_eq_getElem hq, e] at this
      rw [← Option.some.inj this]
      omega
    rw [h0] at this
    cases this
theorem dd_len {ws : List W} (hV : V ws) : (dedup (ws.map W.r)).length < 64 := by
  have h1 := congrArg List.length (rooms_same hV)
  rw [(isort_perm _).length_eq, List.length_map] at h1
  have : (used ws 10).length ≤ 10 := filter_le _ 10
  omega
end K01

namespace K01
open PySem PySem.Spec L2 Mi
theorem used_snoc (ws : List W) (q : Nat) : used ws (q + 1) = used ws q ++ (if decide (wants ws (q : Int) ≠ []) = true then [q] else []) := pick_snoc _ q
theorem facts (k : Nat) (c : Int) (ws : List W) (hl : ws.length ≤ 60) (hV : V ws) {S L : Store} (h : Rn S L) {P : M → Store → Prop} (hP : ∀ S' L', Rn S' L' → P (.bl true) S') : Wp (evalFn Φ (k + 4) "_law_facts" [.ref 2, bk c ws] S) P := by
  have hΦ : Φ "_law_facts" = some d__law_facts := by rfl
  refine wp_fn hΦ rfl ?_
  have hr : RgOk' 0 ws.length := rg_len _ (by omega)
  have h10 : RgOk' 0 10 := by decide
  have hlen := Rn_len h
  have h0 : Rn (S ++ [O.lst []]) (L ++ [O.lst (nums (used ws 0))]) := Rn_app h _
  simp [d__law_facts, ix1_bk, wp_when, big, mkL, h10]
  rw [hlen]
  unfold forRun
  refine wp_for (fun q γ S' => ∃ (c4 c5 c6 c7 c8 c9 c10 c11 : Option M), γ = [some (.ref 2), some (bk c ws), some (.tup (ws.map W.m)), some (.ref (3 + L.length)), c4, c5, c6, c7, c8, c9, c10, c11] ∧ Rn S' (L ++ [O.lst (nums (used ws q))])) (rangeL 0 10) (by intro _ _ _ _ _; rfl) ?_ ?_ _ _ ⟨_, _, _, _, _, _, _, _, rfl, h0⟩
  · rintro q x γ S1 hx ⟨c4, c5, c6, c7, c8, c9, c10, c11, rfl, hS⟩
    obtain ⟨hq, rfl⟩ : q < 10 ∧ x = .int (q : Int) := by
      rw [show (rangeL 0 10) = (List.range 10).map fun i : Nat => M.int (i : Int) from rangeN 10, List.getElem?_map] at hx
      obtain ⟨j, hj, rfl⟩ := Option.map_eq_some_iff.mp hx
      obtain ⟨hl, e⟩ := List.getElem?_eq_some_iff.mp hj
      simp at hl e
      subst e
      exact ⟨hl, rfl⟩
    have e1 := fun (c5 c6 c7 c8 c9 c10 c11 : Option M) (S : Store) => lc_some (call := evalFn Φ (k + 3)) (γ := [some (.ref 2), some (bk c ws), some (.tup (ws.map W.m)), some (.ref (3 + L.length)), some (.int q), c5, c6, c7, c8, c9, c10, c11]) (S := S) (tg := .nm 6) (ifs := .so (.v (.cmp .eq (.ix (.ix (.var 2) (.var 6)) (.con (.int 0))) (.var 4)))) (e := .var 6) (own := [6])
      (s := ⟨rangeL 0 ws.length, .tup [], []⟩) (List.range ws.length) (fun j : Nat => M.int (j : Int)) (fun j => decide ((wat ws j).r = q)) (fun j : Nat => M.int (j : Int)) (rangeN _) (by simp [big]; omega) rfl
      (fun j hj => by
        have hj := List.mem_range.mp hj
        simp [turnP, bindT, wipeE, ix_w hj, w0, cmpop, eqM, truth]
        by_cases e : (wat ws j).r = q <;> simp [e, R.calm])
    have e1 : ∀ (c5 c6 c7 c8 c9 c10 c11 : Option M) (S : Store), lcRun (evalFn Φ (k + 3)) [some (.ref 2), some (bk c ws), some (.tup (ws.map W.m)), some (.ref (3 + L.length)), some (.int q), c5, c6, c7, c8, c9, c10, c11] S (.nm 6) (.so (.v (.cmp .eq (.ix (.ix (.var 2) (.var 6)) (.con (.int 0))) (.var 4)))) (.var 6) [6] ⟨rangeL 0 ws.length, .tup [], []⟩ = .ok (nums (wants ws q)) S := e1
    have nl : (nums (wants ws q)).length = (wants ws q).length := by simp [nums]
    simp [bindT, len_m, hr, wp_when, e1, mkL, -q_ifS]
    by_cases hw : wants ws (q : Int) = []
    · simp [biop, seqOf, hw, show (nums ([] : List Nat)).length = 0 from rfl, cmpop, truth]
      rw [used_snoc, hw]
      simpa using hS
    · have hp : 0 < (wants ws (q : Int)).length := List.length_pos_iff.mpr hw
      have hll := wants_len (ws := ws) (r := (q : Int))
      have ul : (used ws q).length ≤ q := filter_le _ q
      have g1 := fun (c6 c7 c8 c9 c10 c11 : Option M) (S : Store) => lc_all (call := evalFn Φ (k + 3)) (γ := [some (.ref 2), some (bk c ws), some (.tup (ws.map W.m)), some (.ref (3 + L.length)), some (.int q), some (.lst (nums (wants ws q))), c6, c7, c8, c9, c10, c11]) (S := S) (tg := .nm 6) (ifs := .no) (e := .ix (.ix (.var 2) (.var 6)) (.con (.int 1))) (own := [6]) (s := ⟨nums (wants ws q), .lst (nums (wants ws q)), nums (wants ws q)⟩) (wants ws q) (fun j : Nat => M.int (j : Int)) (fun j => .int (wat ws j).b) rfl (by unfold big; omega) rfl
        (fun j hj => by simp [turnP, bindT, wipeE, ix_w (wants_lt j hj), w1, R.calm])
      have g2 := fun (c6 c7 c8 c9 c10 c11 : Option M) (S : Store) => lc_all (call := evalFn Φ (k + 3)) (γ := [some (.ref 2), some (bk c ws), some (.tup (ws.map W.m)), some (.ref (3 + L.length)), some (.int q), some (.lst (nums (wants ws q))), c6, c7, c8, c9, c10, c11]) (S := S) (tg := .nm 6) (ifs := .no) (e := .ix (.ix (.var 2) (.var 6)) (.con (.int 2))) (own := [6]) (s := ⟨nums (wants ws q), .lst (nums (wants ws q)), nums (wants ws q)⟩) (wants ws q) (fun j : Nat => M.int (j : Int)) (fun j => .int (wat ws j).e) rfl (by unfold big; omega) rfl
        (fun j hj => by simp [turnP, bindT, wipeE, ix_w (wants_lt j hj), w2, R.calm])
      have f1 : ∀ S, callM (evalFn Φ (k + 3)) true "wishes_of" [bk c ws, .int q] S = .ok (.tup (nums (wants ws q))) S := fun S => by
        refine pure_call (by simp [derefs, de_bk, de_int]) (wishes_eq (k + 2) c ws q (by omega)) ?_
        have := plain_nums (wants ws q)
        unfold nums at this
        simp only [freeze, M.plain, this, if_true, nums]
      have f2 : ∀ S, callM (evalFn Φ (k + 3)) true "span_of" [bk c ws, .int q] S = .ok (.tup [.int (minZ ((wants ws q).map fun j => (wat ws j).b)), .int (maxZ ((wants ws q).map fun j => (wat ws j).e))]) S := fun S =>
        pure_call (by simp [derefs, de_bk, de_int]) (span_eq (k + 1) c ws q (by omega) hw) (by simp [freeze, M.plain, M.plain.go])
      have f3 : ∀ (l : List Nat) (a b : Int) S, l.length ≤ 1000 → callM (evalFn Φ (k + 3)) true "_law_same" [.tup [.tup (nums l), .tup [.int a, .int b]], .tup [.tup (nums l), .tup [.int a, .int b]]] S = .ok (.bl true) S := fun l a b S h =>
        same_call (k + 2) S _ (by simp [M.plain, M.plain.go, plain_nums]) (by simp [cnt, cnts, cnts_nums]; omega)
      have hub : (nums (used ws q)).length < 1000000 := by unfold nums; rw [List.length_map]; omega
      have f3' := fun (a b : Int) S => f3 (wants ws q) a b S (by omega)
      simp [biop, seqOf, nl, hp, cmpop, truth, lstOf, told_at hS, meop, hub, wp_when, g1, g2, mkL, ints_map, bindT.go, f1, f2, f3', place, Cs.len, big]
      rw [used_snoc, decide_eq_true hw, if_pos rfl, nums_snoc]
      exact told_set hS
  · rintro γ S1 ⟨c4, c5, c6, c7, c8, c9, c10, c11, rfl, hS⟩
    rw [nextM_nx, q_scons, wp_bind]
    refine Wp.of (a := .nx [some (.ref 2), some (bk c ws), some (.tup (ws.map W.m)), some (.ref (3 + L.length)), c4, c5, c6, c7, some (.int 0), some (.int 0), c10, c11]) (S := S1) (by simp [big, bindT, bindT.go]) ?_
    rw [nextM_nx, q_scons, wp_bind]
    refine Wp.mono (P := fun fl S' => ∃ l : List Nat, fl = .nx [some (.ref 2), some (bk c ws), some (.tup (ws.map W.m)), some (.ref (3 + L.length)), c4, some (.lst (nums l)), c6, c7, some (.int 0), some (.int 0), c10, c11] ∧ Rn S' (L ++ [O.lst (nums (used ws 10))]) ∧ l.Sublist (List.range ws.length)) ?_ ?_
    · simp [len_m, wp_when, hr, lcRun]
      rw [rangeN]
      refine ⟨by simp [big]; omega, wp_compF (fun S => Rn S (L ++ [O.lst (nums (used ws 10))])) (by intro _ _; rfl) (fun j : Nat => M.int (j : Int)) (fun j : Nat => M.int (j : Int)) _ S1 (by simpa [rangeL] using hS) (fun x hx S hS => ?_) fun l S' hS' hs => ?_⟩
      · simp [turnP, bindT, wipeE, cmpop, truth]
        refine stroll (k + 2) 3 (by decide) hS fun v S' hS' _ hv => ?_
        by_cases hv0 : 0 < v <;> simp [hv0, cmpop, truth, hS']
      · simp [mkL]
        exact ⟨l, rfl, hS', hs⟩
    · rintro fl S2 ⟨l, rfl, hS2, hs⟩
      rw [nextM_nx, q_scons, wp_bind]
      refine Wp.mono (P := fun fl S' => ∃ c6 : Option M, fl = .nx [some (.ref 2), some (bk c ws), some (.tup (ws.map W.m)), some (.ref (3 + L.length)), c4, some (.lst (nums l)), c6, c7, some (.int (ws.map W.w).sum), some (.int (l.map fun j => (wat ws j).e - (wat ws j).b).sum), c10, c11] ∧ S' = S2) ?_ ?_
      · simp [len_m, wp_when, hr]
        unfold forRun
        refine wp_for (fun q γ S' => ∃ c6 : Option M, γ = [some (.ref 2), some (bk c ws), some (.tup (ws.map W.m)), some (.ref (3 + L.length)), c4, some (.lst (nums l)), c6, c7, some (.int ((List.range q).map fun j => (wat ws j).w).sum), some (.int ((List.range q).map fun j => if j ∈ l then (wat ws j).e - (wat ws j).b else 0).sum), c10, c11] ∧ S' = S2) (rangeL 0 ws.length) (by intro _ _ _ _ _; rfl) ?_ ?_ _ _ ⟨_, rfl, rfl⟩
        · rintro q x γ S' hx ⟨d6, rfl, rfl⟩
          obtain ⟨hq, rfl⟩ : q < ws.length ∧ x = .int (q : Int) := by
            rw [rangeN, List.getElem?_map] at hx
            obtain ⟨j, hj, rfl⟩ := Option.map_eq_some_iff.mp hx
            obtain ⟨hl, e⟩ := List.getElem?_eq_some_iff.mp hj
            simp at hl e
            subst e
            exact ⟨hl, rfl⟩
          have hin : (∃ a, a ∈ l ∧ ((a : Nat) : Int) = ((q : Nat) : Int)) = (q ∈ l) := propext ⟨fun ⟨a, ha, e⟩ => by
            have : a = q := by omega
            rw [← this]; exact ha, fun h => ⟨q, h, rfl⟩⟩
          have i1 : intsOf (nums l) = some (l.map fun j : Nat => (j : Int)) := ints_map _ l
          by_cases hql : q ∈ l
          · simp [bindT, ix_w hq, w1, w2, w3, binop, cmpop, seqOf, i1, truth, hin, hql]
            exact ⟨(sum_take q).symm, by rw [sum_take, if_pos hql]⟩
          · simp [bindT, ix_w hq, w1, w2, w3, binop, cmpop, seqOf, i1, truth, hin, hql]
            exact ⟨(sum_take q).symm, by rw [sum_take, if_neg hql]; omega⟩
        · rintro γ S' ⟨d6, rfl, rfl⟩
          have el : (rangeL 0 ws.length).length = ws.length := by rw [rangeN]; simp
          rw [el]
          refine ⟨⟨d6, ?_⟩, rfl⟩
          rw [sum_w ws W.w, sum_sub (fun j => (wat ws j).e - (wat ws j).b) hs List.nodup_range]
      · rintro fl S3 ⟨d6, rfl, rfl⟩
        have hll : l.length ≤ ws.length := by simpa using hs.length_le
        have hlm : ∀ j ∈ l, j < ws.length := fun j hj => List.mem_range.mp (hs.subset hj)
        have ul : (used ws 10).length ≤ 10 := filter_le _ 10
        have f1 : ∀ S, callM (evalFn Φ (k + 3)) true "rooms_of" [bk c ws] S = .ok (.tup (nums (used ws 10))) S := fun S => by
          refine pure_call (by simp [derefs, de_bk]) (rooms_eq (k + 2) c ws (by omega) (dd_len hV)) ?_
          rw [rooms_same hV, List.map_map]
          have := plain_nums (used ws 10)
          unfold nums at this
          simp only [freeze, M.plain]
          show (if M.plain.go ((used ws 10).map fun j : Nat => M.int (j : Int)) = true then _ else none) = _
          rw [if_pos this]
          rfl
        have f2 : ∀ S, callM (evalFn Φ (k + 3)) true "total_worth" [bk c ws] S = .ok (.int (ws.map W.w).sum) S := fun S => pure_call (by simp [derefs, de_bk]) (worth_eq (k + 2) c ws (by omega)) (fz_int _ _)
        have de_n : ∀ (l : List Nat) S, derefA S (.tup (nums l)) = some (.tup (nums l)) := fun l S => de_plain S _ (by simp [M.plain, plain_nums])
        have f3 : ∀ S, callM (evalFn Φ (k + 3)) true "busy_time" [bk c ws, .tup (nums l)] S = .ok (.int (l.map fun j => (wat ws j).e - (wat ws j).b).sum) S := fun S => pure_call (by simp [derefs, de_bk, de_n]) (sum_busy (k + 2) c ws l (by omega) hlm) (fz_int _ _)
        have f4 : ∀ S, callM (evalFn Φ (k + 3)) true "busy_time" [bk c ws, .tup []] S = .ok (.int 0) S := fun S => pure_call (by simp only [derefs, de_bk, show derefA S (.tup []) = some (.tup []) from rfl]; rfl) (sum_busy (k + 2) c ws [] (by simp) (fun _ h => nomatch h)) (fz_int _ _)
        have f5 : ∀ (a b d : Int) S, callM (evalFn Φ (k + 3)) true "_law_same" [.tup [.tup (nums (used ws 10)), .int a, .int b, .int d], .tup [.tup (nums (used ws 10)), .int a, .int b, .int d]] S = .ok (.bl true) S := fun a b d S =>
          same_call (k + 2) S _ (by simp [M.plain, M.plain.go, plain_nums]) (by simp [cnt, cnts, cnts_nums]; omega)
        have ta := told_at hS2
        simp [f1, f2, f3, f4, f5, place, Cs.len, wp_when, big, biop, seqOf, ta]
        exact hP _ _ hS2
end K01

namespace K01
open PySem PySem.Spec L2 Mi
def okTrue (r : R M) : Bool := match r with
  | .ok (.bl true) _ => true
  | _ => false
theorem okTrue_of {r : R M} (h : okTrue r = true) : ∃ S, r = .ok (.bl true) S := by
  unfold okTrue at h
  split at h
  · exact ⟨_, rfl⟩
  · cases h
theorem hand_ok : okTrue (evalFn Φ 39 "_law_hand" [] []) = true := by decide +kernel
theorem hand_call (S : Store) : callM (evalFn Φ 39) true "_law_hand" [] S = .ok (.bl true) S := by
  obtain ⟨S', e⟩ := okTrue_of hand_ok
  exact pure_call rfl e (fz_bl _ _)
theorem plain_wp (ns : List Int) (hn : ns.length ≤ 63) : Wp (evalFn Φ 40 "law" [.scr ns] []) fun r _ => r = .bl true := by
  have hΦ : Φ "law" = some d_law := by rfl
  refine wp_fn hΦ rfl ?_
  have h3 : RgOk' 0 3 := by decide
  simp [d_law, hand_call, truth, wp_when, h3]
  refine meadow 38 ns hn fun S h => ?_
  try simp [hand_call, truth, wp_when, h3]
  unfold forRun
  refine wp_for (fun q γ S' => ∃ (c2 c3 : Option M) (L' : Store), γ = [some (.scr ns), some (.ref 2), c2, c3] ∧ Rn S' L') (rangeL 0 3) (by intro _ _ _ _ _; rfl) ?_ ?_ _ _ ⟨_, _, [], rfl, h⟩
  · rintro q x γ S' hx ⟨c2, c3, L', rfl, hS⟩
    simp [bindT]
    refine stroll 38 8 (by decide) hS fun v S1 hS1 _ hv => ?_
    have hv := hv (by decide)
    try simp [binop]
    refine book 36 (1 + v) 3 (by omega) (.inl rfl) hS1 fun c ws S2 L2' hc hl hV hS2 => ?_
    try simp
    refine pairs 35 c ws hc hl hV hS2 fun S3 L3 hS3 => ?_
    try simp [truth]
    refine facts 35 c ws hl hV hS3 fun S4 L4 hS4 => ?_
    try simp [truth]
    exact ⟨L4, hS4⟩
  · rintro γ S' ⟨c2, c3, L', rfl, hS⟩
    try simp
    refine stroll 38 11 (by decide) hS fun v S1 hS1 _ hv => ?_
    try simp [cmpop, eqM, truth]
    by_cases h3 : v = 3
    · simp [h3]
      refine book 36 60 10 (by omega) (.inr rfl) hS1 fun c ws S2 L2' hc hl hV hS2 => ?_
      try simp
      refine pairs 35 c ws hc hl hV hS2 fun S3 L3 hS3 => ?_
      try simp [truth]
      refine facts 35 c ws hl hV hS3 fun S4 L4 hS4 => ?_
      try simp
    · simp [h3]
theorem plain : ∀ ns : List Int, ns.length ≤ 63 → ∃ S, evalFn (tabF Ψ) 40 "law" [.scr ns] [] = .ok (.bl true) S := fun ns hn => by
  obtain ⟨r, S, e, rfl⟩ := (plain_wp ns hn).ex
  exact ⟨S, e⟩
end K01

namespace K01
open PySem PySem.Spec L2 Mi
theorem lookup_mem {l : List (String × Tab)} {f : String} {t : Tab} (h : l.lookup f = some t) : (f, t) ∈ l := by
  induction l with
  | nil => cases h
  | cons a l ih =>
    obtain ⟨g, u⟩ := a
    rw [List.lookup_cons] at h
    split at h
    · rename_i e
      cases h
      rw [eq_of_beq e]
      exact List.mem_cons_self
    · exact List.mem_cons_of_mem _ (ih h)
/-! ### where the defs stand (printed by gen_end.py) -/
section
open PyProof.Rows
theorem at_is_ahead {K : PySem.W.Frag} {mg : Str → Option Value} {h : Heap} (KX : K.In h) (G : h.Ns mainGlobals mg) {a : Addr} {oc kV dc pm cd ct : Value} {od an : Option Addr} {sl : Array (Option Value)} (a1 : PySem.W.nsIn K mainGlobals (Str.ofString "is_ahead") = some (some (.ref a)))
    (l1 : K.lookup a = some ⟨oc, od, .func (PySem.W.fnOf (Str.ofString "is_ahead") (Str.ofString "is_ahead") (defArgs t_is_ahead.st) (defBody t_is_ahead.st) (defScope t_is_ahead.st) .none kV dc pm an cd ct), sl⟩) (c1 : PySem.W.codeIn K cd (Str.ofString "is_ahead") = true) (k1 : PySem.W.keepIn K (.ref a) = true) : At K mg "is_ahead" t_is_ahead a (PySem.W.fnOf (Str.ofString "is_ahead") (Str.ofString "is_ahead") (defArgs t_is_ahead.st) (defBody t_is_ahead.st) (defScope t_is_ahead.st) .none kV dc pm an cd ct) :=
  at_mk KX G a1 l1 c1 k1 (fun _ _ _ _ _ _ us hl => match us, hl with | [_, _, _], _ => rfl) (fun _ _ _ _ _ _ n qs hm => nomatch (show (n, qs) ∈ ([] : List (Nat × List Nat)) from hm))
theorem at_are_clashing {K : PySem.W.Frag} {mg : Str → Option Value} {h : Heap} (KX : K.In h) (G : h.Ns mainGlobals mg) {a : Addr} {oc kV dc pm cd ct : Value} {od an : Option Addr} {sl : Array (Option Value)} (a1 : PySem.W.nsIn K mainGlobals (Str.ofString "are_clashing") = some (some (.ref a)))
    (l1 : K.lookup a = some ⟨oc, od, .func (PySem.W.fnOf (Str.ofString "are_clashing") (Str.ofString "are_clashing") (defArgs t_are_clashing.st) (defBody t_are_clashing.st) (defScope t_are_clashing.st) .none kV dc pm an cd ct), sl⟩) (c1 : PySem.W.codeIn K cd (Str.ofString "are_clashing") = true) (k1 : PySem.W.keepIn K (.ref a) = true) : At K mg "are_clashing" t_are_clashing a (PySem.W.fnOf (Str.ofString "are_clashing") (Str.ofString "are_clashing") (defArgs t_are_clashing.st) (defBody t_are_clashing.st) (defScope t_are_clashing.st) .none kV dc pm an cd ct) :=
  at_mk KX G a1 l1 c1 k1 (fun _ _ _ _ _ _ us hl => match us, hl with | [_, _, _], _ => rfl) (fun _ _ _ _ _ _ n qs hm => nomatch (show (n, qs) ∈ ([] : List (Nat × List Nat)) from hm))
theorem at_do_clash {K : PySem.W.Frag} {mg : Str → Option Value} {h : Heap} (KX : K.In h) (G : h.Ns mainGlobals mg) {a : Addr} {oc kV dc pm cd ct : Value} {od an : Option Addr} {sl : Array (Option Value)} (a1 : PySem.W.nsIn K mainGlobals (Str.ofString "do_clash") = some (some (.ref a)))
    (l1 : K.lookup a = some ⟨oc, od, .func (PySem.W.fnOf (Str.ofString "do_clash") (Str.ofString "do_clash") (defArgs t_do_clash.st) (defBody t_do_clash.st) (defScope t_do_clash.st) .none kV dc pm an cd ct), sl⟩) (c1 : PySem.W.codeIn K cd (Str.ofString "do_clash") = true) (k1 : PySem.W.keepIn K (.ref a) = true) : At K mg "do_clash" t_do_clash a (PySem.W.fnOf (Str.ofString "do_clash") (Str.ofString "do_clash") (defArgs t_do_clash.st) (defBody t_do_clash.st) (defScope t_do_clash.st) .none kV dc pm an cd ct) :=
  at_mk KX G a1 l1 c1 k1 (fun _ _ _ _ _ _ us hl => match us, hl with | [_, _, _], _ => rfl) (fun _ _ _ _ _ _ n qs hm => nomatch (show (n, qs) ∈ ([] : List (Nat × List Nat)) from hm))
theorem at_stands_ahead {K : PySem.W.Frag} {mg : Str → Option Value} {h : Heap} (KX : K.In h) (G : h.Ns mainGlobals mg) {a : Addr} {oc kV dc pm cd ct : Value} {od an : Option Addr} {sl : Array (Option Value)} (a1 : PySem.W.nsIn K mainGlobals (Str.ofString "stands_ahead") = some (some (.ref a)))
    (l1 : K.lookup a = some ⟨oc, od, .func (PySem.W.fnOf (Str.ofString "stands_ahead") (Str.ofString "stands_ahead") (defArgs t_stands_ahead.st) (defBody t_stands_ahead.st) (defScope t_stands_ahead.st) .none kV dc pm an cd ct), sl⟩) (c1 : PySem.W.codeIn K cd (Str.ofString "stands_ahead") = true) (k1 : PySem.W.keepIn K (.ref a) = true) : At K mg "stands_ahead" t_stands_ahead a (PySem.W.fnOf (Str.ofString "stands_ahead") (Str.ofString "stands_ahead") (defArgs t_stands_ahead.st) (defBody t_stands_ahead.st) (defScope t_stands_ahead.st) .none kV dc pm an cd ct) :=
  at_mk KX G a1 l1 c1 k1 (fun _ _ _ _ _ _ us hl => match us, hl with | [_, _, _], _ => rfl) (fun _ _ _ _ _ _ n qs hm => by
    have hm : (n, qs) ∈ ([(0, [2, 1, 0])] : List (Nat × List Nat)) := hm
    rcases List.mem_cons.mp hm with e | hm
    · obtain ⟨rfl, rfl⟩ := Prod.mk.inj e
      exact kb_mk (by decide) fun us ws h1 h2 => match us, ws, h1, h2 with | [], [_, _, _], _, _ => rfl
    exact nomatch hm)
theorem at_all_numbers {K : PySem.W.Frag} {mg : Str → Option Value} {h : Heap} (KX : K.In h) (G : h.Ns mainGlobals mg) {a : Addr} {oc kV dc pm cd ct : Value} {od an : Option Addr} {sl : Array (Option Value)} (a1 : PySem.W.nsIn K mainGlobals (Str.ofString "all_numbers") = some (some (.ref a)))
    (l1 : K.lookup a = some ⟨oc, od, .func (PySem.W.fnOf (Str.ofString "all_numbers") (Str.ofString "all_numbers") (defArgs t_all_numbers.st) (defBody t_all_numbers.st) (defScope t_all_numbers.st) .none kV dc pm an cd ct), sl⟩) (c1 : PySem.W.codeIn K cd (Str.ofString "all_numbers") = true) (k1 : PySem.W.keepIn K (.ref a) = true) : At K mg "all_numbers" t_all_numbers a (PySem.W.fnOf (Str.ofString "all_numbers") (Str.ofString "all_numbers") (defArgs t_all_numbers.st) (defBody t_all_numbers.st) (defScope t_all_numbers.st) .none kV dc pm an cd ct) :=
  at_mk KX G a1 l1 c1 k1 (fun _ _ _ _ _ _ us hl => match us, hl with | [_], _ => rfl) (fun _ _ _ _ _ _ n qs hm => nomatch (show (n, qs) ∈ ([] : List (Nat × List Nat)) from hm))
theorem at_clashes_of {K : PySem.W.Frag} {mg : Str → Option Value} {h : Heap} (KX : K.In h) (G : h.Ns mainGlobals mg) {a : Addr} {oc kV dc pm cd ct : Value} {od an : Option Addr} {sl : Array (Option Value)} (a1 : PySem.W.nsIn K mainGlobals (Str.ofString "clashes_of") = some (some (.ref a)))
    (l1 : K.lookup a = some ⟨oc, od, .func (PySem.W.fnOf (Str.ofString "clashes_of") (Str.ofString "clashes_of") (defArgs t_clashes_of.st) (defBody t_clashes_of.st) (defScope t_clashes_of.st) .none kV dc pm an cd ct), sl⟩) (c1 : PySem.W.codeIn K cd (Str.ofString "clashes_of") = true) (k1 : PySem.W.keepIn K (.ref a) = true) : At K mg "clashes_of" t_clashes_of a (PySem.W.fnOf (Str.ofString "clashes_of") (Str.ofString "clashes_of") (defArgs t_clashes_of.st) (defBody t_clashes_of.st) (defScope t_clashes_of.st) .none kV dc pm an cd ct) :=
  at_mk KX G a1 l1 c1 k1 (fun _ _ _ _ _ _ us hl => match us, hl with | [_, _], _ => rfl) (fun _ _ _ _ _ _ n qs hm => nomatch (show (n, qs) ∈ ([] : List (Nat × List Nat)) from hm))
theorem at_wishes_behind {K : PySem.W.Frag} {mg : Str → Option Value} {h : Heap} (KX : K.In h) (G : h.Ns mainGlobals mg) {a : Addr} {oc kV dc pm cd ct : Value} {od an : Option Addr} {sl : Array (Option Value)} (a1 : PySem.W.nsIn K mainGlobals (Str.ofString "wishes_behind") = some (some (.ref a)))
    (l1 : K.lookup a = some ⟨oc, od, .func (PySem.W.fnOf (Str.ofString "wishes_behind") (Str.ofString "wishes_behind") (defArgs t_wishes_behind.st) (defBody t_wishes_behind.st) (defScope t_wishes_behind.st) .none kV dc pm an cd ct), sl⟩) (c1 : PySem.W.codeIn K cd (Str.ofString "wishes_behind") = true) (k1 : PySem.W.keepIn K (.ref a) = true) : At K mg "wishes_behind" t_wishes_behind a (PySem.W.fnOf (Str.ofString "wishes_behind") (Str.ofString "wishes_behind") (defArgs t_wishes_behind.st) (defBody t_wishes_behind.st) (defScope t_wishes_behind.st) .none kV dc pm an cd ct) :=
  at_mk KX G a1 l1 c1 k1 (fun _ _ _ _ _ _ us hl => match us, hl with | [_, _], _ => rfl) (fun _ _ _ _ _ _ n qs hm => by
    have hm : (n, qs) ∈ ([(0, [0, 1])] : List (Nat × List Nat)) := hm
    rcases List.mem_cons.mp hm with e | hm
    · obtain ⟨rfl, rfl⟩ := Prod.mk.inj e
      exact kb_mk (by decide) fun us ws h1 h2 => match us, ws, h1, h2 with | [], [_, _], _, _ => rfl
    exact nomatch hm)
theorem at_wishes_ahead {K : PySem.W.Frag} {mg : Str → Option Value} {h : Heap} (KX : K.In h) (G : h.Ns mainGlobals mg) {a : Addr} {oc kV dc pm cd ct : Value} {od an : Option Addr} {sl : Array (Option Value)} (a1 : PySem.W.nsIn K mainGlobals (Str.ofString "wishes_ahead") = some (some (.ref a)))
    (l1 : K.lookup a = some ⟨oc, od, .func (PySem.W.fnOf (Str.ofString "wishes_ahead") (Str.ofString "wishes_ahead") (defArgs t_wishes_ahead.st) (defBody t_wishes_ahead.st) (defScope t_wishes_ahead.st) .none kV dc pm an cd ct), sl⟩) (c1 : PySem.W.codeIn K cd (Str.ofString "wishes_ahead") = true) (k1 : PySem.W.keepIn K (.ref a) = true) : At K mg "wishes_ahead" t_wishes_ahead a (PySem.W.fnOf (Str.ofString "wishes_ahead") (Str.ofString "wishes_ahead") (defArgs t_wishes_ahead.st) (defBody t_wishes_ahead.st) (defScope t_wishes_ahead.st) .none kV dc pm an cd ct) :=
  at_mk KX G a1 l1 c1 k1 (fun _ _ _ _ _ _ us hl => match us, hl with | [_, _], _ => rfl) (fun _ _ _ _ _ _ n qs hm => nomatch (show (n, qs) ∈ ([] : List (Nat × List Nat)) from hm))
theorem at_rooms_of {K : PySem.W.Frag} {mg : Str → Option Value} {h : Heap} (KX : K.In h) (G : h.Ns mainGlobals mg) {a : Addr} {oc kV dc pm cd ct : Value} {od an : Option Addr} {sl : Array (Option Value)} (a1 : PySem.W.nsIn K mainGlobals (Str.ofString "rooms_of") = some (some (.ref a)))
    (l1 : K.lookup a = some ⟨oc, od, .func (PySem.W.fnOf (Str.ofString "rooms_of") (Str.ofString "rooms_of") (defArgs t_rooms_of.st) (defBody t_rooms_of.st) (defScope t_rooms_of.st) .none kV dc pm an cd ct), sl⟩) (c1 : PySem.W.codeIn K cd (Str.ofString "rooms_of") = true) (k1 : PySem.W.keepIn K (.ref a) = true) : At K mg "rooms_of" t_rooms_of a (PySem.W.fnOf (Str.ofString "rooms_of") (Str.ofString "rooms_of") (defArgs t_rooms_of.st) (defBody t_rooms_of.st) (defScope t_rooms_of.st) .none kV dc pm an cd ct) :=
  at_mk KX G a1 l1 c1 k1 (fun _ _ _ _ _ _ us hl => match us, hl with | [_], _ => rfl) (fun _ _ _ _ _ _ n qs hm => nomatch (show (n, qs) ∈ ([] : List (Nat × List Nat)) from hm))
theorem at_wishes_of {K : PySem.W.Frag} {mg : Str → Option Value} {h : Heap} (KX : K.In h) (G : h.Ns mainGlobals mg) {a : Addr} {oc kV dc pm cd ct : Value} {od an : Option Addr} {sl : Array (Option Value)} (a1 : PySem.W.nsIn K mainGlobals (Str.ofString "wishes_of") = some (some (.ref a)))
    (l1 : K.lookup a = some ⟨oc, od, .func (PySem.W.fnOf (Str.ofString "wishes_of") (Str.ofString "wishes_of") (defArgs t_wishes_of.st) (defBody t_wishes_of.st) (defScope t_wishes_of.st) .none kV dc pm an cd ct), sl⟩) (c1 : PySem.W.codeIn K cd (Str.ofString "wishes_of") = true) (k1 : PySem.W.keepIn K (.ref a) = true) : At K mg "wishes_of" t_wishes_of a (PySem.W.fnOf (Str.ofString "wishes_of") (Str.ofString "wishes_of") (defArgs t_wishes_of.st) (defBody t_wishes_of.st) (defScope t_wishes_of.st) .none kV dc pm an cd ct) :=
  at_mk KX G a1 l1 c1 k1 (fun _ _ _ _ _ _ us hl => match us, hl with | [_, _], _ => rfl) (fun _ _ _ _ _ _ n qs hm => nomatch (show (n, qs) ∈ ([] : List (Nat × List Nat)) from hm))
theorem at_total_worth {K : PySem.W.Frag} {mg : Str → Option Value} {h : Heap} (KX : K.In h) (G : h.Ns mainGlobals mg) {a : Addr} {oc kV dc pm cd ct : Value} {od an : Option Addr} {sl : Array (Option Value)} (a1 : PySem.W.nsIn K mainGlobals (Str.ofString "total_worth") = some (some (.ref a)))
    (l1 : K.lookup a = some ⟨oc, od, .func (PySem.W.fnOf (Str.ofString "total_worth") (Str.ofString "total_worth") (defArgs t_total_worth.st) (defBody t_total_worth.st) (defScope t_total_worth.st) .none kV dc pm an cd ct), sl⟩) (c1 : PySem.W.codeIn K cd (Str.ofString "total_worth") = true) (k1 : PySem.W.keepIn K (.ref a) = true) : At K mg "total_worth" t_total_worth a (PySem.W.fnOf (Str.ofString "total_worth") (Str.ofString "total_worth") (defArgs t_total_worth.st) (defBody t_total_worth.st) (defScope t_total_worth.st) .none kV dc pm an cd ct) :=
  at_mk KX G a1 l1 c1 k1 (fun _ _ _ _ _ _ us hl => match us, hl with | [_], _ => rfl) (fun _ _ _ _ _ _ n qs hm => nomatch (show (n, qs) ∈ ([] : List (Nat × List Nat)) from hm))
theorem at_span_of {K : PySem.W.Frag} {mg : Str → Option Value} {h : Heap} (KX : K.In h) (G : h.Ns mainGlobals mg) {a : Addr} {oc kV dc pm cd ct : Value} {od an : Option Addr} {sl : Array (Option Value)} (a1 : PySem.W.nsIn K mainGlobals (Str.ofString "span_of") = some (some (.ref a)))
    (l1 : K.lookup a = some ⟨oc, od, .func (PySem.W.fnOf (Str.ofString "span_of") (Str.ofString "span_of") (defArgs t_span_of.st) (defBody t_span_of.st) (defScope t_span_of.st) .none kV dc pm an cd ct), sl⟩) (c1 : PySem.W.codeIn K cd (Str.ofString "span_of") = true) (k1 : PySem.W.keepIn K (.ref a) = true) : At K mg "span_of" t_span_of a (PySem.W.fnOf (Str.ofString "span_of") (Str.ofString "span_of") (defArgs t_span_of.st) (defBody t_span_of.st) (defScope t_span_of.st) .none kV dc pm an cd ct) :=
  at_mk KX G a1 l1 c1 k1 (fun _ _ _ _ _ _ us hl => match us, hl with | [_, _], _ => rfl) (fun _ _ _ _ _ _ n qs hm => by
    have hm : (n, qs) ∈ ([(0, [1, 0])] : List (Nat × List Nat)) := hm
    rcases List.mem_cons.mp hm with e | hm
    · obtain ⟨rfl, rfl⟩ := Prod.mk.inj e
      exact kb_mk (by decide) fun us ws h1 h2 => match us, ws, h1, h2 with | [], [_, _], _, _ => rfl
    exact nomatch hm)
theorem at_busy_time {K : PySem.W.Frag} {mg : Str → Option Value} {h : Heap} (KX : K.In h) (G : h.Ns mainGlobals mg) {a : Addr} {oc kV dc pm cd ct : Value} {od an : Option Addr} {sl : Array (Option Value)} (a1 : PySem.W.nsIn K mainGlobals (Str.ofString "busy_time") = some (some (.ref a)))
    (l1 : K.lookup a = some ⟨oc, od, .func (PySem.W.fnOf (Str.ofString "busy_time") (Str.ofString "busy_time") (defArgs t_busy_time.st) (defBody t_busy_time.st) (defScope t_busy_time.st) .none kV dc pm an cd ct), sl⟩) (c1 : PySem.W.codeIn K cd (Str.ofString "busy_time") = true) (k1 : PySem.W.keepIn K (.ref a) = true) : At K mg "busy_time" t_busy_time a (PySem.W.fnOf (Str.ofString "busy_time") (Str.ofString "busy_time") (defArgs t_busy_time.st) (defBody t_busy_time.st) (defScope t_busy_time.st) .none kV dc pm an cd ct) :=
  at_mk KX G a1 l1 c1 k1 (fun _ _ _ _ _ _ us hl => match us, hl with | [_, _], _ => rfl) (fun _ _ _ _ _ _ n qs hm => by
    have hm : (n, qs) ∈ ([(0, [1, 0])] : List (Nat × List Nat)) := hm
    rcases List.mem_cons.mp hm with e | hm
    · obtain ⟨rfl, rfl⟩ := Prod.mk.inj e
      exact kb_mk (by decide) fun us ws h1 h2 => match us, ws, h1, h2 with | [], [_, _], _, _ => rfl
    exact nomatch hm)
theorem at__law_meadow {K : PySem.W.Frag} {mg : Str → Option Value} {h : Heap} (KX : K.In h) (G : h.Ns mainGlobals mg) {a : Addr} {oc kV dc pm cd ct : Value} {od an : Option Addr} {sl : Array (Option Value)} (a1 : PySem.W.nsIn K mainGlobals (Str.ofString "_law_meadow") = some (some (.ref a)))
    (l1 : K.lookup a = some ⟨oc, od, .func (PySem.W.fnOf (Str.ofString "_law_meadow") (Str.ofString "_law_meadow") (defArgs t__law_meadow.st) (defBody t__law_meadow.st) (defScope t__law_meadow.st) .none kV dc pm an cd ct), sl⟩) (c1 : PySem.W.codeIn K cd (Str.ofString "_law_meadow") = true) (k1 : PySem.W.keepIn K (.ref a) = true) : At K mg "_law_meadow" t__law_meadow a (PySem.W.fnOf (Str.ofString "_law_meadow") (Str.ofString "_law_meadow") (defArgs t__law_meadow.st) (defBody t__law_meadow.st) (defScope t__law_meadow.st) .none kV dc pm an cd ct) :=
  at_mk KX G a1 l1 c1 k1 (fun _ _ _ _ _ _ us hl => match us, hl with | [_], _ => rfl) (fun _ _ _ _ _ _ n qs hm => nomatch (show (n, qs) ∈ ([] : List (Nat × List Nat)) from hm))
theorem at__law_stroll {K : PySem.W.Frag} {mg : Str → Option Value} {h : Heap} (KX : K.In h) (G : h.Ns mainGlobals mg) {a : Addr} {oc kV dc pm cd ct : Value} {od an : Option Addr} {sl : Array (Option Value)} (a1 : PySem.W.nsIn K mainGlobals (Str.ofString "_law_stroll") = some (some (.ref a)))
    (l1 : K.lookup a = some ⟨oc, od, .func (PySem.W.fnOf (Str.ofString "_law_stroll") (Str.ofString "_law_stroll") (defArgs t__law_stroll.st) (defBody t__law_stroll.st) (defScope t__law_stroll.st) .none kV dc pm an cd ct), sl⟩) (c1 : PySem.W.codeIn K cd (Str.ofString "_law_stroll") = true) (k1 : PySem.W.keepIn K (.ref a) = true) : At K mg "_law_stroll" t__law_stroll a (PySem.W.fnOf (Str.ofString "_law_stroll") (Str.ofString "_law_stroll") (defArgs t__law_stroll.st) (defBody t__law_stroll.st) (defScope t__law_stroll.st) .none kV dc pm an cd ct) :=
  at_mk KX G a1 l1 c1 k1 (fun _ _ _ _ _ _ us hl => match us, hl with | [_, _], _ => rfl) (fun _ _ _ _ _ _ n qs hm => nomatch (show (n, qs) ∈ ([] : List (Nat × List Nat)) from hm))
theorem at__law_of {K : PySem.W.Frag} {mg : Str → Option Value} {h : Heap} (KX : K.In h) (G : h.Ns mainGlobals mg) {a : Addr} {oc kV dc pm cd ct : Value} {od an : Option Addr} {sl : Array (Option Value)} (a1 : PySem.W.nsIn K mainGlobals (Str.ofString "_law_of") = some (some (.ref a)))
    (l1 : K.lookup a = some ⟨oc, od, .func (PySem.W.fnOf (Str.ofString "_law_of") (Str.ofString "_law_of") (defArgs t__law_of.st) (defBody t__law_of.st) (defScope t__law_of.st) .none kV dc pm an cd ct), sl⟩) (c1 : PySem.W.codeIn K cd (Str.ofString "_law_of") = true) (k1 : PySem.W.keepIn K (.ref a) = true) : At K mg "_law_of" t__law_of a (PySem.W.fnOf (Str.ofString "_law_of") (Str.ofString "_law_of") (defArgs t__law_of.st) (defBody t__law_of.st) (defScope t__law_of.st) .none kV dc pm an cd ct) :=
  at_mk KX G a1 l1 c1 k1 (fun _ _ _ _ _ _ us hl => match us, hl with | [_, _], _ => rfl) (fun _ _ _ _ _ _ n qs hm => nomatch (show (n, qs) ∈ ([] : List (Nat × List Nat)) from hm))
theorem at__law_same {K : PySem.W.Frag} {mg : Str → Option Value} {h : Heap} (KX : K.In h) (G : h.Ns mainGlobals mg) {a : Addr} {oc kV dc pm cd ct : Value} {od an : Option Addr} {sl : Array (Option Value)} (a1 : PySem.W.nsIn K mainGlobals (Str.ofString "_law_same") = some (some (.ref a)))
    (l1 : K.lookup a = some ⟨oc, od, .func (PySem.W.fnOf (Str.ofString "_law_same") (Str.ofString "_law_same") (defArgs t__law_same.st) (defBody t__law_same.st) (defScope t__law_same.st) .none kV dc pm an cd ct), sl⟩) (c1 : PySem.W.codeIn K cd (Str.ofString "_law_same") = true) (k1 : PySem.W.keepIn K (.ref a) = true) : At K mg "_law_same" t__law_same a (PySem.W.fnOf (Str.ofString "_law_same") (Str.ofString "_law_same") (defArgs t__law_same.st) (defBody t__law_same.st) (defScope t__law_same.st) .none kV dc pm an cd ct) :=
  at_mk KX G a1 l1 c1 k1 (fun _ _ _ _ _ _ us hl => match us, hl with | [_, _], _ => rfl) (fun _ _ _ _ _ _ n qs hm => nomatch (show (n, qs) ∈ ([] : List (Nat × List Nat)) from hm))
theorem at__law_book {K : PySem.W.Frag} {mg : Str → Option Value} {h : Heap} (KX : K.In h) (G : h.Ns mainGlobals mg) {a : Addr} {oc kV dc pm cd ct : Value} {od an : Option Addr} {sl : Array (Option Value)} (a1 : PySem.W.nsIn K mainGlobals (Str.ofString "_law_book") = some (some (.ref a)))
    (l1 : K.lookup a = some ⟨oc, od, .func (PySem.W.fnOf (Str.ofString "_law_book") (Str.ofString "_law_book") (defArgs t__law_book.st) (defBody t__law_book.st) (defScope t__law_book.st) .none kV dc pm an cd ct), sl⟩) (c1 : PySem.W.codeIn K cd (Str.ofString "_law_book") = true) (k1 : PySem.W.keepIn K (.ref a) = true) : At K mg "_law_book" t__law_book a (PySem.W.fnOf (Str.ofString "_law_book") (Str.ofString "_law_book") (defArgs t__law_book.st) (defBody t__law_book.st) (defScope t__law_book.st) .none kV dc pm an cd ct) :=
  at_mk KX G a1 l1 c1 k1 (fun _ _ _ _ _ _ us hl => match us, hl with | [_, _, _], _ => rfl) (fun _ _ _ _ _ _ n qs hm => nomatch (show (n, qs) ∈ ([] : List (Nat × List Nat)) from hm))
theorem at__law_ahead {K : PySem.W.Frag} {mg : Str → Option Value} {h : Heap} (KX : K.In h) (G : h.Ns mainGlobals mg) {a : Addr} {oc kV dc pm cd ct : Value} {od an : Option Addr} {sl : Array (Option Value)} (a1 : PySem.W.nsIn K mainGlobals (Str.ofString "_law_ahead") = some (some (.ref a)))
    (l1 : K.lookup a = some ⟨oc, od, .func (PySem.W.fnOf (Str.ofString "_law_ahead") (Str.ofString "_law_ahead") (defArgs t__law_ahead.st) (defBody t__law_ahead.st) (defScope t__law_ahead.st) .none kV dc pm an cd ct), sl⟩) (c1 : PySem.W.codeIn K cd (Str.ofString "_law_ahead") = true) (k1 : PySem.W.keepIn K (.ref a) = true) : At K mg "_law_ahead" t__law_ahead a (PySem.W.fnOf (Str.ofString "_law_ahead") (Str.ofString "_law_ahead") (defArgs t__law_ahead.st) (defBody t__law_ahead.st) (defScope t__law_ahead.st) .none kV dc pm an cd ct) :=
  at_mk KX G a1 l1 c1 k1 (fun _ _ _ _ _ _ us hl => match us, hl with | [_, _, _], _ => rfl) (fun _ _ _ _ _ _ n qs hm => nomatch (show (n, qs) ∈ ([] : List (Nat × List Nat)) from hm))
theorem at__law_clash {K : PySem.W.Frag} {mg : Str → Option Value} {h : Heap} (KX : K.In h) (G : h.Ns mainGlobals mg) {a : Addr} {oc kV dc pm cd ct : Value} {od an : Option Addr} {sl : Array (Option Value)} (a1 : PySem.W.nsIn K mainGlobals (Str.ofString "_law_clash") = some (some (.ref a)))
    (l1 : K.lookup a = some ⟨oc, od, .func (PySem.W.fnOf (Str.ofString "_law_clash") (Str.ofString "_law_clash") (defArgs t__law_clash.st) (defBody t__law_clash.st) (defScope t__law_clash.st) .none kV dc pm an cd ct), sl⟩) (c1 : PySem.W.codeIn K cd (Str.ofString "_law_clash") = true) (k1 : PySem.W.keepIn K (.ref a) = true) : At K mg "_law_clash" t__law_clash a (PySem.W.fnOf (Str.ofString "_law_clash") (Str.ofString "_law_clash") (defArgs t__law_clash.st) (defBody t__law_clash.st) (defScope t__law_clash.st) .none kV dc pm an cd ct) :=
  at_mk KX G a1 l1 c1 k1 (fun _ _ _ _ _ _ us hl => match us, hl with | [_, _, _], _ => rfl) (fun _ _ _ _ _ _ n qs hm => nomatch (show (n, qs) ∈ ([] : List (Nat × List Nat)) from hm))
theorem at__law_pairs {K : PySem.W.Frag} {mg : Str → Option Value} {h : Heap} (KX : K.In h) (G : h.Ns mainGlobals mg) {a : Addr} {oc kV dc pm cd ct : Value} {od an : Option Addr} {sl : Array (Option Value)} (a1 : PySem.W.nsIn K mainGlobals (Str.ofString "_law_pairs") = some (some (.ref a)))
    (l1 : K.lookup a = some ⟨oc, od, .func (PySem.W.fnOf (Str.ofString "_law_pairs") (Str.ofString "_law_pairs") (defArgs t__law_pairs.st) (defBody t__law_pairs.st) (defScope t__law_pairs.st) .none kV dc pm an cd ct), sl⟩) (c1 : PySem.W.codeIn K cd (Str.ofString "_law_pairs") = true) (k1 : PySem.W.keepIn K (.ref a) = true) : At K mg "_law_pairs" t__law_pairs a (PySem.W.fnOf (Str.ofString "_law_pairs") (Str.ofString "_law_pairs") (defArgs t__law_pairs.st) (defBody t__law_pairs.st) (defScope t__law_pairs.st) .none kV dc pm an cd ct) :=
  at_mk KX G a1 l1 c1 k1 (fun _ _ _ _ _ _ us hl => match us, hl with | [_, _], _ => rfl) (fun _ _ _ _ _ _ n qs hm => nomatch (show (n, qs) ∈ ([] : List (Nat × List Nat)) from hm))
theorem at__law_facts {K : PySem.W.Frag} {mg : Str → Option Value} {h : Heap} (KX : K.In h) (G : h.Ns mainGlobals mg) {a : Addr} {oc kV dc pm cd ct : Value} {od an : Option Addr} {sl : Array (Option Value)} (a1 : PySem.W.nsIn K mainGlobals (Str.ofString "_law_facts") = some (some (.ref a)))
    (l1 : K.lookup a = some ⟨oc, od, .func (PySem.W.fnOf (Str.ofString "_law_facts") (Str.ofString "_law_facts") (defArgs t__law_facts.st) (defBody t__law_facts.st) (defScope t__law_facts.st) .none kV dc pm an cd ct), sl⟩) (c1 : PySem.W.codeIn K cd (Str.ofString "_law_facts") = true) (k1 : PySem.W.keepIn K (.ref a) = true) : At K mg "_law_facts" t__law_facts a (PySem.W.fnOf (Str.ofString "_law_facts") (Str.ofString "_law_facts") (defArgs t__law_facts.st) (defBody t__law_facts.st) (defScope t__law_facts.st) .none kV dc pm an cd ct) :=
  at_mk KX G a1 l1 c1 k1 (fun _ _ _ _ _ _ us hl => match us, hl with | [_, _], _ => rfl) (fun _ _ _ _ _ _ n qs hm => nomatch (show (n, qs) ∈ ([] : List (Nat × List Nat)) from hm))
theorem at__law_hand {K : PySem.W.Frag} {mg : Str → Option Value} {h : Heap} (KX : K.In h) (G : h.Ns mainGlobals mg) {a : Addr} {oc kV dc pm cd ct : Value} {od an : Option Addr} {sl : Array (Option Value)} (a1 : PySem.W.nsIn K mainGlobals (Str.ofString "_law_hand") = some (some (.ref a)))
    (l1 : K.lookup a = some ⟨oc, od, .func (PySem.W.fnOf (Str.ofString "_law_hand") (Str.ofString "_law_hand") (defArgs t__law_hand.st) (defBody t__law_hand.st) (defScope t__law_hand.st) .none kV dc pm an cd ct), sl⟩) (c1 : PySem.W.codeIn K cd (Str.ofString "_law_hand") = true) (k1 : PySem.W.keepIn K (.ref a) = true) : At K mg "_law_hand" t__law_hand a (PySem.W.fnOf (Str.ofString "_law_hand") (Str.ofString "_law_hand") (defArgs t__law_hand.st) (defBody t__law_hand.st) (defScope t__law_hand.st) .none kV dc pm an cd ct) :=
  at_mk KX G a1 l1 c1 k1 (fun _ _ _ _ _ _ us hl => match us, hl with | [], _ => rfl) (fun _ _ _ _ _ _ n qs hm => nomatch (show (n, qs) ∈ ([] : List (Nat × List Nat)) from hm))
theorem at_law {K : PySem.W.Frag} {mg : Str → Option Value} {h : Heap} (KX : K.In h) (G : h.Ns mainGlobals mg) {a : Addr} {oc kV dc pm cd ct : Value} {od an : Option Addr} {sl : Array (Option Value)} (a1 : PySem.W.nsIn K mainGlobals (Str.ofString "law") = some (some (.ref a)))
    (l1 : K.lookup a = some ⟨oc, od, .func (PySem.W.fnOf (Str.ofString "law") (Str.ofString "law") (defArgs t_law.st) (defBody t_law.st) (defScope t_law.st) .none kV dc pm an cd ct), sl⟩) (c1 : PySem.W.codeIn K cd (Str.ofString "law") = true) (k1 : PySem.W.keepIn K (.ref a) = true) : At K mg "law" t_law a (PySem.W.fnOf (Str.ofString "law") (Str.ofString "law") (defArgs t_law.st) (defBody t_law.st) (defScope t_law.st) .none kV dc pm an cd ct) :=
  at_mk KX G a1 l1 c1 k1 (fun _ _ _ _ _ _ us hl => match us, hl with | [_], _ => rfl) (fun _ _ _ _ _ _ n qs hm => nomatch (show (n, qs) ∈ ([] : List (Nat × List Nat)) from hm))
theorem chk_all : ∀ f t, Ψ f = some t → chkTab (tabF Ψ) t = true := by
  intro f t h
  have hm := lookup_mem h
  unfold tabs at hm
  rcases List.mem_cons.mp hm with e | hm
  · cases e; exact c_is_ahead
  rcases List.mem_cons.mp hm with e | hm
  · cases e; exact c_are_clashing
  rcases List.mem_cons.mp hm with e | hm
  · cases e; exact c_do_clash
  rcases List.mem_cons.mp hm with e | hm
  · cases e; exact c_stands_ahead
  rcases List.mem_cons.mp hm with e | hm
  · cases e; exact c_all_numbers
  rcases List.mem_cons.mp hm with e | hm
  · cases e; exact c_clashes_of
  rcases List.mem_cons.mp hm with e | hm
  · cases e; exact c_wishes_behind
  rcases List.mem_cons.mp hm with e | hm
  · cases e; exact c_wishes_ahead
  rcases List.mem_cons.mp hm with e | hm
  · cases e; exact c_rooms_of
  rcases List.mem_cons.mp hm with e | hm
  · cases e; exact c_wishes_of
  rcases List.mem_cons.mp hm with e | hm
  · cases e; exact c_total_worth
  rcases List.mem_cons.mp hm with e | hm
  · cases e; exact c_span_of
  rcases List.mem_cons.mp hm with e | hm
  · cases e; exact c_busy_time
  rcases List.mem_cons.mp hm with e | hm
  · cases e; exact c__law_meadow
  rcases List.mem_cons.mp hm with e | hm
  · cases e; exact c__law_stroll
  rcases List.mem_cons.mp hm with e | hm
  · cases e; exact c__law_of
  rcases List.mem_cons.mp hm with e | hm
  · cases e; exact c__law_same
  rcases List.mem_cons.mp hm with e | hm
  · cases e; exact c__law_book
  rcases List.mem_cons.mp hm with e | hm
  · cases e; exact c__law_ahead
  rcases List.mem_cons.mp hm with e | hm
  · cases e; exact c__law_clash
  rcases List.mem_cons.mp hm with e | hm
  · cases e; exact c__law_pairs
  rcases List.mem_cons.mp hm with e | hm
  · cases e; exact c__law_facts
  rcases List.mem_cons.mp hm with e | hm
  · cases e; exact c__law_hand
  rcases List.mem_cons.mp hm with e | hm
  · cases e; exact c_law
  exact nomatch hm
theorem all_mk {P : Program} {w : World} {K : PySem.W.Frag} {mg : Str → Option Value} {h : Heap} {fa : Addr} (KX : K.In h) (G : h.Ns mainGlobals mg) (hfa : mg (Str.ofString "law") = some (.ref fa))
    {f0 : Addr} {oc0 kV0 dc0 pm0 cd0 ct0 : Value} {od0 an0 : Option Addr} {sl0 : Array (Option Value)} (a0 : PySem.W.nsIn K mainGlobals (Str.ofString "is_ahead") = some (some (.ref f0))) (l0 : K.lookup f0 = some ⟨oc0, od0, .func (PySem.W.fnOf (Str.ofString "is_ahead") (Str.ofString "is_ahead") (defArgs t_is_ahead.st) (defBody t_is_ahead.st) (defScope t_is_ahead.st) .none kV0 dc0 pm0 an0 cd0 ct0), sl0⟩) (c0 : PySem.W.codeIn K cd0 (Str.ofString "is_ahead") = true) (k0 : PySem.W.keepIn K (.ref f0) = true)
    {f1 : Addr} {oc1 kV1 dc1 pm1 cd1 ct1 : Value} {od1 an1 : Option Addr} {sl1 : Array (Option Value)} (a1 : PySem.W.nsIn K mainGlobals (Str.ofString "are_clashing") = some (some (.ref f1))) (l1 : K.lookup f1 = some ⟨oc1, od1, .func (PySem.W.fnOf (Str.ofString "are_clashing") (Str.ofString "are_clashing") (defArgs t_are_clashing.st) (defBody t_are_clashing.st) (defScope t_are_clashing.st) .none kV1 dc1 pm1 an1 cd1 ct1), sl1⟩) (c1 : PySem.W.codeIn K cd1 (Str.ofString "are_clashing") = true) (k1 : PySem.W.keepIn K (.ref f1) = true)
    {f2 : Addr} {oc2 kV2 dc2 pm2 cd2 ct2 : Value} {od2 an2 : Option Addr} {sl2 : Array (Option Value)} (a2 : PySem.W.nsIn K mainGlobals (Str.ofString "do_clash") = some (some (.ref f2))) (l2 : K.lookup f2 = some ⟨oc2, od2, .func (PySem.W.fnOf (Str.ofString "do_clash") (Str.ofString "do_clash") (defArgs t_do_clash.st) (defBody t_do_clash.st) (defScope t_do_clash.st) .none kV2 dc2 pm2 an2 cd2 ct2), sl2⟩) (c2 : PySem.W.codeIn K cd2 (Str.ofString "do_clash") = true) (k2 : PySem.W.keepIn K (.ref f2) = true)
    {f3 : Addr} {oc3 kV3 dc3 pm3 cd3 ct3 : Value} {od3 an3 : Option Addr} {sl3 : Array (Option Value)} (a3 : PySem.W.nsIn K mainGlobals (Str.ofString "stands_ahead") = some (some (.ref f3))) (l3 : K.lookup f3 = some ⟨oc3, od3, .func (PySem.W.fnOf (Str.ofString "stands_ahead") (Str.ofString "stands_ahead") (defArgs t_stands_ahead.st) (defBody t_stands_ahead.st) (defScope t_stands_ahead.st) .none kV3 dc3 pm3 an3 cd3 ct3), sl3⟩) (c3 : PySem.W.codeIn K cd3 (Str.ofString "stands_ahead") = true) (k3 : PySem.W.keepIn K (.ref f3) = true)
    {f4 : Addr} {oc4 kV4 dc4 pm4 cd4 ct4 : Value} {od4 an4 : Option Addr} {sl4 : Array (Option Value)} (a4 : PySem.W.nsIn K mainGlobals (Str.ofString "all_numbers") = some (some (.ref f4))) (l4 : K.lookup f4 = some ⟨oc4, od4, .func (PySem.W.fnOf (Str.ofString "all_numbers") (Str.ofString "all_numbers") (defArgs t_all_numbers.st) (defBody t_all_numbers.st) (defScope t_all_numbers.st) .none kV4 dc4 pm4 an4 cd4 ct4), sl4⟩) (c4 : PySem.W.codeIn K cd4 (Str.ofString "all_numbers") = true) (k4 : PySem.W.keepIn K (.ref f4) = true)
    {f5 : Addr} {oc5 kV5 dc5 pm5 cd5 ct5 : Value} {od5 an5 : Option Addr} {sl5 : Array (Option Value)} (a5 : PySem.W.nsIn K mainGlobals (Str.ofString "clashes_of") = some (some (.ref f5))) (l5 : K.lookup f5 = some ⟨oc5, od5, .func (PySem.W.fnOf (Str.ofString "clashes_of") (Str.ofString "clashes_of") (defArgs t_clashes_of.st) (defBody t_clashes_of.st) (defScope t_clashes_of.st) .none kV5 dc5 pm5 an5 cd5 ct5), sl5⟩) (c5 : PySem.W.codeIn K cd5 (Str.ofString "clashes_of") = true) (k5 : PySem.W.keepIn K (.ref f5) = true)
    {f6 : Addr} {oc6 kV6 dc6 pm6 cd6 ct6 : Value} {od6 an6 : Option Addr} {sl6 : Array (Option Value)} (a6 : PySem.W.nsIn K mainGlobals (Str.ofString "wishes_behind") = some (some (.ref f6))) (l6 : K.lookup f6 = some ⟨oc6, od6, .func (PySem.W.fnOf (Str.ofString "wishes_behind") (Str.ofString "wishes_behind") (defArgs t_wishes_behind.st) (defBody t_wishes_behind.st) (defScope t_wishes_behind.st) .none kV6 dc6 pm6 an6 cd6 ct6), sl6⟩) (c6 : PySem.W.codeIn K cd6 (Str.ofString "wishes_behind") = true) (k6 : PySem.W.keepIn K (.ref f6) = true)
    {f7 : Addr} {oc7 kV7 dc7 pm7 cd7 ct7 : Value} {od7 an7 : Option Addr} {sl7 : Array (Option Value)} (a7 : PySem.W.nsIn K mainGlobals (Str.ofString "wishes_ahead") = some (some (.ref f7))) (l7 : K.lookup f7 = some ⟨oc7, od7, .func (PySem.W.fnOf (Str.ofString "wishes_ahead") (Str.ofString "wishes_ahead") (defArgs t_wishes_ahead.st) (defBody t_wishes_ahead.st) (defScope t_wishes_ahead.st) .none kV7 dc7 pm7 an7 cd7 ct7), sl7⟩) (c7 : PySem.W.codeIn K cd7 (Str.ofString "wishes_ahead") = true) (k7 : PySem.W.keepIn K (.ref f7) = true)
    {f8 : Addr} {oc8 kV8 dc8 pm8 cd8 ct8 : Value} {od8 an8 : Option Addr} {sl8 : Array (Option Value)} (a8 : PySem.W.nsIn K mainGlobals (Str.ofString "rooms_of") = some (some (.ref f8))) (l8 : K.lookup f8 = some ⟨oc8, od8, .func (PySem.W.fnOf (Str.ofString "rooms_of") (Str.ofString "rooms_of") (defArgs t_rooms_of.st) (defBody t_rooms_of.st) (defScope t_rooms_of.st) .none kV8 dc8 pm8 an8 cd8 ct8), sl8⟩) (c8 : PySem.W.codeIn K cd8 (Str.ofString "rooms_of") = true) (k8 : PySem.W.keepIn K (.ref f8) = true)
    {f9 : Addr} {oc9 kV9 dc9 pm9 cd9 ct9 : Value} {od9 an9 : Option Addr} {sl9 : Array (Option Value)} (a9 : PySem.W.nsIn K mainGlobals (Str.ofString "wishes_of") = some (some (.ref f9))) (l9 : K.lookup f9 = some ⟨oc9, od9, .func (PySem.W.fnOf (Str.ofString "wishes_of") (Str.ofString "wishes_of") (defArgs t_wishes_of.st) (defBody t_wishes_of.st) (defScope t_wishes_of.st) .none kV9 dc9 pm9 an9 cd9 ct9), sl9⟩) (c9 : PySem.W.codeIn K cd9 (Str.ofString "wishes_of") = true) (k9 : PySem.W.keepIn K (.ref f9) = true)
    {f10 : Addr} {oc10 kV10 dc10 pm10 cd10 ct10 : Value} {od10 an10 : Option Addr} {sl10 : Array (Option Value)} (a10 : PySem.W.nsIn K mainGlobals (Str.ofString "total_worth") = some (some (.ref f10))) (l10 : K.lookup f10 = some ⟨oc10, od10, .func (PySem.W.fnOf (Str.ofString "total_worth") (Str.ofString "total_worth") (defArgs t_total_worth.st) (defBody t_total_worth.st) (defScope t_total_worth.st) .none kV10 dc10 pm10 an10 cd10 ct10), sl10⟩) (c10 : PySem.W.codeIn K cd10 (Str.ofString "total_worth") = true) (k10 : PySem.W.keepIn K (.ref f10) = true)
    {f11 : Addr} {oc11 kV11 dc11 pm11 cd11 ct11 : Value} {od11 an11 : Option Addr} {sl11 : Array (Option Value)} (a11 : PySem.W.nsIn K mainGlobals (Str.ofString "span_of") = some (some (.ref f11))) (l11 : K.lookup f11 = some ⟨oc11, od11, .func (PySem.W.fnOf (Str.ofString "span_of") (Str.ofString "span_of") (defArgs t_span_of.st) (defBody t_span_of.st) (defScope t_span_of.st) .none kV11 dc11 pm11 an11 cd11 ct11), sl11⟩) (c11 : PySem.W.codeIn K cd11 (Str.ofString "span_of") = true) (k11 : PySem.W.keepIn K (.ref f11) = true)
    {f12 : Addr} {oc12 kV12 dc12 pm12 cd12 ct12 : Value} {od12 an12 : Option Addr} {sl12 : Array (Option Value)} (a12 : PySem.W.nsIn K mainGlobals (Str.ofString "busy_time") = some (some (.ref f12))) (l12 : K.lookup f12 = some ⟨oc12, od12, .func (PySem.W.fnOf (Str.ofString "busy_time") (Str.ofString "busy_time") (defArgs t_busy_time.st) (defBody t_busy_time.st) (defScope t_busy_time.st) .none kV12 dc12 pm12 an12 cd12 ct12), sl12⟩) (c12 : PySem.W.codeIn K cd12 (Str.ofString "busy_time") = true) (k12 : PySem.W.keepIn K (.ref f12) = true)
    {f13 : Addr} {oc13 kV13 dc13 pm13 cd13 ct13 : Value} {od13 an13 : Option Addr} {sl13 : Array (Option Value)} (a13 : PySem.W.nsIn K mainGlobals (Str.ofString "_law_meadow") = some (some (.ref f13))) (l13 : K.lookup f13 = some ⟨oc13, od13, .func (PySem.W.fnOf (Str.ofString "_law_meadow") (Str.ofString "_law_meadow") (defArgs t__law_meadow.st) (defBody t__law_meadow.st) (defScope t__law_meadow.st) .none kV13 dc13 pm13 an13 cd13 ct13), sl13⟩) (c13 : PySem.W.codeIn K cd13 (Str.ofString "_law_meadow") = true) (k13 : PySem.W.keepIn K (.ref f13) = true)
    {f14 : Addr} {oc14 kV14 dc14 pm14 cd14 ct14 : Value} {od14 an14 : Option Addr} {sl14 : Array (Option Value)} (a14 : PySem.W.nsIn K mainGlobals (Str.ofString "_law_stroll") = some (some (.ref f14))) (l14 : K.lookup f14 = some ⟨oc14, od14, .func (PySem.W.fnOf (Str.ofString "_law_stroll") (Str.ofString "_law_stroll") (defArgs t__law_stroll.st) (defBody t__law_stroll.st) (defScope t__law_stroll.st) .none kV14 dc14 pm14 an14 cd14 ct14), sl14⟩) (c14 : PySem.W.codeIn K cd14 (Str.ofString "_law_stroll") = true) (k14 : PySem.W.keepIn K (.ref f14) = true)
    {f15 : Addr} {oc15 kV15 dc15 pm15 cd15 ct15 : Value} {od15 an15 : Option Addr} {sl15 : Array (Option Value)} (a15 : PySem.W.nsIn K mainGlobals (Str.ofString "_law_of") = some (some (.ref f15))) (l15 : K.lookup f15 = some ⟨oc15, od15, .func (PySem.W.fnOf (Str.ofString "_law_of") (Str.ofString "_law_of") (defArgs t__law_of.st) (defBody t__law_of.st) (defScope t__law_of.st) .none kV15 dc15 pm15 an15 cd15 ct15), sl15⟩) (c15 : PySem.W.codeIn K cd15 (Str.ofString "_law_of") = true) (k15 : PySem.W.keepIn K (.ref f15) = true)
    {f16 : Addr} {oc16 kV16 dc16 pm16 cd16 ct16 : Value} {od16 an16 : Option Addr} {sl16 : Array (Option Value)} (a16 : PySem.W.nsIn K mainGlobals (Str.ofString "_law_same") = some (some (.ref f16))) (l16 : K.lookup f16 = some ⟨oc16, od16, .func (PySem.W.fnOf (Str.ofString "_law_same") (Str.ofString "_law_same") (defArgs t__law_same.st) (defBody t__law_same.st) (defScope t__law_same.st) .none kV16 dc16 pm16 an16 cd16 ct16), sl16⟩) (c16 : PySem.W.codeIn K cd16 (Str.ofString "_law_same") = true) (k16 : PySem.W.keepIn K (.ref f16) = true)
    {f17 : Addr} {oc17 kV17 dc17 pm17 cd17 ct17 : Value} {od17 an17 : Option Addr} {sl17 : Array (Option Value)} (a17 : PySem.W.nsIn K mainGlobals (Str.ofString "_law_book") = some (some (.ref f17))) (l17 : K.lookup f17 = some ⟨oc17, od17, .func (PySem.W.fnOf (Str.ofString "_law_book") (Str.ofString "_law_book") (defArgs t__law_book.st) (defBody t__law_book.st) (defScope t__law_book.st) .none kV17 dc17 pm17 an17 cd17 ct17), sl17⟩) (c17 : PySem.W.codeIn K cd17 (Str.ofString "_law_book") = true) (k17 : PySem.W.keepIn K (.ref f17) = true)
    {f18 : Addr} {oc18 kV18 dc18 pm18 cd18 ct18 : Value} {od18 an18 : Option Addr} {sl18 : Array (Option Value)} (a18 : PySem.W.nsIn K mainGlobals (Str.ofString "_law_ahead") = some (some (.ref f18))) (l18 : K.lookup f18 = some ⟨oc18, od18, .func (PySem.W.fnOf (Str.ofString "_law_ahead") (Str.ofString "_law_ahead") (defArgs t__law_ahead.st) (defBody t__law_ahead.st) (defScope t__law_ahead.st) .none kV18 dc18 pm18 an18 cd18 ct18), sl18⟩) (c18 : PySem.W.codeIn K cd18 (Str.ofString "_law_ahead") = true) (k18 : PySem.W.keepIn K (.ref f18) = true)
    {f19 : Addr} {oc19 kV19 dc19 pm19 cd19 ct19 : Value} {od19 an19 : Option Addr} {sl19 : Array (Option Value)} (a19 : PySem.W.nsIn K mainGlobals (Str.ofString "_law_clash") = some (some (.ref f19))) (l19 : K.lookup f19 = some ⟨oc19, od19, .func (PySem.W.fnOf (Str.ofString "_law_clash") (Str.ofString "_law_clash") (defArgs t__law_clash.st) (defBody t__law_clash.st) (defScope t__law_clash.st) .none kV19 dc19 pm19 an19 cd19 ct19), sl19⟩) (c19 : PySem.W.codeIn K cd19 (Str.ofString "_law_clash") = true) (k19 : PySem.W.keepIn K (.ref f19) = true)
    {f20 : Addr} {oc20 kV20 dc20 pm20 cd20 ct20 : Value} {od20 an20 : Option Addr} {sl20 : Array (Option Value)} (a20 : PySem.W.nsIn K mainGlobals (Str.ofString "_law_pairs") = some (some (.ref f20))) (l20 : K.lookup f20 = some ⟨oc20, od20, .func (PySem.W.fnOf (Str.ofString "_law_pairs") (Str.ofString "_law_pairs") (defArgs t__law_pairs.st) (defBody t__law_pairs.st) (defScope t__law_pairs.st) .none kV20 dc20 pm20 an20 cd20 ct20), sl20⟩) (c20 : PySem.W.codeIn K cd20 (Str.ofString "_law_pairs") = true) (k20 : PySem.W.keepIn K (.ref f20) = true)
    {f21 : Addr} {oc21 kV21 dc21 pm21 cd21 ct21 : Value} {od21 an21 : Option Addr} {sl21 : Array (Option Value)} (a21 : PySem.W.nsIn K mainGlobals (Str.ofString "_law_facts") = some (some (.ref f21))) (l21 : K.lookup f21 = some ⟨oc21, od21, .func (PySem.W.fnOf (Str.ofString "_law_facts") (Str.ofString "_law_facts") (defArgs t__law_facts.st) (defBody t__law_facts.st) (defScope t__law_facts.st) .none kV21 dc21 pm21 an21 cd21 ct21), sl21⟩) (c21 : PySem.W.codeIn K cd21 (Str.ofString "_law_facts") = true) (k21 : PySem.W.keepIn K (.ref f21) = true)
    {f22 : Addr} {oc22 kV22 dc22 pm22 cd22 ct22 : Value} {od22 an22 : Option Addr} {sl22 : Array (Option Value)} (a22 : PySem.W.nsIn K mainGlobals (Str.ofString "_law_hand") = some (some (.ref f22))) (l22 : K.lookup f22 = some ⟨oc22, od22, .func (PySem.W.fnOf (Str.ofString "_law_hand") (Str.ofString "_law_hand") (defArgs t__law_hand.st) (defBody t__law_hand.st) (defScope t__law_hand.st) .none kV22 dc22 pm22 an22 cd22 ct22), sl22⟩) (c22 : PySem.W.codeIn K cd22 (Str.ofString "_law_hand") = true) (k22 : PySem.W.keepIn K (.ref f22) = true)
    {f23 : Addr} {oc23 kV23 dc23 pm23 cd23 ct23 : Value} {od23 an23 : Option Addr} {sl23 : Array (Option Value)} (a23 : PySem.W.nsIn K mainGlobals (Str.ofString "law") = some (some (.ref f23))) (l23 : K.lookup f23 = some ⟨oc23, od23, .func (PySem.W.fnOf (Str.ofString "law") (Str.ofString "law") (defArgs t_law.st) (defBody t_law.st) (defScope t_law.st) .none kV23 dc23 pm23 an23 cd23 ct23), sl23⟩) (c23 : PySem.W.codeIn K cd23 (Str.ofString "law") = true) (k23 : PySem.W.keepIn K (.ref f23) = true)
    (z0 : PySem.W.nsIn K mainGlobals (Str.ofString "abs") = some none) (z1 : PySem.W.nsIn K mainGlobals (Str.ofString "max") = some none) (z2 : PySem.W.nsIn K mainGlobals (Str.ofString "min") = some none) (z3 : PySem.W.nsIn K mainGlobals (Str.ofString "int") = some none) (z4 : PySem.W.nsIn K mainGlobals (Str.ofString "len") = some none) (z5 : PySem.W.nsIn K mainGlobals (Str.ofString "sum") = some none) (z6 : PySem.W.nsIn K mainGlobals (Str.ofString "list") = some none) (z7 : PySem.W.nsIn K mainGlobals (Str.ofString "tuple") = some none) (z8 : PySem.W.nsIn K mainGlobals (Str.ofString "sorted") = some none) (z9 : PySem.W.nsIn K mainGlobals (Str.ofString "str") = some none) (z10 : PySem.W.nsIn K mainGlobals (Str.ofString "range") = some none) (z11 : PySem.W.nsIn K mainGlobals (Str.ofString "isinstance") = some none) (z12 : PySem.W.nsIn K mainGlobals (Str.ofString "enumerate") = some none) (z13 : PySem.W.nsIn K mainGlobals (Str.ofString "bool") = some none) (z14 : PySem.W.nsIn K mainGlobals (Str.ofString "dict") = some none) (z15 : PySem.W.nsIn K mainGlobals (Str.ofString "any") = some none) (z16 : PySem.W.nsIn K mainGlobals (Str.ofString "all") = some none) (z17 : PySem.W.nsIn K mainGlobals (Str.ofString "set") = some none) :
    ∃ fd : FuncData, (∀ (s : Shared) (v : Value), BindsTo s fd ⟨[v], []⟩ [(Str.ofString "script", v)]) ∧ ∀ base : Heap, K.In base → base.Ns mainGlobals mg → FnOk P w K mg base CX0 40 fa fd [Str.ofString "script"] (Mi.spLaw 63 K) := by
  have e := hfa.symm.trans (PySem.W.mg_of KX G a23)
  cases e
  have A0 := at_is_ahead KX G a0 l0 c0 k0
  have A1 := at_are_clashing KX G a1 l1 c1 k1
  have A2 := at_do_clash KX G a2 l2 c2 k2
  have A3 := at_stands_ahead KX G a3 l3 c3 k3
  have A4 := at_all_numbers KX G a4 l4 c4 k4
  have A5 := at_clashes_of KX G a5 l5 c5 k5
  have A6 := at_wishes_behind KX G a6 l6 c6 k6
  have A7 := at_wishes_ahead KX G a7 l7 c7 k7
  have A8 := at_rooms_of KX G a8 l8 c8 k8
  have A9 := at_wishes_of KX G a9 l9 c9 k9
  have A10 := at_total_worth KX G a10 l10 c10 k10
  have A11 := at_span_of KX G a11 l11 c11 k11
  have A12 := at_busy_time KX G a12 l12 c12 k12
  have A13 := at__law_meadow KX G a13 l13 c13 k13
  have A14 := at__law_stroll KX G a14 l14 c14 k14
  have A15 := at__law_of KX G a15 l15 c15 k15
  have A16 := at__law_same KX G a16 l16 c16 k16
  have A17 := at__law_book KX G a17 l17 c17 k17
  have A18 := at__law_ahead KX G a18 l18 c18 k18
  have A19 := at__law_clash KX G a19 l19 c19 k19
  have A20 := at__law_pairs KX G a20 l20 c20 k20
  have A21 := at__law_facts KX G a21 l21 c21 k21
  have A22 := at__law_hand KX G a22 l22 c22 k22
  have A23 := at_law KX G a23 l23 c23 k23
  have ha : ∀ f t, Ψ f = some t → ∃ a fd, At K mg f t a fd := by
    intro f t h
    have hm := lookup_mem h
    unfold tabs at hm
    rcases List.mem_cons.mp hm with e | hm
    · cases e; exact ⟨_, _, A0⟩
    rcases List.mem_cons.mp hm with e | hm
    · cases e; exact ⟨_, _, A1⟩
    rcases List.mem_cons.mp hm with e | hm
    · cases e; exact ⟨_, _, A2⟩
    rcases List.mem_cons.mp hm with e | hm
    · cases e; exact ⟨_, _, A3⟩
    rcases List.mem_cons.mp hm with e | hm
    · cases e; exact ⟨_, _, A4⟩
    rcases List.mem_cons.mp hm with e | hm
    · cases e; exact ⟨_, _, A5⟩
    rcases List.mem_cons.mp hm with e | hm
    · cases e; exact ⟨_, _, A6⟩
    rcases List.mem_cons.mp hm with e | hm
    · cases e; exact ⟨_, _, A7⟩
    rcases List.mem_cons.mp hm with e | hm
    · cases e; exact ⟨_, _, A8⟩
    rcases List.mem_cons.mp hm with e | hm
    · cases e; exact ⟨_, _, A9⟩
    rcases List.mem_cons.mp hm with e | hm
    · cases e; exact ⟨_, _, A10⟩
    rcases List.mem_cons.mp hm with e | hm
    · cases e; exact ⟨_, _, A11⟩
    rcases List.mem_cons.mp hm with e | hm
    · cases e; exact ⟨_, _, A12⟩
    rcases List.mem_cons.mp hm with e | hm
    · cases e; exact ⟨_, _, A13⟩
    rcases List.mem_cons.mp hm with e | hm
    · cases e; exact ⟨_, _, A14⟩
    rcases List.mem_cons.mp hm with e | hm
    · cases e; exact ⟨_, _, A15⟩
    rcases List.mem_cons.mp hm with e | hm
    · cases e; exact ⟨_, _, A16⟩
    rcases List.mem_cons.mp hm with e | hm
    · cases e; exact ⟨_, _, A17⟩
    rcases List.mem_cons.mp hm with e | hm
    · cases e; exact ⟨_, _, A18⟩
    rcases List.mem_cons.mp hm with e | hm
    · cases e; exact ⟨_, _, A19⟩
    rcases List.mem_cons.mp hm with e | hm
    · cases e; exact ⟨_, _, A20⟩
    rcases List.mem_cons.mp hm with e | hm
    · cases e; exact ⟨_, _, A21⟩
    rcases List.mem_cons.mp hm with e | hm
    · cases e; exact ⟨_, _, A22⟩
    rcases List.mem_cons.mp hm with e | hm
    · cases e; exact ⟨_, _, A23⟩
    exact nomatch hm
  have hb : ∀ n ∈ bnames, mg (Str.ofString n) = none := by
    intro n hm
    unfold bnames at hm
    rcases List.mem_cons.mp hm with e | hm
    · cases e; exact PySem.W.mg_none_of KX G z0
    rcases List.mem_cons.mp hm with e | hm
    · cases e; exact PySem.W.mg_none_of KX G z1
    rcases List.mem_cons.mp hm with e | hm
    · cases e; exact PySem.W.mg_none_of KX G z2
    rcases List.mem_cons.mp hm with e | hm
    · cases e; exact PySem.W.mg_none_of KX G z3
    rcases List.mem_cons.mp hm with e | hm
    · cases e; exact PySem.W.mg_none_of KX G z4
    rcases List.mem_cons.mp hm with e | hm
    · cases e; exact PySem.W.mg_none_of KX G z5
    rcases List.mem_cons.mp hm with e | hm
    · cases e; exact PySem.W.mg_none_of KX G z6
    rcases List.mem_cons.mp hm with e | hm
    · cases e; exact PySem.W.mg_none_of KX G z7
    rcases List.mem_cons.mp hm with e | hm
    · cases e; exact PySem.W.mg_none_of KX G z8
    rcases List.mem_cons.mp hm with e | hm
    · cases e; exact PySem.W.mg_none_of KX G z9
    rcases List.mem_cons.mp hm with e | hm
    · cases e; exact PySem.W.mg_none_of KX G z10
    rcases List.mem_cons.mp hm with e | hm
    · cases e; exact PySem.W.mg_none_of KX G z11
    rcases List.mem_cons.mp hm with e | hm
    · cases e; exact PySem.W.mg_none_of KX G z12
    rcases List.mem_cons.mp hm with e | hm
    · cases e; exact PySem.W.mg_none_of KX G z13
    rcases List.mem_cons.mp hm with e | hm
    · cases e; exact PySem.W.mg_none_of KX G z14
    rcases List.mem_cons.mp hm with e | hm
    · cases e; exact PySem.W.mg_none_of KX G z15
    rcases List.mem_cons.mp hm with e | hm
    · cases e; exact PySem.W.mg_none_of KX G z16
    rcases List.mem_cons.mp hm with e | hm
    · cases e; exact PySem.W.mg_none_of KX G z17
    exact nomatch hm
  exact ⟨PySem.W.fnOf (Str.ofString "law") (Str.ofString "law") (defArgs t_law.st) (defBody t_law.st) (defScope t_law.st) .none kV23 dc23 pm23 an23 cd23 ct23, fun s v => .of_eq rfl, fun base _ _ => law_ok chk_all ha hb rfl A23 rfl plain⟩
end
end K01
open PySem PySem.W PyProof.Rows
set_option maxHeartbeats 0 in
theorem PySem.Challenge.cw_whoevercomesfirst_k01_clashes_facts_holds : PySem.Challenge.rw_whoevercomesfirst_k01_clashes_facts.Holds := by
  w_on; o_law; k_head; (case hw => w_witness2)
  k_fill
  refine L2.walk_of (l := PySem.Challenge.rw_whoevercomesfirst_k01_clashes_facts) (n := 63) (k := 40) (x := Str.ofString "script") (CX := fun _ => L2.CX0) (sp := fun w => Mi.spLaw 63 _) rfl (by decide) rfl ⟨rfl, by decide, by decide⟩ (fun w h Y => PySem.W.kIn_of Y) ?F (fun _ H a ns hl hO hS => ⟨a, ns, rfl, hl, hO, hS, fun _ => rfl⟩) (fun _ _ _ _ _ h => h)
  case F =>
    intro w mg fa h KX G hmg
    refine' K01.all_mk KX G hmg ?a0 ?l0 ?c0 ?k0 ?a1 ?l1 ?c1 ?k1 ?a2 ?l2 ?c2 ?k2 ?a3 ?l3 ?c3 ?k3 ?a4 ?l4 ?c4 ?k4 ?a5 ?l5 ?c5 ?k5 ?a6 ?l6 ?c6 ?k6 ?a7 ?l7 ?c7 ?k7 ?a8 ?l8 ?c8 ?k8 ?a9 ?l9 ?c9 ?k9 ?a10 ?l10 ?c10 ?k10 ?a11 ?l11 ?c11 ?k11 ?a12 ?l12 ?c12 ?k12 ?a13 ?l13 ?c13 ?k13 ?a14 ?l14 ?c14 ?k14 ?a15 ?l15 ?c15 ?k15 ?a16 ?l16 ?c16 ?k16 ?a17 ?l17 ?c17 ?k17 ?a18 ?l18 ?c18 ?k18 ?a19 ?l19 ?c19 ?k19 ?a20 ?l20 ?c20 ?k20 ?a21 ?l21 ?c21 ?k21 ?a22 ?l22 ?c22 ?k22 ?a23 ?l23 ?c23 ?k23 ?z0 ?z1 ?z2 ?z3 ?z4 ?z5 ?z6 ?z7 ?z8 ?z9 ?z10 ?z11 ?z12 ?z13 ?z14 ?z15 ?z16 ?z17
    (case a0 => k_is)
    (case l0 => k_is)
    (case c0 => k_is)
    (case k0 => k_is)
    (case a1 => k_is)
    (case l1 => k_is)
    (case c1 => k_is)
    (case k1 => k_is)
    (case a2 => k_is)
    (case l2 => k_is)
    (case c2 => k_is)
    (case k2 => k_is)
    (case a3 => k_is)
    (case l3 => k_is)
    (case c3 => k_is)
    (case k3 => k_is)
    (case a4 => k_is)
    (case l4 => k_is)
    (case c4 => k_is)
    (case k4 => k_is)
    (case a5 => k_is)
    (case l5 => k_is)
    (case c5 => k_is)
    (case k5 => k_is)
    (case a6 => k_is)
    (case l6 => k_is)
    (case c6 => k_is)
    (case k6 => k_is)
    (case a7 => k_is)
    (case l7 => k_is)
    (case c7 => k_is)
    (case k7 => k_is)
    (case a8 => k_is)
    (case l8 => k_is)
    (case c8 => k_is)
    (case k8 => k_is)
    (case a9 => k_is)
    (case l9 => k_is)
    (case c9 => k_is)
    (case k9 => k_is)
    (case a10 => k_is)
    (case l10 => k_is)
    (case c10 => k_is)
    (case k10 => k_is)
    (case a11 => k_is)
    (case l11 => k_is)
    (case c11 => k_is)
    (case k11 => k_is)
    (case a12 => k_is)
    (case l12 => k_is)
    (case c12 => k_is)
    (case k12 => k_is)
    (case a13 => k_is)
    (case l13 => k_is)
    (case c13 => k_is)
    (case k13 => k_is)
    (case a14 => k_is)
    (case l14 => k_is)
    (case c14 => k_is)
    (case k14 => k_is)
    (case a15 => k_is)
    (case l15 => k_is)
    (case c15 => k_is)
    (case k15 => k_is)
    (case a16 => k_is)
    (case l16 => k_is)
    (case c16 => k_is)
    (case k16 => k_is)
    (case a17 => k_is)
    (case l17 => k_is)
    (case c17 => k_is)
    (case k17 => k_is)
    (case a18 => k_is)
    (case l18 => k_is)
    (case c18 => k_is)
    (case k18 => k_is)
    (case a19 => k_is)
    (case l19 => k_is)
    (case c19 => k_is)
    (case k19 => k_is)
    (case a20 => k_is)
    (case l20 => k_is)
    (case c20 => k_is)
    (case k20 => k_is)
    (case a21 => k_is)
    (case l21 => k_is)
    (case c21 => k_is)
    (case k21 => k_is)
    (case a22 => k_is)
    (case l22 => k_is)
    (case c22 => k_is)
    (case k22 => k_is)
    (case a23 => k_is)
    (case l23 => k_is)
    (case c23 => k_is)
    (case k23 => k_is)
    (case z0 => k_is)
    (case z1 => k_is)
    (case z2 => k_is)
    (case z3 => k_is)
    (case z4 => k_is)
    (case z5 => k_is)
    (case z6 => k_is)
    (case z7 => k_is)
    (case z8 => k_is)
    (case z9 => k_is)
    (case z10 => k_is)
    (case z11 => k_is)
    (case z12 => k_is)
    (case z13 => k_is)
    (case z14 => k_is)
    (case z15 => k_is)
    (case z16 => k_is)
    (case z17 => k_is)
